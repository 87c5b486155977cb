/- PactInside returns true for every arena, number and word. Conditions: the statement's own alone, part 2 of the proof. -/
import Derived.Test.YtclepinjnoiakaaGreatDoorCaa
import Derived.Deep.AppendSrc
import Derived.Deep.Upon
import Derived.Laws.MakeOwn
import Derived.Laws.IdiomStrings
set_option linter.all false
namespace Go.Proofs.YtclepinjnoiakaaGreatDoor.K.Hm
open Go
theorem run_sobj {P : Program} {w : World} {r : Nat} {o o' : Obj} (h : w.heap[r]? = some o) (hc : notCells o = true) : (setObj r o').run P w = .ok () (setB w r o') := by
 unfold setObj
 simp only [Sem.run, h]
 cases o <;> first | rfl | (simp [notCells] at hc)
theorem setI_get : ∀ (es : List (HV × HV)) (i : Nat) (v : HV) (j : Nat), (setI es i v).length = es.length /\ (setI es i v)[j]? = if j = i then (es[j]?).map (fun p => (p.1, v)) else es[j]?
 | [], i, v, j => ⟨rfl, by simp [setI]⟩
 | (a, x) :: r, i, v, j => by
  simp only [setI]
  cases i with
  | zero =>
   have : Nat.beq 0 0 = true := rfl
   rw [this]
   refine ⟨rfl, ?_⟩
   cases j with
   | zero => rfl
   | succ j => simp
  | succ i =>
   have : Nat.beq (i + 1) 0 = false := rfl
   rw [this]
   obtain ⟨h1, _⟩ := setI_get r i v 0
   refine ⟨by simp only [cond_false, List.length_cons, Nat.pred_succ, h1], ?_⟩
   cases j with
   | zero => simp
   | succ j =>
    obtain ⟨_, h2⟩ := setI_get r i v j
    simp only [cond_false, List.getElem?_cons_succ, Nat.pred_succ, h2, Nat.add_right_cancel_iff]
section sound
variable {M : Nat -> Prop} {C : CRel} {P : Program} {β : Bt} {s : HS} {w : World} {e : En} {a : Act}
theorem Rel.mapSet (hr : Rel M C β s w) {o : Ky} {pl : Pl} (hpl : β o = some pl) {es es2 : List (HV × HV)} (h : tget s.h o = some (.mp es)) {es2' : Array MapEntry} (hn : es2'.size = es2.length)
  (hc : ∀ (i : Nat) (k v : HV), es2[i]? = some (k, v) -> ∃ x, es2'[i]? = some x /\ HR β (Live M s β) w k x.key /\ HR β (Live M s β) w v x.val /\ x.born = i) :
  Rel M C β (s.setOb o (.mp es2)) (setB w pl.b (.map es2' es2.length)) /\ Ext M β s w β (s.setOb o (.mp es2)) (setB w pl.b (.map es2' es2.length)) := by
 obtain ⟨es', hb, _⟩ := hr.map hpl h
 refine hr.upd h hpl (by simp [setB]) (fun b hb' => setB_other w _ hb') (setB_has' hb rfl) rfl rfl rfl (fun r hr' => by rw [hb] at hr'; cases hr') (fun hk => ?_) (fun o' ob'' pl' hne ho' hpl' hbb hk => ?_) (.inr ⟨by simp, by simp⟩)
 ·exact .mp es2 es2' (setB_same hb) hn fun i k v hi => let ⟨x, a1, a2, a3, a4⟩ := hc i k v hi; ⟨x, a1, a2.keep (Bt.le_refl _) (Less.refl _ _) hk, a3.keep (Bt.le_refl _) (Less.refl _ _) hk, a4⟩
 ·obtain ⟨_, t, lo, hi, g, t', lo', hi', h1, _⟩ := hr.apart o o' _ _ pl pl' h ho' hpl hpl' hne.symm hbb.symm
  cases h1
theorem findI_lt {K : Kd} {k : HV} : ∀ {es : List (HV × HV)} {i0 j : Nat} {v : HV}, findI K es k i0 = some (j, some v) -> i0 <= j /\ j < i0 + es.length
 | [], i0, j, v, h => by cases h
 | (a, x) :: r, i0, j, v, h => by
  simp only [findI] at h
  split at h
  ·cases h; simp
  ·have := findI_lt h; simp only [List.length_cons]; omega
  ·cases h
theorem findI_none {K : Kd} {k : HV} : ∀ {es : List (HV × HV)} {i0 n : Nat}, findI K es k i0 = some (n, none) -> n = i0 + es.length
 | [], i0, n, h => by cases h; rfl
 | (a, x) :: r, i0, n, h => by
  simp only [findI] at h
  split at h
  ·cases h
  ·have := findI_none h; simp only [List.length_cons]; omega
  ·cases h
theorem map_write (hr : Rel M C β s w) {o : Ky} {pl : Pl} (hpl : β o = some pl) {es : List (HV × HV)} (h : tget s.h o = some (.mp es)) {K : Kd} {T : TypeId} (hK : chkK P K T = true) {q : HV} {u : Value} (hok : okK K q = true) (hq : HR β (Live M s β) w q u) :
  ∃ es' : Array MapEntry, w.heap[pl.b]? = some (.map es' es.length) /\ (Instr.checkKey false 10000 T u).run P w = .ok () w /\
   (∀ i v0, findI K es q 0 = some (i, some v0) -> ∃ x, es'[i]? = some x /\ x.key = u /\ x.born = i /\ HR β (Live M s β) w v0 x.val /\ (Instr.findKey T u es'.toList).run P w = .ok (some (i, x.val)) w /\
    ∀ v z, HR β (Live M s β) w v z -> Rel M C β (s.setOb o (.mp (setI es i v))) (setB w pl.b (.map (es'.modify i fun e => { e with key := u, val := z }) es.length)) /\
     Ext M β s w β (s.setOb o (.mp (setI es i v))) (setB w pl.b (.map (es'.modify i fun e => { e with key := u, val := z }) es.length))) /\
   (∀ n, findI K es q 0 = some (n, none) -> (Instr.findKey T u es'.toList).run P w = .ok none w /\
    ∀ v z, HR β (Live M s β) w v z -> Rel M C β (s.setOb o (.mp (es ++ [(q, v)]))) (setB w pl.b (.map (es'.push { key := u, val := z, born := es.length }) (es.length + 1))) /\
     Ext M β s w β (s.setOb o (.mp (es ++ [(q, v)]))) (setB w pl.b (.map (es'.push { key := u, val := z, born := es.length }) (es.length + 1)))) := by
 obtain ⟨es', g1, g2, g3⟩ := hr.map hpl h
 have hsz : es'.size = es.length := by have := g2.1; simpa using this
 refine ⟨es', g1, checkKey_sound hK hok hq false, fun i v0 hf => ?_, fun n hf => ?_⟩
 ·obtain ⟨o', f1, f2⟩ := findKey_sound (P := P) hK hq g2 hf
  obtain ⟨x, _, f3, rfl, f4, f5⟩ := f2
  simp only [Nat.sub_zero] at f3
  rw [Array.getElem?_toList] at f3
  refine ⟨x, f3, f5, g3 i x f3, f4, f1, fun v z hv => ?_⟩
  have hl := (setI_get es i v 0).1
  have := hr.mapSet hpl h (es2 := setI es i v) (es2' := es'.modify i fun e => { e with key := u, val := z }) (by simp [hsz, hl]) (fun j k v' hj => by
   have hjs := (setI_get es i v j).2
   rw [hj] at hjs
   rw [Array.getElem?_modify]
   by_cases hji : j = i
   ·subst hji
    rw [if_pos rfl] at hjs
    rw [if_pos rfl, f3]
    cases hes : es[j]? with
    | none => rw [hes] at hjs; cases hjs
    | some p =>
     rw [hes] at hjs; cases hjs
     have hp := g2.2 j p x hes (by rw [Array.getElem?_toList]; exact f3)
     exact ⟨_, rfl, by rw [<- f5]; exact hp.1, hv, g3 j x f3⟩
   ·rw [if_neg hji] at hjs
    rw [if_neg (fun e => hji e.symm)]
    have hjl := (List.getElem?_eq_some_iff.1 hjs.symm).1
    have hx : es'[j]? = some (es'[j]'(by omega)) := Array.getElem?_eq_getElem (by omega)
    have hp := g2.2 j (k, v') _ hjs.symm (by rw [Array.getElem?_toList]; exact hx)
    exact ⟨_, hx, hp.1, hp.2, g3 j _ hx⟩)
  rw [hl] at this
  exact this
 ·obtain ⟨o', f1, f2⟩ := findKey_sound (P := P) hK hq g2 hf
  obtain ⟨rfl, _⟩ := f2
  refine ⟨f1, fun v z hv => ?_⟩
  have := hr.mapSet hpl h (es2 := es ++ [(q, v)]) (es2' := es'.push { key := u, val := z, born := es.length }) (by simp [hsz]) (fun j k v' hj => by
   rw [Array.getElem?_push]
   by_cases hjl : j = es'.size
   ·subst hjl
    rw [List.getElem?_append_right (by omega), hsz] at hj
    simp only [Nat.sub_self, List.getElem?_cons_zero, Option.some.injEq, Prod.mk.injEq] at hj
    obtain ⟨rfl, rfl⟩ := hj
    rw [if_pos rfl]
    exact ⟨_, rfl, hq, hv, hsz.symm⟩
   ·have hlt : j < es.length := by have := (List.getElem?_eq_some_iff.1 hj).1; simp at this; omega
    rw [List.getElem?_append_left hlt] at hj
    rw [if_neg hjl]
    have hx : es'[j]? = some (es'[j]'(by omega)) := Array.getElem?_eq_getElem (by omega)
    have hp := g2.2 j (k, v') _ hj (by rw [Array.getElem?_toList]; exact hx)
    exact ⟨_, hx, hp.1, hp.2, g3 j _ hx⟩)
  simpa using this
theorem do_mup (hr : Rel M C β s w) (he : EnvV β (Live M s β) w e a) {go : Oper} {K : Kd} {m k v : X} (hc : chkOp P (.mup K m k v) go.op = true) : Does M C P β s w a go (hMup K m k v e s) := by
 have hgo : ∃ t m' k' v', (go.op = .mapUpdate t m' k' v' ∨ go.op = .insert t m' k' v') /\ chkX m m' = true /\ chkX k k' = true /\ chkX v v' = true /\ ∃ T E, P.underlying t = some (.map T E) /\ chkK P K T = true := by
  cases hgo : go.op <;> simp only [hgo] at hc <;> first | (simp [chkOp] at hc; done) | skip
  all_goals
   simp only [chkOp, Bool.and_eq_true] at hc
   obtain ⟨⟨⟨hm, hk⟩, hv⟩, hc⟩ := hc
   split at hc
   ·rename_i T E ht
    first
     | exact ⟨_, _, _, _, .inl rfl, hm, hk, hv, T, E, ht, hc⟩
     | exact ⟨_, _, _, _, .inr rfl, hm, hk, hv, T, E, ht, hc⟩
   ·cases hc
 obtain ⟨t, m', k', v', hgo, hm, hk, hv, T, E, ht, hK⟩ := hgo
 unfold hMup
 cases h1 : opd m e with
 | none => trivial
 | some p =>
  cases h2 : opd k e with
  | none => cases p <;> trivial
  | some q =>
   cases h3 : opd v e with
   | none => cases p <;> trivial
   | some z =>
    have hp := opd_sound he hm h1
    have hq := opd_sound he hk h2
    have hz := opd_sound he hv h3
    generalize hu : a.eval m' = u at hp
    generalize hu2 : a.eval k' = u2 at hq
    generalize hu3 : a.eval v' = u3 at hz
    have hexec : (execOp a.eval go).run P w = ((Instr.mapUpdate t u u2 u3).run P w).andThen fun _ w => .ok .skip w := by
     rcases hgo with hgo | hgo <;> simp [execOp, hgo, hu, hu2, hu3]
    cases hp with
    | mp o pl hpl =>
     simp only []
     cases hok : okK K q with
     | false => trivial
     | true =>
      simp only [cond_true]
      cases h4 : tget s.h o with
      | none => trivial
      | some ob =>
       cases ob with
       | mp es =>
        simp only []
        obtain ⟨es', g1, g2, g3, g4⟩ := map_write hr hpl h4 hK hok hq
        cases h5 : findI K es q 0 with
        | none => trivial
        | some r =>
         obtain ⟨i, vo⟩ := r
         cases vo with
         | none =>
          obtain ⟨k1, k2⟩ := g4 i h5
          obtain ⟨r1, r2⟩ := k2 z u3 hz
          refine ⟨Go.undef, _, β, .inr ⟨?_, rfl⟩, r1, r2, .undef⟩
          rw [hexec]
          simp only [Instr.mapUpdate, Sem.run_bind, run_underlying ht, Result.andThen_ok, run_gobj g1 rfl, g2, k1, run_sobj g1 rfl]
         | some v0 =>
          obtain ⟨x, k1, k2, k3, k4, k5, k6⟩ := g3 i v0 h5
          obtain ⟨r1, r2⟩ := k6 z u3 hz
          refine ⟨Go.undef, _, β, .inr ⟨?_, rfl⟩, r1, r2, .undef⟩
          rw [hexec]
          simp only [Instr.mapUpdate, Sem.run_bind, run_underlying ht, Result.andThen_ok, run_gobj g1 rfl, g2, k5, k1, Option.map_some, Option.getD_some, k2, keyStays hK hok hq, run_sobj g1 rfl]
       | cells => trivial
       | loop => trivial
    | _ => trivial
theorem do_men (hr : Rel M C β s w) (he : EnvV β (Live M s β) w e a) {go : Oper} {K : Kd} {m k : X} {z : HV} (hc : chkOp P (.men K m k z) go.op = true) : Does M C P β s w a go (hMen K m k z e s) := by
 cases hgo : go.op <;> simp only [hgo] at hc <;> first | (simp [chkOp] at hc; done) | skip
 rename_i t m' k'
 simp only [chkOp, Bool.and_eq_true] at hc
 obtain ⟨⟨hm, hk⟩, hc⟩ := hc
 split at hc
 case h_2 => cases hc
 rename_i T E ht
 simp only [Bool.and_eq_true] at hc
 obtain ⟨hK, hz⟩ := hc
 have hzero : ∃ zv, (∀ w, (zeroValue E).run P w = .ok zv w) /\ ∀ N, HR β N w z zv := by
  split at hz
  ·rename_i cs hzz
   obtain ⟨inf, hinf, hz0⟩ := Option.bind_eq_some_iff.1 hzz
   split at hz
   ·rename_i l
    refine ⟨.agg cs, fun w => by simp [zeroValue, typeInfo, hinf, hz0], fun N => ?_⟩
    have := chkVs_sound hz β N w
    exact .agg l cs (chkVs_one _ _ hz) (by simpa using this.1) fun i v u hv hu => this.2 i v u hv (by simpa using hu)
   ·cases hz
  ·rename_i v _ hzz
   obtain ⟨inf, hinf, hz0⟩ := Option.bind_eq_some_iff.1 hzz
   exact ⟨v, fun w => by simp [zeroValue, typeInfo, hinf, hz0], fun N => chkV_sound hz β N w⟩
  ·cases hz
 obtain ⟨zv, hz1, hz2⟩ := hzero
 unfold hMen
 cases h1 : opd m e with
 | none => trivial
 | some p =>
  cases h2 : opd k e with
  | none => cases p <;> trivial
  | some q =>
   have hp := opd_sound he hm h1
   have hq := opd_sound he hk h2
   generalize hu : a.eval m' = u at hp
   generalize hu2 : a.eval k' = u2 at hq
   have tupR : ∀ {β' : Bt} {N : Nat -> Prop} {w' : World} (v : HV) (x : Value) (i : Nat), HR β' N w' v x -> HR β' N w' (.tup [v, .int .i64 (.ofNat i)]) (.tuple #[x, goInt i]) := by
    intro β' N w' v x i hv
    refine .tup _ _ rfl fun j y z hy hz => ?_
    match j with
    | 0 => simp at hy hz; subst hy; subst hz; exact hv
    | 1 => simp at hy hz; subst hy; subst hz; exact .int .i64 (.ofNat i)
    | j + 2 => simp at hy
   cases hp with
   | mp o pl hpl =>
    simp only []
    cases hok : okK K q with
    | false => trivial
    | true =>
     simp only [cond_true]
     cases h4 : tget s.h o with
     | none => trivial
     | some ob =>
      cases ob with
      | mp es =>
       simp only []
       obtain ⟨es', g1, g2, g3, g4⟩ := map_write hr hpl h4 hK hok hq
       cases h5 : findI K es q 0 with
       | none => trivial
       | some r =>
        obtain ⟨i, vo⟩ := r
        cases vo with
        | none =>
         obtain ⟨k1, k2⟩ := g4 i h5
         obtain ⟨r1, r2⟩ := k2 z zv (hz2 _)
         simp only []
         rw [lenL_eq]
         refine ⟨.tuple #[zv, goInt es.length], _, β, .inl ?_, r1, r2, tupR z zv es.length ((hz2 _).ext r2)⟩
         simp only [execOp, hgo, hu, hu2, Instr.mapEntry, Sem.run_bind, run_underlying ht, Result.andThen_ok, run_gobj g1 rfl, g2, k1, hz1, run_sobj g1 rfl, Sem.run_pure]
        | some v0 =>
         obtain ⟨x, k1, k2, k3, k4, k5, k6⟩ := g3 i v0 h5
         obtain ⟨r1, r2⟩ := k6 v0 x.val k4
         have hset : setI es i v0 = es := by
          apply List.ext_getElem?
          intro j
          rw [(setI_get es i v0 j).2]
          by_cases hj : j = i
          ·subst hj
           rw [if_pos rfl]
           have : ∀ (es : List (HV × HV)) (i0 : Nat) (j : Nat), findI K es q i0 = some (j, some v0) -> (es[j - i0]?).map (fun p => (p.1, v0)) = es[j - i0]? := by
            intro es
            induction es with
            | nil => intro i0 j h; cases h
            | cons p es ih =>
             obtain ⟨pk, pv⟩ := p
             intro i0 j h
             simp only [findI] at h
             split at h
             ·cases h; simp
             ·have hlt := findI_lt h
              have := ih (i0 + 1) j h
              rw [show j - i0 = (j - (i0 + 1)) + 1 by omega]; simpa using this
             ·cases h
           simpa using this es 0 j h5
          ·rw [if_neg hj]
         rw [hset] at r1 r2
         have hso : s.setOb o (.mp es) = { s with h := tset (some (.mp es)) o s.h } := rfl
         have hsame : ∀ y, tget (s.setOb o (.mp es)).h y = tget s.h y := fun y => by
          show tget (tset (some (.mp es)) o s.h) y = _
          rw [tget_tset]; split
          ·rename_i e; rw [e, h4]
          ·rfl
         have hlv : ∀ b, Live M (s.setOb o (.mp es)) β b ↔ Live M s β b := fun b => or_congr Iff.rfl ⟨fun ⟨y, ob, pl, a1, a2, a3⟩ => ⟨y, ob, pl, by rw [<- hsame]; exact a1, a2, a3⟩, fun ⟨y, ob, pl, a1, a2, a3⟩ => ⟨y, ob, pl, by rw [hsame]; exact a1, a2, a3⟩⟩
         have hr' : Rel M C β s (setB w pl.b (.map (es'.modify i fun e => { e with key := u2, val := x.val }) es.length)) :=
          ⟨r1.lt, fun y ob hy => let ⟨pl', b1, b2⟩ := r1.obj y ob (by rw [hsame]; exact hy); ⟨pl', b1, b2.keep (Bt.le_refl _) (fun b _ hb => (hlv b).2 hb) (Keeps.refl _ _) rfl⟩,
           fun y y' ob ob' pl1 pl2 c1 c2 => r1.apart y y' ob ob' pl1 pl2 (by rw [hsame]; exact c1) (by rw [hsame]; exact c2), fun y t lo hi g hy => r1.grp y t lo hi g (by rw [hsame]; exact hy), r1.gnx, r1.mlt, hr.mal, r1.tyr⟩
         have hx' : Ext M β s w β s (setB w pl.b (.map (es'.modify i fun e => { e with key := u2, val := x.val }) es.length)) :=
          ⟨r2.le, r2.keeps, fun b hb hl => r2.less b hb ((hlv b).2 hl), r2.os, r2.tape, r2.output, r2.loops, r2.nx, r2.priv⟩
         refine ⟨.tuple #[x.val, goInt i], _, β, .inl ?_, hr', hx', tupR v0 x.val i (k4.ext hx')⟩
         have hmod : (es'.modify i fun e => { e with key := u2 }) = (es'.modify i fun e => { e with key := u2, val := x.val }) := by
          apply Array.ext_getElem?
          intro j
          rw [Array.getElem?_modify, Array.getElem?_modify]
          by_cases hj : i = j
          ·subst hj; rw [if_pos rfl, if_pos rfl, k1]; rfl
          ·rw [if_neg hj, if_neg hj]
         simp only [execOp, hgo, hu, hu2, Instr.mapEntry, Sem.run_bind, run_underlying ht, Result.andThen_ok, run_gobj g1 rfl, g2, k5, k1, Option.map_some, Option.getD_some, k2, keyStays hK hok hq, hmod, run_sobj g1 rfl, Sem.run_pure, k3]
      | cells => trivial
      | loop => trivial
   | _ => trivial
theorem do_mes (hr : Rel M C β s w) (he : EnvV β (Live M s β) w e a) {go : Oper} {m i v : X} (hc : chkOp P (.mes m i v) go.op = true) : Does M C P β s w a go (hMes m i v e s) := by
 cases hgo : go.op <;> simp only [hgo] at hc <;> first | (simp [chkOp] at hc; done) | skip
 rename_i t m' i' v'
 simp only [chkOp, Bool.and_eq_true] at hc
 obtain ⟨⟨hm, hi⟩, hv⟩ := hc
 unfold hMes
 cases h1 : opd m e with
 | none => trivial
 | some p =>
  cases h2 : opd i e with
  | none => cases p <;> trivial
  | some q =>
   cases h3 : opd v e with
   | none => cases p <;> cases q <;> first | trivial | (rename_i k n; cases n <;> trivial)
   | some z =>
    have hp := opd_sound he hm h1
    have hq := opd_sound he hi h2
    have hz := opd_sound he hv h3
    generalize hu : a.eval m' = u at hp
    generalize hu2 : a.eval i' = u2 at hq
    generalize hu3 : a.eval v' = u3 at hz
    cases hp with
    | mp o pl hpl =>
     cases hq with
     | int kd n =>
      cases n with
      | negSucc n => trivial
      | ofNat n =>
       simp only []
       cases h4 : tget s.h o with
       | none => trivial
       | some ob =>
        cases ob with
        | mp es =>
         simp only []
         cases h5 : Nat.blt n (lenL es) with
         | false => trivial
         | true =>
          rw [blt_iff, lenL_eq] at h5
          simp only [cond_true]
          obtain ⟨es', g1, g2, g3⟩ := hr.map hpl h4
          have hsz : es'.size = es.length := by have := g2.1; simpa using this
          have hl := (setI_get es n z 0).1
          obtain ⟨r1, r2⟩ := hr.mapSet hpl h4 (es2 := setI es n z) (es2' := es'.modify n fun e => { e with val := u3 }) (by simp [hsz, hl]) (fun j k v' hj => by
           have hjs := (setI_get es n z j).2
           rw [hj] at hjs
           rw [Array.getElem?_modify]
           by_cases hji : j = n
           ·subst hji
            rw [if_pos rfl] at hjs
            have hx : es'[j]? = some (es'[j]'(by omega)) := Array.getElem?_eq_getElem (by omega)
            rw [if_pos rfl, hx]
            cases hes : es[j]? with
            | none => rw [hes] at hjs; cases hjs
            | some p =>
             rw [hes] at hjs; cases hjs
             have hp := g2.2 j p _ hes (by rw [Array.getElem?_toList]; exact hx)
             exact ⟨_, rfl, hp.1, hz, by simpa using g3 j _ hx⟩
           ·rw [if_neg hji] at hjs
            rw [if_neg (fun e => hji e.symm)]
            have hjl := (List.getElem?_eq_some_iff.1 hjs.symm).1
            have hx : es'[j]? = some (es'[j]'(by omega)) := Array.getElem?_eq_getElem (by omega)
            have hp := g2.2 j (k, v') _ hjs.symm (by rw [Array.getElem?_toList]; exact hx)
            exact ⟨_, hx, hp.1, hp.2, g3 j _ hx⟩)
          rw [hl] at r1 r2
          refine ⟨Go.undef, _, β, .inr ⟨?_, rfl⟩, r1, r2, .undef⟩
          have hfind : es'.findIdx? (fun e => (e.born : Int) == (Int.ofNat n)) = some n := by
           rw [Array.findIdx?_eq_some_iff_getElem]
           have hns : n < es'.size := by omega
           refine ⟨hns, ?_, fun j hj => ?_⟩
           ·have := g3 n es'[n] (Array.getElem?_eq_getElem hns); simp [this]
           ·have := g3 j es'[j] (Array.getElem?_eq_getElem (by omega)); simp [this]; omega
          simp only [execOp, hgo, hu, hu2, hu3, Instr.entryStore, Sem.run_bind, run_gobj g1 rfl, Result.andThen_ok, asInt, asIntOf, Sem.run_pure, hfind, run_sobj g1 rfl]
        | cells => trivial
        | loop => trivial
     | _ => trivial
    | _ => trivial
end sound
section sound
variable {M : Nat -> Prop} {C : CRel} {P : Program} {β : Bt} {s : HS} {w : World} {e : En} {a : Act}
theorem Rel.adoptAt (h : Rel M C β s w) {pl : Pl} (hM : ¬ M pl.b) (hb : pl.b < w.heap.size) {ob : Ob} {t : Tr HV} {lo hi : Nat} {g : Ky} (hob' : ob = .cells t lo hi g)
  {ty : Tr (Nat × Nat)} (hty : ty = s.ty ∨ ∃ E, ty = tset (some (E, 0)) s.nx s.ty /\ TyIs w pl.b E 0)
  {gr : Tr (List Ky)} (hgr : ∃ ms, tget gr g = some ms /\ s.nx ∈ ms) (hgold : ∀ g' ms x, tget s.gr g' = some ms -> x ∈ ms -> (∃ ob, tget s.h x = some ob) -> ∃ ms', tget gr g' = some ms' /\ x ∈ ms') (hgnx : ∀ g' ms, tget gr g' = some ms -> g'.toNat < s.nx.succ.toNat)
  (hap : ∀ o' ob' pl', tget s.h o' = some ob' -> β o' = some pl' -> pl'.b = pl.b -> pl'.s = pl.s /\ ∃ t' lo' hi', ob' = .cells t' lo' hi' g)
  (hN : Live M s β pl.b ∨ ∀ o ob', tget s.h o = some ob' -> ∃ pl', β o = some pl' /\ ObR C β (fun x => x = pl.b ∨ Live M s β x) w pl' ob')
  (hob : ObR C (β.add s.nx pl) (fun x => x = pl.b ∨ Live M s β x) w pl ob) :
  Rel M C (β.add s.nx pl) { h := tset (some ob) s.nx s.h, nx := s.nx.succ, gr := gr, ty := ty } w := by
 subst hob'
 have hfresh := h.fresh
 have hle : β.le (β.add s.nx pl) := Bt.le_add hfresh
 have hlive : ∀ x, Live M { h := tset (some (.cells t lo hi g)) s.nx s.h, nx := s.nx.succ, gr := gr, ty := ty } (β.add s.nx pl) x -> x = pl.b ∨ Live M s β x := by
  rintro x (hm | ⟨o, ob', pl', h1, h2, rfl⟩)
  ·exact .inr (.inl hm)
  simp only [tget_tset] at h1
  unfold Bt.add at h2
  by_cases ho : o = s.nx
  ·simp only [ho, if_true, Option.some.injEq] at h2; subst h2; exact .inl rfl
  ·simp only [ho, if_false] at h1 h2; exact .inr (.inr ⟨o, ob', pl', h1, h2, rfl⟩)
 refine ⟨fun o pl' ho => ?_, fun o ob' ho => ?_, fun o o' ob1 ob2 pl1 pl2 h1 h2 h3 h4 hne hbb => ?_, fun o t' lo' hi' g' ho => ?_, hgnx, h.mlt, ?_, h.tyMore rfl (hty.imp id fun ⟨E, h1, h2⟩ => ⟨E, 0, h1, h2, fun h => absurd rfl h⟩)⟩
 rotate_right
 ·rintro x hm ⟨o, ob', pl', h1, h2, rfl⟩
  simp only [tget_tset] at h1
  unfold Bt.add at h2
  by_cases ho : o = s.nx
  ·simp only [ho, if_true, Option.some.injEq] at h2; subst h2; exact hM hm
  ·simp only [ho, if_false] at h1 h2; exact h.mal _ hm ⟨o, ob', pl', h1, h2, rfl⟩
 ·unfold Bt.add at ho
  rw [Ky.toNat_succ]
  by_cases he : o = s.nx
  ·simp only [he, if_true, Option.some.injEq] at ho; subst ho; subst he; exact ⟨by omega, hb⟩
  ·simp only [he, if_false] at ho; have := h.lt o pl' ho; omega
 ·simp only [tget_tset] at ho
  by_cases he : o = s.nx
  ·simp only [he, if_true, Option.some.injEq] at ho; subst ho; subst he
   exact ⟨pl, by simp [Bt.add], hob.keep (Bt.le_refl _) (fun x _ hx => hlive x hx) (Keeps.refl _ _) rfl⟩
  ·simp only [he, if_false] at ho
   rcases hN with hl | hg
   ·obtain ⟨pl', h1, h2⟩ := h.obj o ob' ho
    refine ⟨pl', hle _ _ h1, h2.keep hle (fun x _ hx => ?_) (Keeps.refl _ _) rfl⟩
    rcases hlive x hx with rfl | hx
    ·exact hl
    ·exact hx
   ·obtain ⟨pl', h1, h2⟩ := hg o ob' ho
    exact ⟨pl', hle _ _ h1, h2.keep hle (fun x _ hx => hlive x hx) (Keeps.refl _ _) rfl⟩
 ·simp only [tget_tset] at h1 h2
  unfold Bt.add at h3 h4
  by_cases e1 : o = s.nx
  ·simp only [e1, if_true, Option.some.injEq] at h1 h3
   have e2 : o' ≠ s.nx := fun e2 => hne (e1.trans e2.symm)
   simp only [e2, if_false] at h2 h4
   subst h3; subst h1
   obtain ⟨q1, t', lo', hi', q2⟩ := hap o' ob2 pl2 h2 h4 hbb.symm
   exact ⟨q1.symm, _, _, _, _, _, _, _, rfl, q2⟩
  ·simp only [e1, if_false] at h1 h3
   by_cases e2 : o' = s.nx
   ·simp only [e2, if_true, Option.some.injEq] at h2 h4
    subst h4; subst h2
    obtain ⟨q1, t', lo', hi', q2⟩ := hap o ob1 pl1 h1 h3 hbb
    exact ⟨q1, _, _, _, _, _, _, _, q2, rfl⟩
   ·simp only [e2, if_false] at h2 h4
    exact h.apart o o' ob1 ob2 pl1 pl2 h1 h2 h3 h4 hne hbb
 ·simp only [tget_tset] at ho
  by_cases he : o = s.nx
  ·simp only [he, if_true, Option.some.injEq] at ho
   cases ho; subst he; exact hgr
  ·simp only [he, if_false] at ho
   obtain ⟨ms, h1, h2⟩ := h.grp o t' lo' hi' g' ho
   exact hgold g' ms o h1 h2 ⟨_, ho⟩
theorem ObR.cut {N : Nat -> Prop} {pl : Pl} {t : Tr HV} {lo hi hi' : Nat} {g : Ky} (h : ObR C β N w pl (.cells t lo hi g)) (hh : hi' <= hi) : ObR C β N w pl (.cells t lo hi' g) := by
 cases h with
 | cells _ _ _ _ cs E fr hs hb hf hn hc => exact .cells t lo hi' g cs E fr hs hb hf (by omega) fun k v h1 h2 h3 => hc k v h1 (by omega) h3
theorem Rel.spare (h : Rel M C β s w) {b : Nat} {cs : Array Value} {E : TypeId} {fr : Nat × Nat} (hb : w.heap[b]? = some (.cells cs E fr)) (hal : Alive s β b) {p : Nat} {vs : List Value} (hfit : p + vs.length <= cs.size)
  (hfree : ∀ o' pl' t' lo' hi' g', tget s.h o' = some (.cells t' lo' hi' g') -> β o' = some pl' -> pl'.b = b -> ∀ k, lo' <= k -> k < hi' -> ¬ (p <= k - pl'.s /\ k - pl'.s < p + vs.length)) :
  Rel M C β s (setB w b (.cells (putC cs p vs) E fr)) /\ Ext M β s w β s (setB w b (.cells (putC cs p vs) E fr)) := by
 have hl : Live M s β b := .inr hal
 have hk : Keeps (Live M s β) w (setB w b (.cells (putC cs p vs) E fr)) := ⟨by simp [setB], fun b' _ hN => setB_other w _ fun e => hN (by rw [e]; exact hl), setB_has hb (putC_size vs cs p)⟩
 refine ⟨⟨fun o pl ho => ⟨(h.lt o pl ho).1, by have := (h.lt o pl ho).2; simpa [setB] using this⟩, fun o ob ho => ?_, h.apart, h.grp, h.gnx, fun b hm => by have := h.mlt b hm; simpa [setB] using this, h.mal, fun o E n ho => let ⟨pl, h1, h2, h3⟩ := h.tyr o E n ho; ⟨pl, h1, h2.keep hk, h3⟩⟩, Bt.le_refl _, hk, Less.refl _ _, rfl, rfl, rfl, fun b' r hr => ?_, Nat.le_refl _, fun b' hm => setB_other w _ fun e => h.mal b' hm (by rw [e]; exact hal)⟩
 ·obtain ⟨pl, h1, h2⟩ := h.obj o ob ho
  refine ⟨pl, h1, ?_⟩
  by_cases e : pl.b = b
  ·cases h2 with
   | cells t lo hi g cs' E' fr' hs hb' hf hn hc =>
    rw [e, hb] at hb'; cases hb'
    refine .cells t lo hi g _ E fr hs (by rw [e]; exact setB_same hb) (by rw [putC_size]; exact hf) (by rw [putC_size]; exact hn) fun k v a1 a2 a3 => ?_
    obtain ⟨b1, u, b2, b3⟩ := hc k v a1 a2 a3
    refine ⟨b1, u, ?_, b3.keep (Bt.le_refl _) (Less.refl _ _) hk⟩
    rw [putC_get vs cs p _ hfit, if_neg (hfree o pl t lo hi g ho h1 e k a1 a2)]; exact b2
   | mp es es' hb' => rw [e, hb] at hb'; cases hb'
   | loop st pend tm ps asg body r nt keep hb' => rw [e, hb] at hb'; cases hb'
  ·exact h2.keep (Bt.le_refl _) (Less.refl _ _) hk (setB_other w _ e)
 ·by_cases e : b' = b
  ·subst e; rw [hb] at hr; cases hr
  ·exact ⟨r, by rw [setB_other w _ e]; exact hr⟩
def Comes' (M : Nat -> Prop) (C : CRel) (β : Bt) (s : HS) (w : World) (run : Result Value) : Res -> Prop
 | .v v s' => ∃ u w' β', run = .ok u w' /\ Rel M C β' s' w' /\ Ext M β s w β' s' w' /\ HR β' (Live M s' β') w' v u
 | .bad => True
 | _ => False
theorem oneCell_news {sz cnt : Nat} {tx : TypeId} {y : Value} {nv : List Value} {new : List HV} (hs : Src P sz tx y cnt nv w) {N : Nat -> Prop} (hn : HRs β N w new nv) : new.length = cnt * sz := by
 rw [<- hn.1, hs.newsLen]
theorem alloc_top (w : World) (o : Obj) : (w.drew.alloc o).heap[w.heap.size]? = some o := by
 show (w.heap.push o)[w.heap.size]? = _
 simp
theorem alloc_size (w : World) (o : Obj) : w.heap.size < (w.drew.alloc o).heap.size := by
 show _ < (w.heap.push o).size
 simp
theorem grown_has (w : World) {E : TypeId} {z : Value} {sz len cnt cap : Nat} (hzs : z.cells.size = sz) {olds nv : List Value} (h1 : olds.length = len * sz) (h2 : nv.length = cnt * sz) (w' : World) (b : Nat)
  (hb : w'.heap[b]? = some (.cells ((olds ++ nv).toArray ++ Builtin.zeroCells z.cells (grownCap w (len + cnt) cap E - (len + cnt))) E)) :
  HasE w' b E (grownCap w (len + cnt) cap E * sz) := by
 refine ⟨_, (0, 0), hb, ?_⟩
 have hge := grownCap_ge w (len + cnt) cap E
 rw [Array.size_append, size_zeroCells, hzs]
 simp only [List.size_toArray, List.length_append, h1, h2]
 rw [<- Nat.add_mul, <- Nat.add_mul]
 congr 1; omega
theorem append_nils (hr : Rel M C β s w) {tg : Option Nat} {t tx ty E : TypeId} (htg : ∀ F, tg = some F -> F = E) {info : TypeInfo} {z : Value} (ht : P.underlying t = some (.slice E)) (hi : P.info? E = some info) (hz : info.zero = some z) (hzs : z.cells.size = info.size) {mxl : Nat} (hby : mxl * info.bytes <= 140737488355328) (hmx : mxl <= 140737488355328)
  {y : Value} {cnt : Nat} {nv : List Value} (hs : Src P info.size tx y cnt nv w) {new : List HV} (hn : HRs β (Live M s β) w new nv) (hone : ∀ x ∈ new, x.one = true) :
  Comes' M C β s w ((Builtin.append_ #[t, tx] ty #[.slice none 0 0, y]).run P w) (s.append info.size mxl tg .nils new cnt) := by
 have hnl := oneCell_news hs hn
 show Comes' M C β s w _ (bif Nat.beq cnt 0 then .v .nils s else bif Nat.ble cnt mxl then s.newT (tagN tg s) new (fun o => .sl o 0 cnt info.size) else .bad)
 cases h0 : Nat.beq cnt 0 with
 | true =>
  rw [nbeq_iff] at h0; subst h0
  have : nv = [] := List.eq_nil_of_length_eq_zero (by rw [hs.newsLen]; simp)
  subst this
  exact ⟨_, w, β, run_append_nothing (P := P) w t tx ty E info ht hi none 0 0 (Nat.le_refl _) y hs, hr, Ext.refl _ _ _, .nils⟩
 | false =>
  cases h1 : Nat.ble cnt mxl with
  | false => trivial
  | true =>
   rw [ble_iff] at h1
   have h0 : cnt ≠ 0 := fun h => by rw [h] at h0; cases h0
   simp only [cond_false, cond_true]
   rw [newT_eq]
   have hrun := run_append_grow_src (P := P) w t tx ty E info z ht hi hz none 0 0 [] (by simp [Builtin.firstCells]) y cnt nv hs (by omega) (by omega) (growslice_fits (by omega) (Nat.le_trans (Nat.mul_le_mul_right _ (by omega)) hby))
   have hd : Rel M C β s w.drew := hr.drawn rfl
   have hxd : Ext M β s w β s w.drew := Ext.drawn rfl rfl rfl rfl
   have hn' := hn.ext hxd
   obtain ⟨β', r1, r2, r3⟩ := hd.newRow (l := new) (cs := ([] ++ nv).toArray ++ Builtin.zeroCells z.cells (grownCap w (0 + cnt) 0 E - (0 + cnt))) (E := E) (fr := (0, 0)) (ty := tagN tg s) (by
     cases tg with
     | none => exact .inl rfl
     | some F => rw [htg F rfl]; exact .inr ⟨0, rfl, .inl rfl⟩) (.inl rfl) (by simp [hnl, hs.newsLen]) (fun j v hj => by
    have hjl : j < nv.length := by rw [hn.1]; exact (List.getElem?_eq_some_iff.1 hj).1
    refine ⟨hone v (List.mem_of_getElem? hj), nv[j], ?_, hn'.2 j v _ hj (List.getElem?_eq_getElem hjl)⟩
    rw [Array.getElem?_append_left (by simpa using hjl)]; simp [hjl])
   refine ⟨_, _, β', hrun, r1, hxd.trans r2, ?_⟩
   have hge := grownCap_ge w (0 + cnt) 0 E
   have hhas := grown_has w (E := E) (cap := 0) hzs (olds := []) (len := 0) (by simp) hs.newsLen (w.drew.alloc (.cells (([] ++ nv).toArray ++ Builtin.zeroCells z.cells (grownCap w (0 + cnt) 0 E - (0 + cnt))) E)) w.heap.size (alloc_top _ _)
   have := fun N => HR.sl (β := β') (N := N) s.nx 0 cnt info.size (grownCap w (0 + cnt) 0 E) _ ⟨w.heap.size, 0⟩ r3 (Nat.le_refl _) (by omega) ⟨E, hhas⟩ (by simp)
   simpa using this _
theorem append_prep (hr : Rel M C β s w) {o : Ky} {t0 : Tr HV} {lo0 hi0 : Nat} {g : Ky} (ho : tget s.h o = some (.cells t0 lo0 hi0 g)) {ms : List Ky} (hms : tget s.gr g = some ms) {A B : Nat} {h0 h' : Tr Ob} {ms0 ms' : List Ky} (hk : keepN s.h 12 ms = (h0, ms0)) (hq : killAll h0 o A B ms0 = (h', ms'))
  {t : Tr HV} {lo hi : Nat} {g' : Ky} (ho' : tget h' o = some (.cells t lo hi g')) (hA : A <= hi) :
  g' = g /\ Rel M C β { h := tset (some (.cells t lo A g)) o h', nx := s.nx, gr := tset (some ms') g s.gr, ty := s.ty } w /\ Ext M β s w β { h := tset (some (.cells t lo A g)) o h', nx := s.nx, gr := tset (some ms') g s.gr, ty := s.ty } w /\
   (∀ x t1 lo1 hi1, x ≠ o -> tget h' x = some (.cells t1 lo1 hi1 g) -> ¬ (lo1 < B /\ A < hi1)) := by
 obtain ⟨k1, k2, k3⟩ := keepN_spec 12 ms s.h
 rw [hk] at k1 k2 k3
 obtain ⟨q1, q2, q3⟩ := killAll_spec o A B h0 ms0
 rw [hq] at q1 q2 q3
 simp only at k1 k2 k3 q1 q2 q3
 have hsub0 : ∀ {x ob}, tget h0 x = some ob -> tget s.h x = some ob := fun {x ob} hx => by
  rcases k1 x with e | e
  ·rw [<- e]; exact hx
  ·rw [e] at hx; cases hx
 have hsub1 : ∀ {x ob}, tget h' x = some ob -> tget h0 x = some ob := fun {x ob} hx => by
  rcases q1 x with e | ⟨e, _⟩
  ·rw [<- e]; exact hx
  ·rw [e] at hx; cases hx
 have hsub : ∀ x, tget h' x = tget s.h x ∨ tget h' x = none := fun x => by
  cases e : tget h' x with
  | none => exact .inr rfl
  | some ob => exact .inl (hsub0 (hsub1 e)).symm
 have hin : ∀ {x ob}, tget h' x = some ob -> tget s.h x = some ob := fun {x ob} hx => hsub0 (hsub1 hx)
 have hg : g' = g := by have := hin ho'; rw [ho] at this; cases this; rfl
 subst hg
 have hmem : ∀ {x t1 lo1 hi1}, tget h' x = some (.cells t1 lo1 hi1 g') -> x ∈ ms' /\ (x ≠ o -> ¬ (lo1 < B /\ A < hi1)) := fun {x t1 lo1 hi1} hx => by
  obtain ⟨ms1, g1, g2⟩ := hr.grp _ _ _ _ _ (hin hx)
  rw [hms] at g1; cases g1
  exact q2 x (k2 x g2 _ (hsub1 hx)) _ _ _ _ hx
 have hr1 : Rel M C β { h := h', nx := s.nx, gr := tset (some ms') g' s.gr, ty := s.ty } w := hr.sub hsub (fun x t1 lo1 hi1 g1 hx => by
  simp only [tget_tset]
  by_cases eg : g1 = g'
  ·subst eg; rw [if_pos rfl]; exact ⟨ms', rfl, (hmem hx).1⟩
  ·rw [if_neg eg]; exact hr.grp _ _ _ _ _ (hin hx)) (fun g1 ms1 hg1 => by
  simp only [tget_tset] at hg1
  by_cases eg : g1 = g'
  ·subst eg; exact hr.gnx _ _ hms
  ·rw [if_neg eg] at hg1; exact hr.gnx _ _ hg1)
 have hx1 : Ext M β s w β { h := h', nx := s.nx, gr := tset (some ms') g' s.gr, ty := s.ty } w := Ext.sub hsub
 obtain ⟨pl, hpl, hob⟩ := hr1.obj o _ ho'
 obtain ⟨r1, r2⟩ := hr1.upd (w' := w) (ob' := .cells t lo A g') ho' hpl rfl (fun _ _ => rfl) (fun _ _ _ h => h) rfl rfl rfl (fun r hr => ⟨r, hr⟩) (fun _ => hob.cut hA) (fun o' ob'' pl' _ h1 h2 _ _ => by
  obtain ⟨pl1, c1, c2⟩ := hr1.obj o' ob'' h1
  rw [h2] at c1; cases c1; exact c2) (.inl ⟨_, _, _, _, _, _, _, rfl, rfl⟩)
 exact ⟨rfl, r1, hx1.trans r2, fun x t1 lo1 hi1 hne hx => (hmem hx).2 hne⟩
theorem append_sl (hr : Rel M C β s w) {tg : Option Nat} {t tx ty E : TypeId} (htg : ∀ F, tg = some F -> F = E) {info : TypeInfo} {z : Value} (ht : P.underlying t = some (.slice E)) (hi : P.info? E = some info) (hz : info.zero = some z) (hzs : z.cells.size = info.size) {mxl : Nat} (hby : mxl * info.bytes <= 140737488355328) (hmx : mxl <= 140737488355328)
  {y : Value} {cnt : Nat} {nv : List Value} (hs : Src P info.size tx y cnt nv w) {new : List HV} (hn : HRs β (Live M s β) w new nv) (hone : ∀ x ∈ new, x.one = true) {o : Ky} {off len sz' : Nat} {xv : Value} (hx : HR β (Live M s β) w (.sl o off len sz') xv) :
  Comes' M C β s w ((Builtin.append_ #[t, tx] ty #[xv, y]).run P w) (s.append info.size mxl tg (.sl o off len sz') new cnt) := by
 have hnl := oneCell_news hs hn
 unfold HS.append
 simp only []
 cases h0 : Nat.beq cnt 0 with
 | true =>
  rw [nbeq_iff] at h0; subst h0
  have : nv = [] := List.eq_nil_of_length_eq_zero (by rw [hs.newsLen]; simp)
  subst this
  have hx' := hx
  cases hx with
  | sl _ _ _ _ cap n pl hpl hso hl hb hcc => exact ⟨_, w, β, run_append_nothing (P := P) w t tx ty E info ht hi _ len cap hl y hs, hr, Ext.refl _ _ _, hx'⟩
  | sl0 _ _ _ b k => exact ⟨_, w, β, run_append_nothing (P := P) w t tx ty E info ht hi _ 0 0 (Nat.le_refl _) y hs, hr, Ext.refl _ _ _, hx'⟩
 | false =>
 have h0 : cnt ≠ 0 := fun h => by rw [h] at h0; cases h0
 simp only [cond_false]
 cases hsz : Nat.beq info.size sz' with
 | false => trivial
 | true =>
 rw [nbeq_iff] at hsz; subst hsz
 simp only [Bool.not_true, cond_false]
 cases ho : tget s.h o with
 | none => trivial
 | some ob0 =>
 cases ob0 with
 | mp es => trivial
 | loop => trivial
 | cells t0 lo0 hi0 g =>
 simp only []
 cases hms : tget s.gr g with
 | none => trivial
 | some ms =>
 simp only []
 generalize hk : keepN s.h 12 ms = q0
 obtain ⟨h0', ms0⟩ := q0
 simp only []
 generalize hq : killAll h0' o (off + len * info.size) (off + len * info.size + lenL new) ms0 = q1
 obtain ⟨h', ms'⟩ := q1
 simp only []
 cases ho' : tget h' o with
 | none => trivial
 | some ob1 =>
 cases ob1 with
 | mp es => trivial
 | loop => trivial
 | cells tr lo hi' g' =>
 simp only []
 cases hcond : (hasK o ms' && Nat.ble lo off && Nat.ble (off + len * info.size) hi' && Nat.ble (len + cnt) mxl) with
 | false => trivial
 | true =>
 simp only [Bool.and_eq_true, ble_iff] at hcond
 obtain ⟨⟨⟨c1, c2⟩, c3⟩, c4⟩ := hcond
 obtain ⟨rfl, r1, x1, c5⟩ := append_prep hr ho hms hk hq ho' c3
 simp only [cond_true]
 generalize hA : off + len * info.size = A at *
 rw [lenL_eq] at *
 generalize hs2 : ({ h := tset (some (.cells tr lo A g')) o h', nx := s.nx, gr := tset (some ms') g' s.gr, ty := s.ty } : HS) = s2 at *
 have ho2 : tget s2.h o = some (.cells tr lo A g') := by rw [<- hs2]; simp [tget_tset]
 have hnx : s2.nx = s.nx := by rw [<- hs2]
 have hty2 : s2.ty = s.ty := by rw [<- hs2]
 have htag : tagS tg o s = s2.ty ∨ (tagS tg o s = tset (some (E, 0)) s2.nx s2.ty /\ ∃ n, tget s.ty o = some (E, n)) := by
  unfold tagS
  rw [hty2, hnx]
  cases tg with
  | none => exact .inl rfl
  | some F =>
   rw [htg F rfl]
   cases hq : tget s.ty o with
   | none => exact .inl rfl
   | some p =>
    obtain ⟨E', n⟩ := p
    simp only []
    cases he : Nat.beq E' E with
    | false => exact .inl rfl
    | true => rw [nbeq_iff] at he; subst he; exact .inr ⟨rfl, n, rfl⟩
 have hn2 := hn.ext x1
 obtain ⟨pl, hpl, hob⟩ := r1.obj o _ ho2
 have hcap : (len + cnt) * info.bytes <= 140737488355328 := Nat.le_trans (Nat.mul_le_mul_right _ c4) hby
 have holdc : ∃ olds : List Value, olds.length = len * info.size /\ ∃ cs E' fr, w.heap[pl.b]? = some (.cells cs E' fr) /\ Free fr cs.size /\ pl.s <= off /\ A - pl.s <= cs.size /\ (∀ j, j < len * info.size -> cs[off - pl.s + j]? = olds[j]?) /\
   (∀ k v, off <= k -> k < A -> nget tr k = some v -> v.one = true /\ ∃ u, olds[k - off]? = some u /\ HR β (Live M s2 β) w v u) := by
  cases hob with
  | cells _ _ _ _ cs E' fr hs' hb hf hn' hc =>
   have hle : off - pl.s + len * info.size <= cs.size := by omega
   refine ⟨(cs.toList.drop (off - pl.s)).take (len * info.size), by simp; omega, cs, E', fr, hb, hf, by omega, hn', fun j hj => ?_, fun k v a1 a2 a3 => ?_⟩
   ·rw [List.getElem?_take_of_lt hj, List.getElem?_drop, Array.getElem?_toList]
   ·obtain ⟨b1, u, b2, b3⟩ := hc k v (by omega) a2 a3
    refine ⟨b1, u, ?_, b3⟩
    rw [List.getElem?_take_of_lt (by omega), List.getElem?_drop, Array.getElem?_toList, show off - pl.s + (k - off) = k - pl.s by omega]; exact b2
 obtain ⟨olds, ol, cs, E', fr, hb, hf, hso, hAs, holds, hold2⟩ := holdc
 have halive : Alive s2 β pl.b := ⟨o, _, pl, ho2, hpl, rfl⟩
 have hlive : Live M s2 β pl.b := .inr halive
 have hgnx2 : ∀ g1 ms1, tget (tset (some (s.nx :: ms')) g' s.gr) g1 = some ms1 -> g1.toNat < s2.nx.succ.toNat := fun g1 ms1 hg1 => by
  rw [hnx, Ky.toNat_succ]
  simp only [tget_tset] at hg1
  by_cases eg : g1 = g'
  ·subst eg; have := hr.gnx _ _ hms; omega
  ·rw [if_neg eg] at hg1; have := hr.gnx _ _ hg1; omega
 have hgold : ∀ g1 ms1 x, tget s2.gr g1 = some ms1 -> x ∈ ms1 -> (∃ ob, tget s2.h x = some ob) -> ∃ ms2, tget (tset (some (s.nx :: ms')) g' s.gr) g1 = some ms2 /\ x ∈ ms2 := fun g1 ms1 x h1 h2 _ => by
  rw [<- hs2] at h1
  simp only [tget_tset] at h1 ⊢
  by_cases eg : g1 = g'
  ·rw [if_pos eg] at h1 ⊢; cases h1; exact ⟨_, rfl, by simp [h2]⟩
  ·rw [if_neg eg] at h1 ⊢; exact ⟨_, h1, h2⟩
 have hfin : ({ h := tset (some (.cells (setL new A tr) off (A + new.length) g')) s.nx (tset (some (.cells tr lo A g')) o h'), nx := s.nx.succ, gr := tset (some (s.nx :: ms')) g' s.gr, ty := tagS tg o s } : HS) =
   { h := tset (some (.cells (setL new A tr) off (A + new.length) g')) s2.nx s2.h, nx := s2.nx.succ, gr := tset (some (s.nx :: ms')) g' s.gr, ty := tagS tg o s } := by rw [<- hs2]
 rw [hfin]
 have hgr2 : ∃ ms2, tget (tset (some (s.nx :: ms')) g' s.gr) g' = some ms2 /\ s2.nx ∈ ms2 := ⟨s.nx :: ms', by rw [tget_tset, if_pos rfl], by rw [hnx]; simp⟩
 have grow : ∀ (Ad : Option Addr) (cap : Nat), xv = .slice Ad len cap -> cap < len + cnt -> (Builtin.firstCells info.size len (.slice Ad len cap)).run P w.drew = .ok olds.toArray w.drew ->
   Comes' M C β s w ((Builtin.append_ #[t, tx] ty #[xv, y]).run P w) (.v (.sl s.nx off (len + cnt) info.size) { h := tset (some (.cells (setL new A tr) off (A + new.length) g')) s2.nx s2.h, nx := s2.nx.succ, gr := tset (some (s.nx :: ms')) g' s.gr, ty := tagS tg o s }) := by
  intro Ad cap hxv hlt hfc
  subst hxv
  have hrun := run_append_grow_src (P := P) w t tx ty E info z ht hi hz Ad len cap olds hfc y cnt nv hs hlt (by omega) (growslice_fits hlt hcap)
  have hge := grownCap_ge w (len + cnt) cap E
  let cells : Array Value := (olds ++ nv).toArray ++ Builtin.zeroCells z.cells (grownCap w (len + cnt) cap E - (len + cnt))
  have hd : Rel M C β s2 w.drew := r1.drawn rfl
  have hxd : Ext M β s2 w β s2 w.drew := Ext.drawn rfl rfl rfl rfl
  have hp : Rel M C β s2 (w.drew.alloc (.cells cells E)) := hd.push _
  have hxp : Ext M β s2 w β s2 (w.drew.alloc (.cells cells E)) := hxd.trans (Ext.push hd.mlt β s2 _)
  have hN : ¬ Live M s2 β w.heap.size := fun h => Nat.lt_irrefl _ (Live.lt r1 h)
  have hlt1 : ∀ {v u}, HR β (Live M s2 β) w v u -> HR (β.add s2.nx ⟨w.heap.size, off⟩) (fun x => x = w.heap.size ∨ Live M s2 β x) (w.drew.alloc (.cells cells E)) v u := fun {v u} h =>
   h.keep (Bt.le_add r1.fresh) (fun b hb hx => hx.resolve_left (by omega)) hxp.keeps
  have hhas0 := grown_has w (E := E) (cap := cap) hzs ol hs.newsLen (w.drew.alloc (.cells cells E)) w.heap.size (alloc_top _ _)
  have hadopt := hp.adoptAt (pl := ⟨w.heap.size, off⟩) (fun hm => Nat.lt_irrefl _ (r1.mlt _ hm)) (alloc_size _ _) (ob := .cells (setL new A tr) off (A + new.length) g') rfl (htag.imp id fun h => ⟨E, h.1, _, hhas0, .inl rfl⟩) hgr2 hgold hgnx2 (fun o' ob' pl' h1 h2 h3 => absurd (.inr ⟨o', ob', pl', h1, h2, h3⟩) hN)
   (.inr fun o' ob' h1 => by
    obtain ⟨pl', a1, a2⟩ := r1.obj o' ob' h1
    exact ⟨pl', a1, a2.keep (Bt.le_refl _) (fun b hb hx => hx.resolve_left (by show ¬ b = w.heap.size; omega)) hxp.keeps (heap_push w _ (r1.lt _ _ a1).2)⟩)
   (by
    refine .cells _ off _ _ cells E (0, 0) (Nat.le_refl _) (alloc_top _ _) (.inl rfl) (by simp only [cells, Array.size_append, List.size_toArray, List.length_append]; rw [ol, hs.newsLen]; omega) fun k v a1 a2 a3 => ?_
    rw [nget_setL] at a3
    have hcl : cells[k - off]? = (olds ++ nv)[k - off]? := by
     simp only [cells]
     rw [Array.getElem?_append_left (by simp only [List.size_toArray, List.length_append]; rw [ol, hs.newsLen]; omega)]
     simp
    rw [hcl]
    by_cases hkA : A <= k /\ k < A + new.length
    ·rw [if_pos hkA] at a3
     have hjl : k - A < nv.length := by rw [hs.newsLen, <- hnl]; omega
     refine ⟨hone v (List.mem_of_getElem? a3), nv[k - A], ?_, hlt1 (hn2.2 (k - A) v _ a3 (List.getElem?_eq_getElem hjl))⟩
     rw [List.getElem?_append_right (by omega), show k - off - olds.length = k - A by omega]; exact List.getElem?_eq_getElem hjl
    ·rw [if_neg hkA] at a3
     obtain ⟨b1, u, b2, b3⟩ := hold2 k v a1 (by omega) a3
     exact ⟨b1, u, by rw [List.getElem?_append_left (by omega)]; exact b2, hlt1 b3⟩)
  refine ⟨_, _, _, hrun, hadopt, x1.trans ⟨Bt.le_add r1.fresh, hxp.keeps, ?_, hxp.os, hxp.tape, hxp.output, hxp.loops, by show s2.nx.toNat <= s2.nx.succ.toNat; rw [Ky.toNat_succ]; omega, hxp.priv⟩, ?_⟩
  ·rintro b hbl (hm | ⟨o', ob', pl', h1, h2, rfl⟩)
   ·exact .inl hm
   simp only [tget_tset] at h1
   unfold Bt.add at h2
   by_cases e : o' = s2.nx
   ·rw [if_pos e] at h2; cases h2; exact absurd hbl (Nat.lt_irrefl _)
   ·rw [if_neg e] at h1 h2; exact .inr ⟨o', ob', pl', h1, h2, rfl⟩
  ·have hhas := grown_has w (E := E) (cap := cap) hzs ol hs.newsLen (w.drew.alloc (.cells cells E)) w.heap.size (alloc_top _ _)
   have := fun N => HR.sl (β := β.add s2.nx ⟨w.heap.size, off⟩) (N := N) s2.nx off (len + cnt) info.size (grownCap w (len + cnt) cap E) _ ⟨w.heap.size, off⟩ (by simp [Bt.add]) (Nat.le_refl _) hge ⟨E, hhas⟩ (by simp)
   rw [<- hnx]
   simpa using this _
 cases hx with
 | sl0 _ _ _ b k =>
  have hol : olds = [] := List.eq_nil_of_length_eq_zero (by rw [ol]; simp)
  exact grow _ 0 rfl (by omega) (by rw [hol]; simp [Builtin.firstCells, loadCells, loadCellsFrom])
 | sl _ _ _ _ cap n pl0 hpl0 hso0 hl hhas hcc =>
  have hpe : pl0 = pl := by
   have := x1.le _ _ hpl0
   rw [hpl] at this; cases this; rfl
  subst hpe
  by_cases hroom : len + cnt <= cap
  ·
   obtain ⟨E1, cs1, fr1, q1, q2⟩ := hhas
   rw [hb] at q1; cases q1
   have hcs : cs.size = n := q2
   have hmul : (len + cnt) * info.size <= cap * info.size := Nat.mul_le_mul_right _ hroom
   rw [Nat.add_mul] at hmul
   have hfit : (A - pl0.s) + nv.length <= cs.size := by rw [hs.newsLen]; omega
   have hnvl : nv.length = new.length := by rw [hs.newsLen, hnl]
   have hcell : ∀ j, j < nv.length -> (w.cell? ⟨pl0.b, off - pl0.s + len * info.size + j, none⟩).isSome = true := fun j hj => by
    have : off - pl0.s + len * info.size + j < cs.size := by omega
    simp [World.cell?, hb, Array.getElem?_eq_getElem this]
   have hfz : ∀ j, j < nv.length -> w.frozen? ⟨pl0.b, off - pl0.s + len * info.size + j, none⟩ = false := fun j hj => by
    simp only [World.frozen?, hb]
    rcases hf with rfl | hf
    ·simp
    ·simp; omega
   have hrun := run_append_room_src (P := P) w t tx ty E info ht hi pl0.b (off - pl0.s) len cap y cnt nv hs hroom hcell hfz
   have e0 : off - pl0.s + len * info.size = A - pl0.s := by omega
   have hk1 := run_storeCells_cells (P := P) pl0.b (off - pl0.s + len * info.size) nv 0 w (by simpa using hcell) (by simpa using hfz) hs.one
   have hk2 := run_storeCells (P := P) pl0.b (off - pl0.s + len * info.size) E' fr nv 0 w cs hb hf (by omega) hs.one
   rw [hk1] at hk2
   simp only [Nat.add_zero, Result.ok.injEq, true_and] at hk2
   have hw' : w.setCells pl0.b (off - pl0.s + len * info.size) nv = setB w pl0.b (.cells (putC cs (A - pl0.s) nv) E' fr) := by rw [hk2, e0]; rfl
   rw [hw'] at hrun
   obtain ⟨r2, x2⟩ := r1.spare hb halive (p := A - pl0.s) (vs := nv) hfit (fun x pl' t1 lo1 hi1 g1 hx1 hx2 hx3 k a1 a2 => by
    obtain ⟨pl'', y1, y2⟩ := r1.obj _ _ hx1
    rw [hx2] at y1; cases y1
    have hs' : pl'.s <= lo1 := by cases y2; assumption
    by_cases ex : x = o
    ·subst ex; rw [ho2] at hx1; cases hx1
     rw [hpl] at hx2; cases hx2; omega
    ·obtain ⟨z1, _, _, _, _, _, _, _, z2, z3⟩ := r1.apart x o _ _ pl' pl0 hx1 ho2 hx2 hpl ex hx3
     cases z2; cases z3
     have hx1' : tget h' x = some (.cells t1 lo1 hi1 g') := by
      rw [<- hs2] at hx1
      simp only [tget_tset] at hx1
      rwa [if_neg ex] at hx1
     have := c5 x t1 lo1 hi1 ex hx1'
     rw [z1, hnvl]
     omega)
   have hb2 : (setB w pl0.b (.cells (putC cs (A - pl0.s) nv) E' fr)).heap[pl0.b]? = some (.cells (putC cs (A - pl0.s) nv) E' fr) := setB_same hb
   have hput := putC_get nv cs (A - pl0.s)
   have hlt1 : ∀ {v u}, HR β (Live M s2 β) w v u -> HR (β.add s2.nx pl0) (fun x => x = pl0.b ∨ Live M s2 β x) (setB w pl0.b (.cells (putC cs (A - pl0.s) nv) E' fr)) v u := fun {v u} h =>
    h.keep (Bt.le_add r1.fresh) (fun b hb hx => by
     rcases hx with rfl | hx
     ·exact hlive
     ·exact hx) x2.keeps
   have htag2 : tagS tg o s = s2.ty ∨ ∃ E, tagS tg o s = tset (some (E, 0)) s2.nx s2.ty /\ TyIs (setB w pl0.b (.cells (putC cs (A - pl0.s) nv) E' fr)) pl0.b E 0 := by
    rcases htag with h | ⟨h1, n, h2⟩
    ·exact .inl h
    ·obtain ⟨pl', h3, ⟨m, h4, _⟩, _⟩ := hr.tyr o E n h2
     rw [hpl0] at h3; cases h3
     exact .inr ⟨E, h1, m, x2.keeps.has _ _ _ h4, .inl rfl⟩
   have hadopt := r2.adoptAt (pl := pl0) (fun hm => r1.mal _ hm halive) (lt_of_block hb2) (ob := .cells (setL new A tr) off (A + new.length) g') rfl htag2 hgr2 hgold hgnx2 (fun o' ob' pl' h1 h2 h3 => by
     by_cases ex : o' = o
     ·subst ex; rw [ho2] at h1; cases h1; rw [hpl] at h2; cases h2; exact ⟨rfl, _, _, _, rfl⟩
     ·obtain ⟨z1, _, _, _, _, _, _, _, z2, z3⟩ := r1.apart o' o _ _ pl' pl0 h1 ho2 h2 hpl ex h3
      cases z3; exact ⟨z1, _, _, _, z2⟩)
    (.inl hlive)
    (by
     refine .cells _ off _ _ _ E' fr hso0 hb2 (by rw [putC_size]; exact hf) (by rw [putC_size]; omega) fun k v a1 a2 a3 => ?_
     rw [nget_setL] at a3
     rw [hput (k - pl0.s) hfit]
     by_cases hkA : A <= k /\ k < A + new.length
     ·rw [if_pos hkA] at a3
      rw [if_pos (by omega)]
      have hjl : k - A < nv.length := by omega
      refine ⟨hone v (List.mem_of_getElem? a3), nv[k - A], ?_, hlt1 (hn2.2 (k - A) v _ a3 (List.getElem?_eq_getElem hjl))⟩
      rw [show k - pl0.s - (A - pl0.s) = k - A by omega]; exact List.getElem?_eq_getElem hjl
     ·rw [if_neg hkA] at a3
      rw [if_neg (by omega)]
      obtain ⟨b1, u, b2, b3⟩ := hold2 k v a1 (by omega) a3
      refine ⟨b1, u, ?_, hlt1 b3⟩
      have := holds (k - off) (by omega)
      rw [show off - pl0.s + (k - off) = k - pl0.s by omega] at this
      rw [this]; exact b2)
   refine ⟨_, _, _, hrun, hadopt, x1.trans ⟨Bt.le_add r1.fresh, x2.keeps, ?_, x2.os, x2.tape, x2.output, x2.loops, by show s2.nx.toNat <= s2.nx.succ.toNat; rw [Ky.toNat_succ]; omega, x2.priv⟩, ?_⟩
   ·rintro b hbl (hm | ⟨o', ob', pl', h1, h2, rfl⟩)
    ·exact .inl hm
    simp only [tget_tset] at h1
    unfold Bt.add at h2
    by_cases e : o' = s2.nx
    ·rw [if_pos e] at h2; cases h2; exact hlive
    ·rw [if_neg e] at h1 h2; exact .inr ⟨o', ob', pl', h1, h2, rfl⟩
   ·rw [<- hnx]
    exact HR.sl s2.nx off (len + cnt) info.size cap n pl0 (by simp [Bt.add]) hso0 hroom ⟨E', _, fr, hb2, by rw [putC_size]; exact hcs⟩ hcc
  ·refine grow _ cap rfl (by omega) ?_
   have hle : off - pl0.s + len * info.size <= cs.size := by omega
   have hld := run_loadCells P w.drew pl0.b (off - pl0.s) (len * info.size) (fun j => olds.getD j Go.undef) (fun j hj => by
    have h1 : cellAt w.drew pl0.b (off - pl0.s + j) = cs[off - pl0.s + j]? := cellAt_of (E := E') (fr := fr) hb
    rw [h1, holds j hj]
    have : j < olds.length := by omega
    simp [List.getD, this])
   simp only [Builtin.firstCells]
   rw [hld]
   congr 1
   apply Array.ext'
   apply List.ext_getElem?
   intro j
   by_cases hj : j < len * info.size
   ·have : j < olds.length := by omega
    simp [hj, List.getD, this]
   ·simp [hj]; omega
end sound
section sound
variable {M : Nat -> Prop} {C : CRel} {P : Program} {β : Bt} {s : HS} {w : World} {e : En} {a : Act}
theorem Comes'.does {go : Oper} {run : Result Value} {r : Res} (h : Comes' M C β s w run r) (hk : (execOp a.eval go).run P w = run.andThen (fun v w' => .ok (.value v) w')) : Does M C P β s w a go r := by
 cases r with
 | v v s' =>
  obtain ⟨u, w', β', h1, h2, h3, h4⟩ := h
  exact ⟨u, w', β', .inl (by rw [hk, h1]; rfl), h2, h3, h4⟩
 | bad => trivial
 | call f l => exact h.elim
 | round l m => exact h.elim
theorem elem_info {E : TypeId} {sz mxl : Nat} (hs : sizeT P E = some sz) (hby : bytesT P E mxl = true) (hz : zsz P E sz = true) :
  ∃ info z, P.info? E = some info /\ info.zero = some z /\ z.cells.size = info.size /\ info.size = sz /\ mxl * info.bytes <= 140737488355328 /\ mxl <= 140737488355328 := by
 unfold sizeT at hs
 unfold bytesT at hby
 unfold zsz at hz
 cases hi : P.info? E with
 | none => simp [hi] at hs
 | some i =>
  simp only [hi, Option.map_some, Option.some.injEq] at hs
  simp only [hi, Bool.and_eq_true, decide_eq_true_eq] at hby
  simp only [hi, Option.bind_some] at hz
  cases hzz : i.zero with
  | none => simp [hzz] at hz
  | some z => simp only [hzz, beq_iff_eq] at hz; exact ⟨i, z, rfl, hzz, by rw [hz, hs], hs, hby.1, hby.2⟩
theorem src_sl (hr : Rel M C β s w) {tx e' : TypeId} (hk : P.underlying tx = some (.slice e')) {o : Ky} {off len sz sz' : Nat} {u : Value} (hv : HR β (Live M s β) w (.sl o off len sz') u) {l : List HV} (hc : s.cellsAt o off (len * sz) = some l) (hne : len ≠ 0) :
  ∃ nv, Src P sz tx u len nv w /\ HRs β (Live M s β) w l nv /\ ∀ x ∈ l, x.one = true := by
 cases hv with
 | sl0 => exact absurd rfl hne
 | sl _ _ _ _ cap n pl hpl hs hl hb hcc =>
  obtain ⟨h1, h2, h3, g, h4, h5⟩ := hr.cellsAt hpl hc
  have hrs : HRs β (Live M s β) w l (List.ofFn (n := len * sz) fun j => g j) := by
   refine ⟨by simp [h2], fun j v x hj hx => ?_⟩
   have hjl : j < len * sz := by rw [<- h2]; exact (List.getElem?_eq_some_iff.1 hj).1
   simp only [List.getElem?_ofFn, hjl, dite_true, Option.some.injEq] at hx
   subst hx
   exact h5 j v hj
  refine ⟨_, Src.ofSlice w hk ⟨pl.b, off - pl.s, none⟩ len cap _ (by simp) (fun j x hx => ?_) (hrs.oneCell h3), hrs, h3⟩
  have hjl : j < len * sz := by have := (List.getElem?_eq_some_iff.1 hx).1; simpa using this
  simp only [List.getElem?_ofFn, hjl, dite_true, Option.some.injEq] at hx
  subst hx
  rw [add_none]
  exact h4 j hjl
theorem src_psl (_ : Rel M C β s w) {tx e' : TypeId} (hk : P.underlying tx = some (.slice e')) {els : List (List HV)} {sz : Nat} {u : Value} (hv : HR β (Live M s β) w (.psl els) u) (ha : allLen sz els = true) (hne : els.length ≠ 0) :
  ∃ nv, Src P sz tx u els.length nv w /\ HRs β (Live M s β) w (flatR els) nv /\ ∀ x ∈ flatR els, x.one = true := by
 have hlen := allLen_iff ha
 obtain ⟨f1, f2⟩ := flatR_get hlen
 generalize hp : HV.psl els = p at hv
 cases hv <;> first | (cases hp; done) | skip
 ·cases hp; exact absurd rfl hne
 ·rename_i els' b o cap sz' g hN hlt hcap hsz h0 hc hv
  cases hp
  have hsz' : sz' = sz := by
   cases els with
   | nil => exact absurd rfl hne
   | cons r l => rw [<- hsz 0 r rfl]; exact hlen r List.mem_cons_self
  subst hsz'
  have hone : ∀ x ∈ flatR els, x.one = true := fun x hx => by
   obtain ⟨k, hk, rfl⟩ := List.getElem_of_mem hx
   obtain ⟨_, row, hr1, hr2⟩ := f2 k _ (List.getElem?_eq_getElem hk)
   exact h0 row (List.mem_of_getElem? hr1) _ (List.mem_of_getElem? hr2)
  have hrs : HRs β (Live M s β) w (flatR els) (List.ofFn (n := els.length * sz') fun k => g (k / sz') (k % sz')) := by
   refine ⟨by simp [f1], fun k v x hk hx => ?_⟩
   have hkl : k < els.length * sz' := by rw [<- f1]; exact (List.getElem?_eq_some_iff.1 hk).1
   simp only [List.getElem?_ofFn, hkl, dite_true, Option.some.injEq] at hx
   subst hx
   obtain ⟨_, row, hr1, hr2⟩ := f2 k v hk
   exact hv _ _ _ _ hr1 hr2
  refine ⟨_, Src.ofSlice w hk ⟨b, o, none⟩ els.length cap _ (by simp) (fun k x hx => ?_) (hrs.oneCell hone), hrs, hone⟩
  have hkl : k < els.length * sz' := by have := (List.getElem?_eq_some_iff.1 hx).1; simpa using this
  simp only [List.getElem?_ofFn, hkl, dite_true, Option.some.injEq] at hx
  subst hx
  rw [add_none]
  have hpos : 0 < sz' := by
   rcases Nat.eq_zero_or_pos sz' with h | h
   ·subst h; simp at hkl
   ·exact h
  have := hc (k / sz') (k % sz') (by rw [Nat.div_lt_iff_lt_mul hpos]; exact hkl) (Nat.mod_lt _ hpos)
  rw [Nat.div_add_mod'] at this
  exact this
theorem append_does (hr : Rel M C β s w) {go : Oper} {t u E ty : TypeId} {sz mxl : Nat} (ht : P.underlying t = some (.slice E)) (hs : sizeT P E = some sz) (hby : bytesT P E mxl = true) (hz : zsz P E sz = true) {tg : Option Nat} (htg : ∀ F, tg = some F -> F = E)
  {x : HV} {xv y : Value} (hx : HR β (Live M s β) w x xv) {cnt : Nat} {nv : List Value} (hsrc : Src P sz u y cnt nv w) {new : List HV} (hn : HRs β (Live M s β) w new nv) (hone : ∀ x ∈ new, x.one = true)
  (hk : (execOp a.eval go).run P w = ((Builtin.append_ #[t, u] ty #[xv, y]).run P w).andThen (fun v w' => .ok (.value v) w')) : Does M C P β s w a go (s.append sz mxl tg x new cnt) := by
 obtain ⟨info, z, hi, hz1, hz2, rfl, hb1, hb2⟩ := elem_info hs hby hz
 refine Comes'.does ?_ hk
 cases x <;> first | trivial | skip
 ·cases hx; exact append_nils hr htg ht hi hz1 hz2 hb1 hb2 hsrc hn hone
 ·exact append_sl hr htg ht hi hz1 hz2 hb1 hb2 hsrc hn hone hx
theorem isSl_slice {N : Nat -> Prop} {v : HV} {u : Value} (hv : HR β N w v u) (h : isSl v = true) : ∃ A l c, u = .slice A l c /\ l <= c := by
 cases hv <;> first | (cases h; done) | skip
 ·exact ⟨_, _, _, rfl, Nat.le_refl _⟩
 ·exact ⟨_, _, _, rfl, ‹_›⟩
 ·exact ⟨_, _, _, rfl, Nat.le_refl _⟩
theorem append_none (hr : Rel M C β s w) {go : Oper} {t u E ty : TypeId} {sz mxl : Nat} (ht : P.underlying t = some (.slice E)) (hs : sizeT P E = some sz) (hby : bytesT P E mxl = true) (hz : zsz P E sz = true)
  {x : HV} {xv y : Value} (hx : HR β (Live M s β) w x xv) (hsl : isSl x = true) (hsrc : Src P sz u y 0 [] w)
  (hk : (execOp a.eval go).run P w = ((Builtin.append_ #[t, u] ty #[xv, y]).run P w).andThen (fun v w' => .ok (.value v) w')) : Does M C P β s w a go (.v x s) := by
 obtain ⟨info, z, hi, hz1, hz2, rfl, hb1, hb2⟩ := elem_info hs hby hz
 obtain ⟨A, l, c, rfl, hlc⟩ := isSl_slice hx hsl
 exact Comes'.does (C := C) ⟨_, w, β, run_append_nothing (P := P) w t u ty E info ht hi A l c hlc y hsrc, hr, Ext.refl _ _ _, hx⟩ hk
theorem do_app (hr : Rel M C β s w) (he : EnvV β (Live M s β) w e a) {go : Oper} {sz mxl : Nat} {tg : Option Nat} {x y : X} (hc : chkOp P (.app sz mxl tg x y) go.op = true) : Does M C P β s w a go (hApp sz mxl tg x y e s) := by
 cases hgo : go.op <;> simp only [hgo] at hc <;> first | (simp [chkOp] at hc; done) | skip
 rename_i cl
 simp only [chkOp, Bool.and_eq_true] at hc
 obtain ⟨⟨hb, hc⟩, ht⟩ := hc
 split at hb
 case h_2 => cases hb
 rename_i hcal
 obtain ⟨x', y', ha, hx, hy⟩ := chkXs_two hc
 split at ht
 case h_2 => cases ht
 rename_i t u htys
 have htys : cl.argTypes = #[t, u] := by rw [<- Array.toList_inj]; exact htys
 simp only [Bool.and_eq_true] at ht
 obtain ⟨ht1, ht2⟩ := ht
 split at ht1
 case h_2 => cases ht1
 rename_i E hE
 simp only [Bool.and_eq_true, beq_iff_eq] at ht1
 obtain ⟨⟨⟨hs, hby⟩, hz⟩, htg⟩ := ht1
 have htg : ∀ F, tg = some F -> F = E := fun F hF => by subst hF; simpa using (Eq.symm (by simpa using htg) : F = E)
 split at ht2
 case h_2 => cases ht2
 rename_i E2 hu2
 have hE := run_elemT hE
 have hk : ∃ ty, (execOp a.eval go).run P w = ((Builtin.append_ #[t, u] ty #[a.eval x', a.eval y']).run P w).andThen (fun v w' => .ok (.value v) w') := by
  refine ⟨go.type, ?_⟩
  simp [execOp, hgo, resolve, hcal, ha, htys, invoke, builtin]
 obtain ⟨ty, hk⟩ := hk
 unfold hApp
 cases h1 : opd x e with
 | none => trivial
 | some p =>
 cases h2 : opd y e with
 | none => trivial
 | some q =>
 have hv := opd_sound he hx h1
 have hv2 := opd_sound he hy h2
 simp only []
 cases hsl : isSl p with
 | false => trivial
 | true =>
 simp only [cond_true]
 generalize hq : a.eval y' = yv at hv2 hk
 cases q <;> first | trivial | skip
 ·cases hv2
  exact append_none hr hE hs hby hz hv hsl (Src.ofNil w hu2 0) hk
 ·rename_i o off len sz'
  simp only []
  cases h0 : Nat.beq len 0 with
  | true =>
   rw [nbeq_iff] at h0; subst h0
   simp only [cond_true]
   refine append_none hr hE hs hby hz hv hsl ?_ hk
   cases hv2 with
   | sl _ _ _ _ cap n pl hpl hs' hl hb' hcc => exact Src.ofSlice w hu2 _ 0 cap [] (by simp) (by simp) (by simp)
   | sl0 => exact Src.ofSlice w hu2 _ 0 0 [] (by simp) (by simp) (by simp)
  | false =>
   have h0 : len ≠ 0 := fun h => by rw [h] at h0; cases h0
   simp only [cond_false]
   cases hcl : s.cellsAt o off (len * sz) with
   | none => trivial
   | some l =>
    obtain ⟨nv, a1, a2, a3⟩ := src_sl hr hu2 hv2 hcl h0
    exact append_does hr hE hs hby hz htg hv a1 a2 a3 hk
 ·rename_i els
  simp only []
  cases h0 : Nat.beq (lenL els) 0 with
  | true =>
   rw [nbeq_iff, lenL_eq] at h0
   have : els = [] := List.eq_nil_of_length_eq_zero h0
   subst this
   simp only [cond_true]
   refine append_none hr hE hs hby hz hv hsl ?_ hk
   generalize hp : HV.psl [] = p' at hv2
   cases hv2 <;> first | (cases hp; done) | skip
   ·rename_i A cap hn
    cases A with
    | none => rw [hn rfl]; exact Src.ofNil w hu2 0
    | some A => exact Src.ofSlice w hu2 A 0 cap [] (by simp) (by simp) (by simp)
   ·rename_i els' b o cap sz' g hN hlt hcap hsz h0 hc hv
    cases hp
    exact Src.ofSlice w hu2 _ 0 cap [] (by simp) (by simp) (by simp)
  | false =>
   have h0 : els.length ≠ 0 := fun h => by rw [lenL_eq, h] at h0; cases h0
   simp only [cond_false]
   cases hal : allLen sz els with
   | false => trivial
   | true =>
    obtain ⟨nv, a1, a2, a3⟩ := src_psl hr hu2 hv2 hal h0
    simp only [cond_true]
    rw [lenL_eq]
    exact append_does hr hE hs hby hz htg hv a1 a2 a3 hk
theorem ofBytes_sound {N : Nat -> Prop} (b : ByteArray) : HRs β N w (ofBytes (nats b)) (byteCells b) /\ ∀ x ∈ ofBytes (nats b), x.one = true := by
 have key : ∀ l : List UInt8, HRs β N w (ofBytes (l.map UInt8.toNat)) (l.map fun b => Value.int .u8 b.toNat) /\ ∀ x ∈ ofBytes (l.map UInt8.toNat), x.one = true := by
  intro l
  induction l with
  | nil => exact ⟨.nil, by simp [ofBytes]⟩
  | cons x l ih =>
   refine ⟨.cons (.int _ _) ih.1, ?_⟩
   intro y hy
   simp only [List.map_cons, ofBytes, List.mem_cons] at hy
   rcases hy with rfl | hy
   ·rfl
   ·exact ih.2 y hy
 exact key b.data.toList
theorem do_aps (hr : Rel M C β s w) (he : EnvV β (Live M s β) w e a) {go : Oper} {mxl : Nat} {tg : Option Nat} {x y : X} (hc : chkOp P (.aps mxl tg x y) go.op = true) : Does M C P β s w a go (hAps mxl tg x y e s) := by
 cases hgo : go.op <;> simp only [hgo] at hc <;> first | (simp [chkOp] at hc; done) | skip
 rename_i cl
 simp only [chkOp, Bool.and_eq_true] at hc
 obtain ⟨⟨hb, hc⟩, ht⟩ := hc
 split at hb
 case h_2 => cases hb
 rename_i hcal
 obtain ⟨x', y', ha, hx, hy⟩ := chkXs_two hc
 split at ht
 case h_2 => cases ht
 rename_i t u htys
 have htys : cl.argTypes = #[t, u] := by rw [<- Array.toList_inj]; exact htys
 simp only [Bool.and_eq_true] at ht
 obtain ⟨ht1, ht2⟩ := ht
 split at ht1
 case h_2 => cases ht1
 rename_i E hE
 simp only [Bool.and_eq_true, beq_iff_eq] at ht1
 obtain ⟨⟨⟨hs, hby⟩, hz⟩, htg⟩ := ht1
 have htg : ∀ F, tg = some F -> F = E := fun F hF => by subst hF; simpa using (Eq.symm (by simpa using htg) : F = E)
 split at ht2
 case h_2 => cases ht2
 rename_i hu2
 have hE := run_elemT hE
 have hk : ∃ ty, (execOp a.eval go).run P w = ((Builtin.append_ #[t, u] ty #[a.eval x', a.eval y']).run P w).andThen (fun v w' => .ok (.value v) w') := by
  refine ⟨go.type, ?_⟩
  simp [execOp, hgo, resolve, hcal, ha, htys, invoke, builtin]
 obtain ⟨ty, hk⟩ := hk
 unfold hAps
 cases h1 : opd x e with
 | none => trivial
 | some p =>
 cases h2 : opd y e with
 | none => trivial
 | some q =>
 have hv := opd_sound he hx h1
 have hv2 := opd_sound he hy h2
 simp only []
 cases hsl : isSl p with
 | false => trivial
 | true =>
 simp only [cond_true]
 generalize hq : a.eval y' = yv at hv2 hk
 cases hv2 <;> first | trivial | skip
 rename_i b
 simp only []
 rw [lenL_eq, nats_length]
 have hsrc := Src.ofString (P := P) w hu2 b
 cases h0 : Nat.beq b.size 0 with
 | true =>
  rw [nbeq_iff] at h0
  simp only [cond_true]
  rw [h0] at hsrc
  have : byteCells b = [] := List.eq_nil_of_length_eq_zero (by rw [byteCells_length, h0])
  rw [this] at hsrc
  exact append_none hr hE hs hby hz hv hsl hsrc hk
 | false =>
  simp only [cond_false]
  obtain ⟨o1, o2⟩ := ofBytes_sound (β := β) (N := Live M s β) (w := w) b
  exact append_does hr hE hs hby hz htg hv hsrc o1 o2 hk
theorem repl_get (z : List HV) : ∀ (n : Nat), (repl z n).length = n * z.length /\ ∀ j v, (repl z n)[j]? = some v -> z[j % z.length]? = some v
 | 0 => ⟨by simp [repl], by simp [repl]⟩
 | n + 1 => by
  obtain ⟨h1, h2⟩ := repl_get z n
  refine ⟨by simp [repl, h1, Nat.succ_mul]; omega, fun j v hj => ?_⟩
  simp only [repl] at hj
  rcases Nat.lt_or_ge j z.length with hlt | hge
  ·rw [List.getElem?_append_left hlt] at hj
   rw [Nat.mod_eq_of_lt hlt]; exact hj
  ·rw [List.getElem?_append_right hge] at hj
   have := h2 _ _ hj
   rw [Nat.mod_eq_sub_mod hge]; exact this
theorem new_sl (hr : Rel M C β s w) {w1 : World} (hw : w1.heap = w.heap) (ho : w1.os = w.os) (htp : w1.tape = w.tape) (hou : w1.output = w.output) {go : Oper} {l : List HV} {cs : Array Value} {E : TypeId} {fr : Nat × Nat} {len sz cap : Nat} (hf : Free fr cs.size) (hl : l.length <= cs.size) (hc : ∀ (j : Nat) (v : HV), l[j]? = some v -> v.one = true /\ ∃ u, cs[j]? = some u /\ HR β (Live M s β) w v u)
  (hlc : len <= cap) (hcap : cap * sz <= cs.size)
  (hrun : (execOp a.eval go).run P w = .ok (.value (.slice (some ⟨w.heap.size, 0, none⟩) len cap)) { w1 with heap := w1.heap.push (.cells cs E fr) }) : Does M C P β s w a go (s.new l (fun o => .sl o 0 len sz)) := by
 rw [new_eq]
 have hd : Rel M C β s w1 := hr.drawn hw
 have hxd : Ext M β s w β s w1 := Ext.drawn hw ho htp hou
 obtain ⟨β', r1, r2, r3⟩ := hd.newRow (l := l) (cs := cs) (E := E) (fr := fr) (.inl rfl) hf hl (fun j v hj => by
  obtain ⟨a1, u, a2, a3⟩ := hc j v hj
  exact ⟨a1, u, a2, a3.ext hxd⟩)
 rw [hw] at r3
 refine ⟨_, _, β', .inl hrun, r1, hxd.trans r2, ?_⟩
 have hhas : Has { w1 with heap := w1.heap.push (.cells cs E fr) } w.heap.size cs.size := ⟨E, cs, fr, by show (w1.heap.push _)[w.heap.size]? = _; rw [hw]; simp, rfl⟩
 simpa using HR.sl (β := β') (N := Live M { h := tset (some (.cells (setL l 0 .lf) 0 (lenL l) s.nx)) s.nx s.h, nx := s.nx.succ, gr := tset (some [s.nx]) s.nx s.gr, ty := s.ty } β') s.nx 0 len sz cap cs.size ⟨w.heap.size, 0⟩ r3 (Nat.le_refl _) hlc hhas (by simpa using hcap)
theorem zero_info {E : TypeId} {sz : Nat} {z : List HV} (hs : sizeT P E = some sz) (hz : zeroT P E z = true) (hl : z.length = sz) :
  ∃ info zv, P.info? E = some info /\ info.zero = some zv /\ zv.cells.size = sz /\ info.size = sz /\ chkVs z zv.cells.toList = true := by
 unfold sizeT at hs
 unfold zeroT at hz
 cases hi : P.info? E with
 | none => simp [hi] at hs
 | some i =>
  simp only [hi, Option.map_some, Option.some.injEq] at hs
  simp only [hi, Option.bind_some] at hz
  cases hzz : i.zero with
  | none => simp [hzz] at hz
  | some zv =>
   simp only [hzz] at hz
   have := (chkVs_sound hz (fun _ => none) (fun _ => False) default).1
   exact ⟨i, zv, rfl, hzz, by simp at this; omega, hs, hz⟩
theorem do_mks (hr : Rel M C β s w) (he : EnvV β (Live M s β) w e a) {go : Oper} {sz mxl : Nat} {z : List HV} {l c : X} (hc : chkOp P (.mks sz mxl z l c) go.op = true) : Does M C P β s w a go (hMks sz mxl z l c e s) := by
 cases hgo : go.op <;> simp only [hgo] at hc <;> first | (simp [chkOp] at hc; done) | skip
 rename_i t l' c'
 simp only [chkOp, Bool.and_eq_true] at hc
 obtain ⟨⟨hl, hcc⟩, ht⟩ := hc
 split at ht
 case h_2 => cases ht
 rename_i E hE
 simp only [Bool.and_eq_true, beq_iff_eq, decide_eq_true_eq] at ht
 obtain ⟨⟨⟨⟨hs, hby⟩, hz⟩, hzl⟩, h63⟩ := ht
 have hE := run_elemT hE
 obtain ⟨info, zv, hi, hz0, hzs, his, hzc⟩ := zero_info hs hz hzl
 unfold bytesT at hby
 simp only [hi, Bool.and_eq_true, decide_eq_true_eq] at hby
 unfold hMks
 cases h1 : opd l e with
 | none => trivial
 | some p =>
 cases h2 : opd c e with
 | none => cases p <;> first | trivial | (rename_i k n; cases n <;> trivial)
 | some q =>
 have hv := opd_sound he hl h1
 have hv2 := opd_sound he hcc h2
 generalize hu : a.eval l' = u at hv
 generalize hu2 : a.eval c' = u2 at hv2
 cases hv <;> first | trivial | skip
 rename_i k n
 cases n with
 | negSucc n => trivial
 | ofNat n =>
 cases hv2 <;> first | trivial | skip
 rename_i k2 m
 cases m with
 | negSucc m => trivial
 | ofNat m =>
 simp only []
 cases hcond : (Nat.ble n m && Nat.ble m mxl) with
 | false => trivial
 | true =>
 simp only [Bool.and_eq_true, ble_iff] at hcond
 simp only [cond_true]
 have hbm : (info.bytes : Int) * (m : Int) <= 281474976710656 := by
  have h1 : m * info.bytes <= mxl * info.bytes := Nat.mul_le_mul_right _ hcond.2
  have h2 : info.bytes * m = m * info.bytes := Nat.mul_comm _ _
  have h3 : ((info.bytes * m : Nat) : Int) <= 281474976710656 := by omega
  rwa [Int.natCast_mul] at h3
 have hrun := run_make (P := P) w t E info zv hE hi hz0 k k2 (Int.ofNat n) (Int.ofNat m) (by simp) (by simpa using hcond.1) (by simpa using hbm) (by simp; omega)
 obtain ⟨f1, f2⟩ := repl_get z n
 have hone := chkVs_one z _ hzc
 have hzr := chkVs_sound hzc β (Live M s β) w
 refine new_sl (w1 := w) (cs := madeCells zv.cells (m * info.size)) (cap := m) (E := E) (fr := (0, 0)) hr rfl rfl rfl rfl (.inl rfl) (by rw [size_madeCells, f1, hzl, his]; exact Nat.mul_le_mul_right _ hcond.1) (fun j v hj => ?_) hcond.1 (by rw [size_madeCells, his]; exact Nat.le_refl _) ?_
 ·have hz1 := f2 j v hj
  have hj' : j < m * info.size := by
   have := (List.getElem?_eq_some_iff.1 hj).1
   rw [f1, hzl] at this
   rw [his]
   exact Nat.lt_of_lt_of_le this (Nat.mul_le_mul_right sz hcond.1)
  refine ⟨hone v (List.mem_of_getElem? hz1), zv.cells[j % zv.cells.size]!, by simp [madeCells, hj'], ?_⟩
  have hlt : j % z.length < zv.cells.size := by rw [hzs, <- hzl]; exact (List.getElem?_eq_some_iff.1 hz1).1
  refine hzr.2 (j % z.length) v _ hz1 ?_
  rw [hzl] at hlt ⊢
  rw [hzs]
  simp [hlt]
 ·simp only [execOp, hgo, hu, hu2]
  rw [Sem.run_bind, hrun]
  simp
theorem do_csb (hr : Rel M C β s w) (he : EnvV β (Live M s β) w e a) {go : Oper} {x : X} (hc : chkOp P (.csb x) go.op = true) : Does M C P β s w a go (hCsb x e s) := by
 cases hgo : go.op <;> simp only [hgo] at hc <;> first | (simp [chkOp] at hc; done) | skip
 rename_i sT tT y
 simp only [chkOp, Bool.and_eq_true] at hc
 obtain ⟨hx, hc⟩ := hc
 split at hc
 case h_2 => cases hc
 rename_i e0 hs ht
 split at hc
 case h_2 => cases hc
 rename_i hE
 unfold hCsb
 cases h1 : opd x e with
 | none => trivial
 | some p =>
 have hv := opd_sound he hx h1
 generalize hu : a.eval y = u at hv
 cases hv <;> first | trivial | skip
 rename_i b
 simp only []
 have hrun := run_bytes_of_string (P := P) w sT tT e0 b hs ht hE
 have hge := grownCap_ge w b.size 0 e0
 rw [lenL_eq, nats_length]
 obtain ⟨o1, o2⟩ := ofBytes_sound (β := β) (N := Live M s β) (w := w) b
 have hsz : (bytesRow b (grownCap w b.size 0 e0)).size = grownCap w b.size 0 e0 := by
  simp [bytesRow]
  have : b.data.size = b.size := rfl
  omega
 refine new_sl (w1 := w.drew) (cs := bytesRow b (grownCap w b.size 0 e0)) (cap := grownCap w b.size 0 e0) (E := e0) (fr := ((bytesRow b (grownCap w b.size 0 e0)).size, (bytesRow b (grownCap w b.size 0 e0)).size + 1)) hr rfl rfl rfl rfl (.inr (Nat.le_refl _)) (by rw [o1.1.symm, byteCells_length, hsz]; exact hge) (fun j v hj => ?_) hge (by rw [hsz]; omega) ?_
 ·have hjl : j < (byteCells b).length := by rw [o1.1]; exact (List.getElem?_eq_some_iff.1 hj).1
  refine ⟨o2 v (List.mem_of_getElem? hj), (byteCells b)[j], ?_, o1.2 j v _ hj (List.getElem?_eq_getElem hjl)⟩
  rw [byteCells_length] at hjl
  have hjl' : j < b.data.size := hjl
  simp [bytesRow, byteCells, Array.getElem?_append, hjl, Array.getElem?_eq_getElem hjl']
 ·simp only [execOp, hgo, hu]
  rw [Sem.run_bind, hrun]
  simp
  rfl
theorem do_bin (hr : Rel M C β s w) (he : EnvV β (Live M s β) w e a) {go : Oper} {bl : Bool} {op : BinOp} {x y : X} (hc : chkOp P (.bin bl op x y) go.op = true) : Does M C P β s w a go (hBin bl op x y e s) := by
 cases hgo : go.op <;> simp only [hgo] at hc <;> first | (simp [chkOp] at hc; done) | skip
 rename_i op' t x' y' cm
 simp only [chkOp, Bool.and_eq_true, beq_iff_eq] at hc
 obtain ⟨⟨⟨rfl, hx⟩, hy⟩, ht⟩ := hc
 unfold hBin
 cases h1 : opd x e with
 | none => trivial
 | some p =>
 cases h2 : opd y e with
 | none => trivial
 | some q =>
 have hv := opd_sound he hx h1
 have hv2 := opd_sound he hy h2
 show Does M C P β s w a go (rv s (binH bl op p q))
 cases hb : binH bl op p q with
 | none => trivial
 | some r =>
  obtain ⟨z, h3, h4⟩ := run_bin (P := P) (x := x') (y := y') hb hv hv2 ht
  refine .val hr ?_ h4
  simp only [execOp, hgo]
  rw [Sem.run_bind] at h3
  simp only [Sem.run_bind]
  cases hg : (eqGuard op t x' y' (a.eval x') (a.eval y')).run P w with
  | ok u w1 => rw [hg] at h3; simp only [Result.andThen_ok] at h3 ⊢; rw [h3]; rfl
  | halt k w1 => rw [hg] at h3; cases h3
end sound
section sound
variable {M : Nat -> Prop} {C : CRel} {P : Program} {β : Bt} {s : HS} {w : World} {e : En} {a : Act}
theorem min_eq (m n : Nat) : (bif Nat.ble m n then m else n) = Nat.min n m := by
 cases h : Nat.ble m n with
 | true => rw [ble_iff] at h; exact (Nat.min_eq_right h).symm
 | false =>
  have : ¬ m <= n := fun h' => by rw [<- ble_iff, h] at h'; cases h'
  exact (Nat.min_eq_left (by omega : n <= m)).symm
theorem run_copy {t E : TypeId} {ts : Array TypeId} {ty : TypeId} {sz n : Nat} {A : Option Addr} {dl dc sl : Nat} {src : Value} {news : List Value} {w' : World} (htys : ts[0]? = some t) (ht : P.underlying t = some (.slice E)) (hs : sizeT P E = some sz)
  (hlen : (Builtin.lenOf src).run P w = .ok sl w) (hn : Nat.min sl dl = n) (hcells : (Builtin.firstCells sz n src).run P w = .ok news.toArray w)
  (hst : ∀ a, A = some a -> (storeCells a news).run P w = .ok () w') (hnone : A = none -> w' = w) :
  (Builtin.copy_ ts ty #[.slice A dl dc, src]).run P w = .ok (.int .i64 n) w' := by
 have hsz := run_sizeT (w := w) hs
 unfold Builtin.copy_
 simp [htys, run_underlying ht, hlen, hn, hsz, hcells]
 cases A with
 | none => rw [hnone rfl]; simp [goInt]
 | some a => simp [hst a rfl, goInt]
theorem storeCells_nil (A : Addr) : (storeCells A []).run P w = .ok () w := by simp [storeCells]
theorem do_cpy (hr : Rel M C β s w) (he : EnvV β (Live M s β) w e a) {go : Oper} {sz : Nat} {x y : X} (hc : chkOp P (.cpy sz x y) go.op = true) : Does M C P β s w a go (hCpy sz x y e s) := by
 cases hgo : go.op <;> simp only [hgo] at hc <;> first | (simp [chkOp] at hc; done) | skip
 rename_i cl
 simp only [chkOp, Bool.and_eq_true] at hc
 obtain ⟨⟨hb, hc⟩, ht⟩ := hc
 split at hb
 case h_2 => cases hb
 rename_i hcal
 obtain ⟨x', y', ha, hx, hy⟩ := chkXs_two hc
 split at ht
 case h_2 => cases ht
 rename_i t tr htys
 have htys : cl.argTypes[0]? = some t := by rw [<- Array.getElem?_toList, htys]; rfl
 split at ht
 case h_2 => cases ht
 rename_i E hE
 have hs := beq_iff_eq.1 ht
 have hE := run_elemT hE
 have hk : ∃ ty, (execOp a.eval go).run P w = ((Builtin.copy_ cl.argTypes ty #[a.eval x', a.eval y']).run P w).andThen (fun v w' => .ok (.value v) w') := by
  refine ⟨go.type, ?_⟩
  simp [execOp, hgo, resolve, hcal, ha, invoke, builtin]
 obtain ⟨ty, hk⟩ := hk
 unfold hCpy
 cases h1 : opd x e with
 | none => trivial
 | some p =>
 cases h2 : opd y e with
 | none => cases p <;> trivial
 | some q =>
 have hv := opd_sound he hx h1
 have hv2 := opd_sound he hy h2
 generalize hu : a.eval x' = xv at hv hk
 generalize hu2 : a.eval y' = yv at hv2 hk
 have fin : ∀ (n : Nat) (s' : HS) (w' : World), (Builtin.copy_ cl.argTypes ty #[xv, yv]).run P w = .ok (.int .i64 n) w' -> Rel M C β s' w' -> Ext M β s w β s' w' -> Does M C P β s w a go (.v (.int .i64 (.ofNat n)) s') :=
  fun n s' w' h1 h2 h3 => ⟨_, w', β, .inl (by rw [hk, h1]; rfl), h2, h3, .int _ _⟩
 have zero : ∀ (n0 : Nat) (A : Option Addr) (l c : Nat), xv = .slice A l c -> (Builtin.lenOf yv).run P w = .ok n0 w -> Nat.min n0 l = 0 -> (Builtin.firstCells sz 0 yv).run P w = .ok #[] w -> Does M C P β s w a go (.v (.int .i64 0) s) := by
  intro n0 A l c hxv hlen hn hcl
  have := run_copy (ty := ty) (dc := c) (news := []) (w' := w) htys hE hs hlen hn hcl (fun a _ => storeCells_nil a) (fun _ => rfl) (A := A)
  exact fin 0 s w (by rw [hxv]; exact this) hr (Ext.refl _ _ _)
 have lc0 : ∀ A : Addr, (loadCells A 0).run P w = .ok #[] w := fun A => by simp [loadCells, loadCellsFrom]
 cases p <;> first | trivial | skip
 ·
  cases hv
  cases q <;> first | trivial | skip
  ·cases hv2; exact zero 0 none 0 0 rfl (by simp [Builtin.lenOf]) rfl (by simp [Builtin.firstCells])
  ·cases hv2 with
   | sl _ _ _ _ cap n pl hpl hs' hl hb' hcc => exact zero _ none 0 0 rfl (by simp [Builtin.lenOf]; rfl) (by simp) (by simp [Builtin.firstCells, lc0])
   | sl0 => exact zero 0 none 0 0 rfl (by simp [Builtin.lenOf]) rfl (by simp [Builtin.firstCells, lc0])
  ·generalize hp : HV.psl _ = p' at hv2
   cases hv2 <;> first | (cases hp; done) | skip
   ·rename_i A cap hn
    cases A with
    | none => exact zero 0 none 0 0 rfl (by simp [Builtin.lenOf]) rfl (by simp [Builtin.firstCells])
    | some A => exact zero 0 none 0 0 rfl (by simp [Builtin.lenOf]) rfl (by simp [Builtin.firstCells, lc0])
   ·exact zero _ none 0 0 rfl (by simp [Builtin.lenOf]; rfl) (by simp) (by simp [Builtin.firstCells, lc0])
 ·rename_i o off len sz'
  obtain ⟨A, l0, c0, hxs, _⟩ := isSl_slice hv rfl
  have hl0 : l0 = len /\ A ≠ none := by
   subst hxs
   cases hv with
   | sl => exact ⟨rfl, by simp⟩
   | sl0 => exact ⟨rfl, by simp⟩
  obtain ⟨rfl, hA⟩ := hl0
  cases q <;> first | trivial | skip
  ·
   cases hv2
   exact zero 0 A l0 c0 hxs (by simp [Builtin.lenOf]) (by simp) (by simp [Builtin.firstCells])
  ·rename_i o2 off2 len2 sz2
   simp only []
   cases hsz : Nat.beq sz sz' with
   | false => trivial
   | true =>
   rw [nbeq_iff] at hsz; subst hsz
   simp only [Bool.not_true, cond_false, min_eq]
   obtain ⟨A2, l2, c2, hys, _⟩ := isSl_slice hv2 rfl
   have hl2 : l2 = len2 /\ ∃ a2, A2 = some a2 := by
    subst hys
    cases hv2 with
    | sl => exact ⟨rfl, _, rfl⟩
    | sl0 => exact ⟨rfl, _, rfl⟩
   obtain ⟨rfl, a2, rfl⟩ := hl2
   cases h0 : Nat.beq (Nat.min l2 l0) 0 with
   | true =>
    rw [nbeq_iff] at h0
    exact zero l2 A l0 c0 hxs (by rw [hys]; simp [Builtin.lenOf]) h0 (by rw [hys]; simp [Builtin.firstCells, lc0])
   | false =>
    have h0 : Nat.min l2 l0 ≠ 0 := fun h => by rw [h] at h0; cases h0
    simp only [cond_false]
    cases hcl : s.cellsAt o2 off2 (Nat.min l2 l0 * sz) with
    | none => trivial
    | some l =>
     simp only []
     cases hst : s.store o off l with
     | none => trivial
     | some s' =>
      simp only []
      subst hys
      cases hv2 with
      | sl0 => exact absurd (by simp) h0
      | sl _ _ _ _ _ n2 pl2 hpl2 hs2 hl2 hb2 hcc2 =>
       obtain ⟨d1, d2, d3, g, d4, d5⟩ := hr.cellsAt hpl2 hcl
       subst hxs
       cases hv with
       | sl0 => exact absurd (by simp) h0
       | sl _ _ _ _ _ n1 pl1 hpl1 hs1 hl1 hb1 hcc1 =>
        have hrs : HRs β (Live M s β) w l (List.ofFn (n := Nat.min l2 l0 * sz) fun j => g j) := by
         refine ⟨by simp [d2], fun j v x hj hx => ?_⟩
         have hjl : j < Nat.min l2 l0 * sz := by rw [<- d2]; exact (List.getElem?_eq_some_iff.1 hj).1
         simp only [List.getElem?_ofFn, hjl, dite_true, Option.some.injEq] at hx
         subst hx
         exact d5 j v hj
        obtain ⟨k1, w', k2, k3, k4⟩ := store_sound (P := P) hr hpl1 hrs d3 hst
        refine fin _ s' w' ?_ k3 k4
        have hld := run_loadCells P w pl2.b (off2 - pl2.s) (Nat.min l2 l0 * sz) (fun j => g j) d4
        refine run_copy (news := List.ofFn (n := Nat.min l2 l0 * sz) fun j => g j) (sz := sz) (sl := l2) htys hE hs (by simp [Builtin.lenOf]) rfl ?_ (fun a ha => ?_) (fun h => by cases h)
        ·simp only [Builtin.firstCells]; rw [hld]; congr 1; apply Array.ext'; simp
        ·cases ha; exact k2
  ·rename_i els
   simp only []
   cases hsz : Nat.beq sz sz' with
   | false => trivial
   | true =>
   rw [nbeq_iff] at hsz; subst hsz
   simp only [Bool.not_true, cond_false, min_eq, lenL_eq, takeN_eq]
   have hyl : ∃ A2 c2, yv = .slice A2 els.length c2 /\ (A2 = none -> els.length = 0) := by
    generalize hp : HV.psl els = p' at hv2
    cases hv2 <;> first | (cases hp; done) | skip
    ·cases hp; exact ⟨_, _, rfl, fun _ => rfl⟩
    ·cases hp; exact ⟨_, _, rfl, fun h => by cases h⟩
   obtain ⟨A2, c2, hys, hA2⟩ := hyl
   cases h0 : Nat.beq (Nat.min els.length l0) 0 with
   | true =>
    rw [nbeq_iff] at h0
    refine zero els.length A l0 c0 hxs (by rw [hys]; simp [Builtin.lenOf]) h0 ?_
    rw [hys]
    cases A2 with
    | none => simp [Builtin.firstCells]
    | some A2 => simp [Builtin.firstCells, lc0]
   | false =>
    have h0 : Nat.min els.length l0 ≠ 0 := fun h => by rw [h] at h0; cases h0
    simp only [cond_false]
    cases hal : allLen sz els with
    | false => trivial
    | true =>
    simp only [cond_true]
    have hlen := allLen_iff hal
    have hal2 : allLen sz (els.take (Nat.min els.length l0)) = true := by
     have : ∀ (l : List (List HV)), (∀ row ∈ l, row.length = sz) -> allLen sz l = true := by
      intro l
      induction l with
      | nil => intro _; rfl
      | cons r l ih => intro h; simp only [allLen, Bool.and_eq_true, nbeq_iff, lenL_eq]; exact ⟨h r List.mem_cons_self, ih fun row hrow => h row (List.mem_cons_of_mem _ hrow)⟩
     exact this _ fun row hrow => hlen row (List.mem_of_mem_take hrow)
    cases hst : s.store o off (flatR (els.take (Nat.min els.length l0))) with
    | none => trivial
    | some s' =>
     simp only []
     have hpart : ∃ A' c', yv = .slice A' els.length c2 /\ A' = A2 /\ HR β (Live M s β) w (.psl (els.take (Nat.min els.length l0))) (.slice A2 (Nat.min els.length l0) c') := by
      have hle : (Nat.min els.length l0) <= els.length := Nat.min_le_left _ _
      generalize hp : HV.psl els = p' at hv2
      cases hv2 <;> first | (cases hp; done) | skip
      ·cases hp; exact absurd (by simp) h0
      ·rename_i els' b o3 cap3 sz3 g hN hlt hcap hsz hg0 hcg hvg
       cases hp
       cases hys
       refine ⟨_, c2, rfl, rfl, ?_⟩
       have hl : (els.take (Nat.min els.length l0)).length = Nat.min els.length l0 := by rw [List.length_take]; exact Nat.min_eq_left hle
       have := HR.psl (β := β) (N := Live M s β) (w := w) (els.take (Nat.min els.length l0)) b o3 c2 sz3 g hN hlt (by omega) (fun i row hi => hsz i row (by
         rw [List.getElem?_take] at hi
         split at hi
         ·exact hi
         ·cases hi)) (fun row hrow => hg0 row (List.mem_of_mem_take hrow)) (fun i j hi hj => hcg i j (by omega) hj) (fun i row j a hi hj => hvg i row j a (by
         rw [List.getElem?_take] at hi
         split at hi
         ·exact hi
         ·cases hi) hj)
       rw [hl] at this; exact this
     obtain ⟨A', c', hy1, rfl, hpv⟩ := hpart
     have hne : (els.take (Nat.min els.length l0)).length ≠ 0 := by
      rw [List.length_take]
      have : Nat.min els.length l0 <= els.length := Nat.min_le_left _ _
      omega
     obtain ⟨nv, e1, e2, e3⟩ := src_psl hr (tx := t) (e' := E) hE hpv hal2 hne
     subst hxs
     cases hv with
     | sl0 => exact absurd (by simp) h0
     | sl _ _ _ _ _ n1 pl1 hpl1 hs1 hl1 hb1 hcc1 =>
      obtain ⟨k1, w', k2, k3, k4⟩ := store_sound (P := P) hr hpl1 e2 e3 hst
      refine fin _ s' w' ?_ k3 k4
      have hcl := e1.cells
      have hl : (els.take (Nat.min els.length l0)).length = Nat.min els.length l0 := by
       rw [List.length_take]
       have : Nat.min els.length l0 <= els.length := Nat.min_le_left _ _
       exact Nat.min_eq_left this
      rw [hl] at hcl
      rw [hys]
      refine run_copy (news := nv) (sz := sz) (sl := els.length) htys hE hs (by simp [Builtin.lenOf]) rfl ?_ (fun a ha => ?_) (fun h => by cases h)
      ·cases A' with
       | none => exact absurd (by have := hA2 rfl; simp [this]) h0
       | some A' => simpa [Builtin.firstCells] using hcl
      ·cases ha; exact k2
theorem do_clr (hr : Rel M C β s w) (he : EnvV β (Live M s β) w e a) {go : Oper} {sz : Nat} {z : List HV} {x : X} (hc : chkOp P (.clr sz z x) go.op = true) : Does M C P β s w a go (hClr z x e s) := by
 cases hgo : go.op <;> simp only [hgo] at hc <;> first | (simp [chkOp] at hc; done) | skip
 rename_i cl
 simp only [chkOp, Bool.and_eq_true] at hc
 obtain ⟨⟨hb, hc⟩, ht⟩ := hc
 split at hb
 case h_2 => cases hb
 rename_i hcal
 obtain ⟨x', ha, hx⟩ := chkXs_one hc
 split at ht
 case h_2 => cases ht
 rename_i t htys
 have htys : cl.argTypes = #[t] := by rw [<- Array.toList_inj]; exact htys
 split at ht
 case h_2 => cases ht
 rename_i E hE
 simp only [Bool.and_eq_true, beq_iff_eq] at ht
 obtain ⟨⟨hs, hz⟩, hzl⟩ := ht
 have hE := run_elemT hE
 obtain ⟨info, zv, hi, hz0, hzs, his, hzc⟩ := zero_info hs hz hzl
 unfold hClr
 cases h1 : opd x e with
 | none => trivial
 | some p =>
 have hv := opd_sound he hx h1
 generalize hu : a.eval x' = xv at hv
 have nothing : ∀ A l c, xv = .slice A l c -> (A = none ∨ l = 0) -> Does M C P β s w a go (.v .undef s) := by
  intro A l c hxv hA
  refine .val (u := Go.undef) hr ?_ .undef
  rcases hA with rfl | rfl
  ·simp [execOp, hgo, resolve, hcal, ha, htys, invoke, builtin, Builtin.clear_, run_underlying hE, hu, hxv]; rfl
  ·cases A <;> (simp [execOp, hgo, resolve, hcal, ha, htys, invoke, builtin, Builtin.clear_, run_underlying hE, hu, hxv]; rfl)
 cases p <;> first | trivial | skip
 ·cases hv; exact nothing _ _ _ rfl (.inl rfl)
 ·rename_i o off len sz'
  simp only []
  cases h0 : Nat.beq len 0 with
  | true =>
   rw [nbeq_iff] at h0; subst h0
   cases hv with
   | sl => exact nothing _ _ _ rfl (.inr rfl)
   | sl0 => exact nothing _ _ _ rfl (.inr rfl)
  | false =>
   have h0 : len ≠ 0 := fun h => by rw [h] at h0; cases h0
   simp only [cond_false]
   cases hst : s.store o off (repl z len) with
   | none => trivial
   | some s' =>
    simp only []
    cases hv with
    | sl0 => exact absurd rfl h0
    | sl _ _ _ _ cap n pl hpl hs' hl hb' hcc =>
     obtain ⟨f1, f2⟩ := repl_get z len
     have hone := chkVs_one z _ hzc
     have hzr := chkVs_sound hzc β (Live M s β) w
     have hrs : HRs β (Live M s β) w (repl z len) (Builtin.zeroCells zv.cells len).toList := by
      refine ⟨by simp [Builtin.zeroCells, f1, hzl, hzs], fun j v u hj hju => ?_⟩
      have hz1 := f2 j v hj
      have hj' : j < len * zv.cells.size := by
       have := (List.getElem?_eq_some_iff.1 hj).1
       rw [f1, hzl, <- hzs] at this; exact this
      simp [Builtin.zeroCells, hj'] at hju
      have hlt : j % z.length < zv.cells.size := by rw [hzs, <- hzl]; exact (List.getElem?_eq_some_iff.1 hz1).1
      refine hzr.2 (j % z.length) v u hz1 ?_
      rw [hzl] at hlt ⊢
      rw [hzs] at hju
      subst hju
      simp [hlt]
     obtain ⟨k1, w', k2, k3, k4⟩ := store_sound (P := P) hr hpl hrs (fun v hv => by
      obtain ⟨j, hj, rfl⟩ := List.getElem_of_mem hv
      exact hone _ (List.mem_of_getElem? (f2 j _ (List.getElem?_eq_getElem hj)))) hst
     refine ⟨Go.undef, w', β, .inl ?_, k3, k4, .undef⟩
     obtain ⟨m, rfl⟩ : ∃ m, len = m + 1 := ⟨len - 1, by omega⟩
     simp [execOp, hgo, resolve, hcal, ha, htys, invoke, builtin, Builtin.clear_, run_underlying hE, hu, zeroValue, typeInfo, hi, hz0, k2]
     rfl
def Callable (P : Program) (f : FuncId) : Prop := ∃ fn, P.funcs[f]? = some fn /\ fn.body.isSome = true /\ (fn.name == "runtime.NumGoroutine") = false
theorem run_callFunc {P : Program} {f : FuncId} (hf : Callable P f) (args : Array Value) (w : World) : (callFunc f args).run P w = .ok (.enter f args) w := by
 obtain ⟨fn, h1, h2, h3⟩ := hf
 unfold callFunc
 simp only [Sem.run_bind, run_program, Result.andThen_ok, h1]
 have hnn : fn.body.isNone = false := by cases hb : fn.body <;> simp_all
 simp [h3, hnn]
theorem do_call (he : EnvV β (Live M s β) w e a) {go : Oper} {f : Nat} {xs : List X} (hc : chkOp P (.call f xs) go.op = true) : Does M C P β s w a go (hCall f xs e s) := by
 cases hgo : go.op <;> simp only [hgo] at hc <;> first | (simp [chkOp] at hc; done) | skip
 rename_i cl
 simp only [chkOp, Bool.and_eq_true] at hc
 obtain ⟨⟨hb, hc⟩, hf⟩ := hc
 split at hb
 case h_2 => cases hb
 rename_i g hcal
 have := beq_iff_eq.1 hb; subst this
 split at hf
 case h_2 => cases hf
 rename_i fn hfn
 simp only [Bool.and_eq_true, bne_iff_ne, ne_eq] at hf
 have hcallable : Callable P f := ⟨fn, hfn, hf.1, by simpa using hf.2⟩
 unfold hCall
 cases h1 : opds xs e with
 | none => trivial
 | some l =>
  have hv := opds_sound he hc h1
  refine ⟨cl.args.toList.map a.eval, ?_, hv⟩
  simp [execOp, hgo, resolve, hcal, Act.eval, Deferred.ofValue, invoke, run_callFunc hcallable]
  simp [<- Array.toList_map]
theorem do_dyn (he : EnvV β (Live M s β) w e a) {go : Oper} {x : X} {xs : List X} (hc : chkOp P (.dyn x xs) go.op = true) (hcal : ∀ f l, hDyn x xs e s = .call f l -> Callable P f) : Does M C P β s w a go (hDyn x xs e s) := by
 cases hgo : go.op <;> simp only [hgo] at hc <;> first | (simp [chkOp] at hc; done) | skip
 rename_i cl
 simp only [chkOp, Bool.and_eq_true] at hc
 obtain ⟨hb, hc⟩ := hc
 split at hb
 case h_2 => cases hb
 rename_i y hcl
 unfold hDyn at hcal ⊢
 cases h1 : opd x e with
 | none => trivial
 | some p =>
 cases h2 : opds xs e with
 | none => cases p <;> trivial
 | some l =>
 rw [h1, h2] at hcal
 have hv := opd_sound he hb h1
 have hvs := opds_sound he hc h2
 generalize hu : a.eval y = u at hv
 cases p <;> first | trivial | skip
 ·rename_i f fi ca
  cases hv with
  | fn _ _ _ fs cps h1 h2 h3 h4 =>
   have hcb := hcal f _ rfl
   refine ⟨fs.toList ++ cl.args.toList.map a.eval ++ cps.toList, ?_, ?_⟩
   ·simp [execOp, hgo, resolve, hcl, hu, Deferred.ofValue, invoke, run_callFunc hcb]
   ·refine (HRs.append ⟨by simp [h1], fun j v u hv hu => h3 j v u hv (by simpa using hu)⟩ hvs).append ⟨by simp [h2], fun j v u hv hu => h4 j v u hv (by simpa using hu)⟩
 ·rename_i r
  cases hv with
  | yld _ pl hpl =>
   refine ⟨pl, cl.args.toList.map a.eval, hpl, hvs, fun rr hrr hsz => ?_⟩
   have hg : (getObj pl.b).run P w = .ok (.loop rr) w := run_gobj hrr rfl
   have hsz' : cl.args.size = rr.params.size := by rw [hsz]; simp
   simp [execOp, hgo, resolve, hcl, hu, Deferred.ofValue, invoke, Instr.yield, Instr.getLoop, hg, hsz']
   rw [show (List.map a.eval cl.args.toList).toArray = Array.map a.eval cl.args by apply Array.ext'; simp]
end sound
section sound
variable {M : Nat -> Prop} {C : CRel} {P : Program} {β : Bt} {s : HS} {w : World} {e : En} {a : Act}
theorem hop_sound (hr : Rel M C β s w) (he : EnvV β (Live M s β) w e a) {go : Oper} {op : HOp} (hc : chkOp P op go.op = true) (hcal : ∀ f l, hop op e s = .call f l -> Callable P f) : Does M C P β s w a go (hop op e s) := by
 cases op with
 | mv => exact do_mv hr he hc
 | pick => exact do_pick hr he hc
 | alloc => exact do_alloc (e := e) hr hc
 | alb => exact do_alb (e := e) hr hc
 | box => exact do_box hr he hc
 | fbx => exact do_fbx hr he hc
 | build => exact do_build hr he hc
 | bsl => exact do_bsl hr he hc
 | fbl => exact do_fbl hr he hc
 | ld => exact do_ld hr he hc
 | st => exact do_st hr he hc
 | fa => exact do_fa hr he hc
 | ia => exact do_ia hr he hc
 | idx => exact do_idx hr he hc
 | len => exact do_len hr he hc
 | bin => exact do_bin hr he hc
 | un => exact do_un hr he hc
 | mkf => exact do_mkf hr he hc
 | ext => exact do_ext hr he hc
 | cnv => exact do_cnv hr he hc
 | nck => exact do_nck hr he hc
 | mm => exact do_mm hr he hc
 | app => exact do_app hr he hc
 | mks => exact do_mks hr he hc
 | mkm => exact do_mkm (e := e) hr hc
 | lkp => exact do_lkp hr he hc
 | mup => exact do_mup hr he hc
 | eqs => exact do_eqs hr he hc
 | niq => exact do_niq hr he hc
 | slc => exact do_slc hr he hc
 | sls => exact do_sls hr he hc
 | call => exact do_call he hc
 | dyn => exact do_dyn he hc hcal
 | cis => exact do_cis hr he hc
 | cbs => exact do_cbs hr he hc
 | csb => exact do_csb hr he hc
 | men => exact do_men hr he hc
 | mes => exact do_mes hr he hc
 | aps => exact do_aps hr he hc
 | cpy => exact do_cpy hr he hc
 | clr => exact do_clr hr he hc
 | cap => exact trivial
 | cvs => exact do_cvs hr he hc
 | bad => exact trivial
noncomputable def res1 (ih : Task -> Out) (o : HOper) (e : En) (s : HS) : Option (HV × HS) := match wants e o.g with
 | some true => (match hop o.op e s with
  | .v v s' => some (v, s')
  | .call f l => (match ih (.call f l s) with | .val v s' => some (v, s') | _ => none)
  | .round f l => (match ih (.round f l s) with | .val v s' => some (v, s') | _ => none)
  | .bad => none)
 | some false => some (.undef, s)
 | none => none
theorem one_code {ih : Task -> Out} {o : HOper} {K : En -> HS -> Out} {x : Ex} {e2 : En} {s2 : HS} (h : one ih o e s K = .code x e2 s2) : ∃ v s', res1 ih o e s = some (v, s') /\ K (e.put o.d v) s' = .code x e2 s2 := by
 unfold one at h
 unfold res1
 cases hw : wants e o.g with
 | none => rw [hw] at h; cases h
 | some q =>
  rw [hw] at h
  cases q with
  | false => exact ⟨.undef, s, rfl, h⟩
  | true =>
   simp only [opt] at h
   cases hp : hop o.op e s with
   | v v s' => rw [hp] at h; exact ⟨v, s', rfl, h⟩
   | bad => rw [hp] at h; cases h
   | call f l =>
    rw [hp] at h
    simp only []
    have h : (ih (.call f l s)).asVal (fun v s' => K (e.put o.d v) s') (.bad 1) = .code x e2 s2 := h
    cases hq : ih (.call f l s) with
    | val v s' => rw [hq] at h; exact ⟨v, s', rfl, h⟩
    | code => rw [hq] at h; cases h
    | bad => rw [hq] at h; cases h
   | round f l =>
    rw [hp] at h
    simp only []
    have h : (ih (.round f l s)).asVal (fun v s' => K (e.put o.d v) s') (.bad 2) = .code x e2 s2 := h
    cases hq : ih (.round f l s) with
    | val v s' => rw [hq] at h; exact ⟨v, s', rfl, h⟩
    | code => rw [hq] at h; cases h
    | bad => rw [hq] at h; cases h
def Ended (M : Nat -> Prop) (C : CRel) (β : Bt) (s : HS) (w : World) (v : HV) (s' : HS) : Ending -> World -> Prop :=
 fun en w' => ∃ u β', en = .returned u /\ Rel M C β' s' w' /\ Ext M β s w β' s' w' /\ HR β' (Live M s' β') w' v u
def Marks (lo : Nat) (N : Nat -> Prop) (w : World) (ds : List Deferred) : Prop := ∃ rs : List Nat, ds = rs.map (fun r => { target := .collected r, args := #[] }) /\ rs.Nodup /\ ∀ r ∈ rs, lo <= r /\ w.heap[r]? = some (.deferred (some [])) /\ ¬ N r
theorem Marks.nil {lo : Nat} {N : Nat -> Prop} : Marks lo N w [] := ⟨[], rfl, .nil, by simp⟩
theorem Marks.ext {lo : Nat} {β' : Bt} {s' : HS} {w' : World} (h : Ext M β s w β' s' w') {ds : List Deferred} (hm : Marks lo (Live M s β) w ds) : Marks lo (Live M s' β') w' ds := by
 obtain ⟨rs, h1, h2, h3⟩ := hm
 refine ⟨rs, h1, h2, fun r hr => ?_⟩
 obtain ⟨h6, h4, h5⟩ := h3 r hr
 have hlt := lt_of_block h4
 exact ⟨h6, by rw [h.keeps.same r hlt h5]; exact h4, fun x => h5 (h.less r hlt x)⟩
def FW (ro : Option Nat) : Fence := { Fence.wide with round := ro }
theorem callsIn_fw {ro : Option Nat} {n : Nat} {f : FuncId} {args : Array Value} {R : Ending -> World -> Prop} (h : Calls P f args w R) : CallsIn (FW ro) n P f args w R := by
 have h := callsIn_wide (n := n).2 h
 exact ⟨trivial, fun cs _ => h.2 cs (room_wide _)⟩
theorem roundIn_fw {ro : Option Nat} {n l : Nat} {f : FuncId} {tmps : Array Value} {as bo : Code} {R : Ending -> World -> Prop} (h : RoundIn Fence.wide n P l f tmps as bo w R) : RoundIn (FW ro) n P l f tmps as bo w R :=
 ⟨trivial, fun c cs _ => h.2 c cs (room_wide _)⟩
def Ex.to : Ex -> Exit
 | .normal => .normal
 | .ret => .ret
 | .exit i => .exit i
structure At (M : Nat -> Prop) (C : CRel) (nt : Nat) (keep : List Nat) (ro : Option Nat) (lo : Nat) (β : Bt) (s : HS) (e : En) (a : Act) (w : World) : Prop where
 rel : Rel M C β s w
 env : EnvR β (Live M s β) w keep e a.tmps
 size : a.tmps.size = nt
 marks : Marks lo (Live M s β) w a.defers
 lo_le : lo <= w.heap.size
 fix : Fixed C (Live M s β) w
 rec_ : ∀ l, ro = some l -> ∃ r, w.heap[l]? = some (.loop r)
theorem At.later {nt : Nat} {keep : List Nat} {ro : Option Nat} {lo : Nat} (h : At M C nt keep ro lo β s e a w) {β' : Bt} {s' : HS} {w' : World} (hr : Rel M C β' s' w') (hx : Ext M β s w β' s' w') : At M C nt keep ro lo β' s' e a w' :=
 ⟨hr, h.env.ext hx, h.size, h.marks.ext hx, Nat.le_trans h.lo_le hx.keeps.size, h.fix.ext hx, fun l hl => let ⟨r, h1⟩ := h.rec_ l hl; hx.loops l r h1⟩
def CodeS (C : CRel) (P : Program) (nt : Nat) (keep : List Nat) (code : Code) (e : En) (s : HS) (x : Ex) (e' : En) (s' : HS) : Prop :=
 ∀ (M : Nat -> Prop) (ro : Option Nat) (lo : Nat) (β : Bt) (a : Act) (w : World), At M C nt keep ro lo β s e a w ->
  code.wpIn (FW ro) 0 P (fun en a' w' => en = x.to /\ ∃ β', At M C nt keep ro lo β' s' e' a' w' /\ Ext M β s w β' s' w') a w
def LoopIn (F : Fence) (n : Nat) (P : Program) (c : Code) (Q : Exit -> Act -> World -> Prop) (a : Act) (w : World) : Prop :=
 ∀ (b : Frame) (k : List Item) (cs : List Frame), b.roundOf = F.round -> F.fn b.fn -> F.room (cs.length + 1 + n) ->
  ∃ e a' w', Q e a' w' /\ ArrivesIn (Machine.fenced P F) P (lone (b.atR a (.code c :: .inLoop c :: k)) cs w) b k cs e a' w'
def Post (M : Nat -> Prop) (C : CRel) (nt : Nat) (keep : List Nat) (ro : Option Nat) (lo : Nat) (β : Bt) (s : HS) (w : World) (x : Ex) (e' : En) (s' : HS) : Exit -> Act -> World -> Prop :=
 fun en a' w' => en = x.to /\ ∃ β', At M C nt keep ro lo β' s' e' a' w' /\ Ext M β s w β' s' w'
def LoopS (C : CRel) (P : Program) (nt : Nat) (keep : List Nat) (code : Code) (e : En) (s : HS) (x : Ex) (e' : En) (s' : HS) : Prop :=
 ∀ (M : Nat -> Prop) (ro : Option Nat) (lo : Nat) (β : Bt) (a : Act) (w : World), At M C nt keep ro lo β s e a w -> LoopIn (FW ro) 0 P code (Post M C nt keep ro lo β s w x e' s') a w
def OldW (w0 w : World) : Prop := w0.heap.size <= w.heap.size /\ (∀ b, b < w0.heap.size -> w.heap[b]? = w0.heap[b]?) /\ w.os = w0.os /\ w.tape = w0.tape /\ w.output = w0.output
def Young (w0 : World) (s : HS) (β : Bt) : Prop := ∀ b, Alive s β b -> w0.heap.size <= b
def PostP (M : Nat -> Prop) (C : CRel) (nt : Nat) (keep : List Nat) (ro : Option Nat) (lo : Nat) (w0 : World) (x : Ex) (e' : En) (s' : HS) : Exit -> Act -> World -> Prop :=
 fun en a' w' => en = x.to /\ ∃ β', At M C nt keep ro lo β' s' e' a' w' /\ OldW w0 w' /\ Young w0 s' β'
def CodeP (C : CRel) (P : Program) (nt : Nat) (keep : List Nat) (code : Code) (e : En) (s : HS) (x : Ex) (e' : En) (s' : HS) : Prop :=
 ∀ (M : Nat -> Prop) (ro : Option Nat) (lo : Nat) (β : Bt) (a : Act) (w w0 : World), At M C nt keep ro lo β s e a w -> OldW w0 w -> Young w0 s β -> (∀ b, M b -> b < w0.heap.size) -> code.wpIn (FW ro) 0 P (PostP M C nt keep ro lo w0 x e' s') a w
def LoopP (C : CRel) (P : Program) (nt : Nat) (keep : List Nat) (code : Code) (e : En) (s : HS) (x : Ex) (e' : En) (s' : HS) : Prop :=
 ∀ (M : Nat -> Prop) (ro : Option Nat) (lo : Nat) (β : Bt) (a : Act) (w w0 : World), At M C nt keep ro lo β s e a w -> OldW w0 w -> Young w0 s β -> (∀ b, M b -> b < w0.heap.size) -> LoopIn (FW ro) 0 P code (PostP M C nt keep ro lo w0 x e' s') a w
structure SoundI (C : CRel) (P : Program) (ih : Task -> Out) : Prop where
 call : ∀ f args s v s', ih (.call f args s) = .val v s' -> Callable P f /\ ∀ (M : Nat -> Prop) β w (vs : List Value), Rel M C β s w -> Fixed C (Live M s β) w -> HRs β (Live M s β) w args vs -> Calls P f vs.toArray w (Ended M C β s w v s')
 round : ∀ l args s v s', ih (.round l args s) = .val v s' -> ∀ (M : Nat -> Prop) β w pl (vs : List Value), Rel M C β s w -> Fixed C (Live M s β) w -> β l = some pl -> HRs β (Live M s β) w args vs ->
  ∃ r : Loop, w.heap[pl.b]? = some (.loop r) /\ r.params.size = vs.length /\ RoundIn Fence.wide 0 P pl.b r.fn ((r.params.zip vs.toArray).foldl (fun tmps (t, x) => tmps.setIfInBounds t x) r.tmps) r.assign r.body w (Ended M C β s w v s')
 loop : ∀ nt keep c code, C.rel nt keep c code -> ∀ e s x e' s', ih (.loop c e s) = .code x e' s' -> LoopS C P nt keep code e s x e' s'
 ploop : ∀ nt keep c code, C.rel nt keep c code -> ∀ e s x e' s', ih (.ploop c e s) = .code x e' s' -> LoopP C P nt keep code e s x e' s'
theorem chkOp_defer {op : HOp} {go : Op} (h : chkOp P op go = true) (h2 : op ≠ .bad) (h3 : ∀ x, op ≠ .cap x) : ∀ c, go ≠ .defer c := by
 intro c hgo
 subst hgo
 cases op <;> first | (simp [chkOp] at h; done) | exact h2 rfl | exact h3 _ rfl | (rename_i k _ ; cases k <;> simp [chkOp] at h; done) | (rename_i n; cases n <;> simp [chkOp] at h)
theorem wanted_iff {goops : Array Oper} {t : Nat} {b : Bool} {go : Oper} (hg : chkG goops (some (t, b)) go.guard = true) (a : Act) : Region.wanted go (yielded goops a.tmps) = true ↔ a.tmps.getD t Go.undef = .bool b := by
 obtain ⟨j, b', hgg⟩ : ∃ j b', go.guard = some (j, b') := by
  cases hgg : go.guard with
  | none => rw [hgg] at hg; simp [chkG] at hg
  | some p => exact ⟨p.1, p.2, rfl⟩
 rw [hgg] at hg
 simp only [chkG, Bool.and_eq_true, beq_iff_eq] at hg
 obtain ⟨rfl, hg⟩ := hg
 split at hg
 ·rename_i oj hj
  have hdst := beq_iff_eq.1 hg
  simp only [Region.wanted, hgg, yielded, hj, Option.bind_some, hdst, Array.getD_eq_getD_getElem?, beq_iff_eq]
  cases hx : a.tmps[t]? with
  | none => simp [Go.undef]
  | some z =>
   simp only [Option.getD_some]
   cases z <;> simp
 ·cases hg
theorem wants_sound {goops : Array Oper} {g : Option (Nat × Bool)} {go : Oper} (hg : chkG goops g go.guard = true) {N : Nat -> Prop} (he : EnvV β N w e a) {q : Bool} (h : wants e g = some q) : Region.wanted go (yielded goops a.tmps) = q := by
 cases g with
 | none =>
  cases h
  have : go.guard = none := by
   cases hgg : go.guard with
   | none => rfl
   | some p => rw [hgg] at hg; simp [chkG] at hg
  simp [Region.wanted, this]
 | some p =>
  obtain ⟨t, b⟩ := p
  have hw := wanted_iff hg a
  have h : (match look e t with | some (.bool q) => some (q == b) | some .undef => some false | _ => none) = some q := h
  split at h
  ·rename_i q' hq
   cases h
   have := he t _ hq
   generalize a.tmps.getD t Go.undef = z at this hw
   cases this
   rw [Bool.eq_iff_iff, hw]
   simp
  ·rename_i hq
   cases h
   have := he t _ hq
   generalize a.tmps.getD t Go.undef = z at this hw
   cases this
   rw [Bool.eq_iff_iff, hw]
   simp [Go.undef]
  ·cases h
def wpOne (ro : Option Nat) (P : Program) (goops : Array Oper) (go : Oper) (a : Act) (w : World) (next : Act -> World -> Prop) (Q : Exit -> Act -> World -> Prop) : Prop :=
 if Region.wanted go (yielded goops a.tmps) then go.wpIn (FW ro) 0 P a w next Q else (∀ f, go.about P w a.eval = some f -> (FW ro).fn f) /\ next (a.put go.dst Go.undef) w
theorem op_sound {ih : Task -> Out} (hi : SoundI C P ih) (ro : Option Nat) {goops : Array Oper} {o : HOper} {go : Oper} (hc : chkOp P o.op go.op = true) (hg : chkG goops o.g go.guard = true) (hr : Rel M C β s w) (hf : Fixed C (Live M s β) w) (he : EnvV β (Live M s β) w e a)
  {v : HV} {s' : HS} (h : res1 ih o e s = some (v, s')) {next : Act -> World -> Prop} {Q : Exit -> Act -> World -> Prop} (fin : ∀ β' u w', Rel M C β' s' w' -> Ext M β s w β' s' w' -> HR β' (Live M s' β') w' v u -> next (a.put go.dst u) w') :
  wpOne ro P goops go a w next Q := by
 unfold wpOne
 unfold res1 at h
 split at h
 ·rename_i hw
  rw [wants_sound hg he hw, if_pos rfl]
  have hcal : ∀ f l, hop o.op e s = .call f l -> Callable P f := fun f l hp => by
   rw [hp] at h
   simp only [] at h
   split at h
   ·rename_i hih; exact (hi.call _ _ _ _ _ hih).1
   ·cases h
  have hd := hop_sound hr he hc hcal
  have hdef : ∀ c, go.op ≠ .defer c := by
   refine chkOp_defer hc (fun hb => ?_) (fun x hb => ?_)
   ·rw [hb] at h; cases h
   ·rw [hb] at h; cases h
  unfold Oper.wpIn
  refine ⟨fun _ _ => trivial, ?_⟩
  rw [Oper.semAt_eq _ _ _ hdef]
  cases hp : hop o.op e s with
  | v v1 s1 =>
   rw [hp] at h hd
   cases h
   obtain ⟨u, w', β', h1, h2, h3, h4⟩ := hd
   rcases h1 with h1 | ⟨h1, rfl⟩
   ·rw [h1]; exact fin β' u w' h2 h3 h4
   ·rw [h1]; exact fin β' _ w' h2 h3 h4
  | bad => rw [hp] at h; cases h
  | call f l =>
   rw [hp] at h hd
   simp only [] at h
   split at h
   ·rename_i v1 s1 hih
    cases h
    obtain ⟨vs, h1, h2⟩ := hd
    rw [h1]
    refine ⟨(fun hx => by cases hx), callsIn_fw (((hi.call _ _ _ _ _ hih).2 M β w vs hr hf h2).mono ?_)⟩
    intro en w' hen
    obtain ⟨u, β', rfl, h3, h4, h5⟩ := hen
    exact fin β' u w' h3 h4 h5
   ·cases h
  | round l args =>
   rw [hp] at h hd
   simp only [] at h
   split at h
   ·rename_i v1 s1 hih
    cases h
    obtain ⟨pl, vs, h1, h2, h3⟩ := hd
    obtain ⟨r, h4, h5, h6⟩ := hi.round _ _ _ _ _ hih M β w pl vs hr hf h1 h2
    rw [h3 r h4 h5]
    refine ⟨(fun hx => by cases hx), roundIn_fw (h6.mono ?_)⟩
    intro en w' hen
    obtain ⟨u, β', rfl, h3, h4, h5⟩ := hen
    exact fin β' u w' h3 h4 h5
   ·cases h
 ·rename_i hw
  cases h
  rw [wants_sound hg he hw, if_neg (by simp)]
  exact ⟨fun _ _ => trivial, fin β _ w hr (Ext.refl _ _ _) .undef⟩
 ·cases h
structure InR (M : Nat -> Prop) (C : CRel) (keep outs : List Nat) (ro : Option Nat) (β0 : Bt) (s0 : HS) (e0 : En) (a0 : Act) (w0 : World) (β : Bt) (s : HS) (e : En) (a : Act) (w : World) : Prop where
 rel : Rel M C β s w
 fix : Fixed C (Live M s β) w
 env : EnvV β (Live M s β) w e a
 ext : Ext M β0 s0 w0 β s w
 size : a.tmps.size = a0.tmps.size
 defers : a.defers = a0.defers
 same : ∀ t, t ∈ keep -> outs.contains t = false -> a.tmps.getD t Go.undef = a0.tmps.getD t Go.undef
 had : ∀ t, (look e0 t).isSome = true -> (look e t).isSome = true
theorem kept_put {keep outs : List Nat} {d : Option Nat} (hk : kept keep outs d = true) {u : Value} {t : Nat} (ht : t ∈ keep) (ho : outs.contains t = false) : (a.put d u).tmps.getD t Go.undef = a.tmps.getD t Go.undef := by
 cases d with
 | none => rfl
 | some d =>
  have hne : d ≠ t := by
   rintro rfl
   simp only [kept, ho, Bool.false_or, Bool.not_eq_true', List.contains_eq_mem, decide_eq_false_iff_not] at hk
   exact hk ht
  simp [Act.put, Array.getD_eq_getD_getElem?, Array.getElem?_setIfInBounds_ne hne]
theorem EnvV.put {N : Nat -> Prop} (he : EnvV β N w e a) {d : Option Nat} {nt : Nat} (hd : ltd nt d = true) (hsz : a.tmps.size = nt) {v : HV} {u : Value} (hv : HR β N w v u) : EnvV β N w (e.put d v) (a.put d u) := by
 intro t v' ht
 rw [look_put] at ht
 cases d with
 | none => simp at ht; exact he t v' ht
 | some d =>
  simp only [ltd, decide_eq_true_eq] at hd
  by_cases hdt : d = t
  ·subst hdt
   rw [if_pos rfl] at ht; cases ht
   have : d < a.tmps.size := by omega
   simp [Act.put, Array.getD_eq_getD_getElem?, this]; exact hv
  ·rw [if_neg (by simpa using hdt)] at ht
   have := he t v' ht
   simpa [Act.put, Array.getD_eq_getD_getElem?, Array.getElem?_setIfInBounds_ne hdt] using this
theorem put_defers' (d : Option Nat) (u : Value) : (a.put d u).defers = a.defers := by cases d <;> rfl
theorem put_size' (d : Option Nat) (u : Value) : (a.put d u).tmps.size = a.tmps.size := by cases d <;> simp [Act.put]
theorem InR.step {keep outs : List Nat} {ro : Option Nat} {β0 : Bt} {s0 : HS} {e0 : En} {a0 : Act} {w0 : World} (h : InR M C keep outs ro β0 s0 e0 a0 w0 β s e a w) {nt : Nat} (hnt : a0.tmps.size = nt) {d : Option Nat} (hd : ltd nt d = true) (hk : kept keep outs d = true)
  {β' : Bt} {s' : HS} {w' : World} {v : HV} {u : Value} (hr : Rel M C β' s' w') (hx : Ext M β s w β' s' w') (hv : HR β' (Live M s' β') w' v u) : InR M C keep outs ro β0 s0 e0 a0 w0 β' s' (e.put d v) (a.put d u) w' where
 rel := hr
 fix := h.fix.ext hx
 env := (h.env.ext hx).put hd (h.size.trans hnt) hv
 ext := h.ext.trans hx
 size := (put_size' _ _).trans h.size
 defers := (put_defers' _ _).trans h.defers
 same := fun t ht ho => (kept_put hk ht ho).trans (h.same t ht ho)
 had := fun t ht => by
  rw [look_put]; split
  ·rfl
  ·exact h.had t ht
theorem ops_sound {ih : Task -> Out} (hi : SoundI C P ih) (ro : Option Nat) {goops : Array Oper} {nt : Nat} {keep outs : List Nat} {β0 : Bt} {s0 : HS} {e0 : En} {a0 : Act} {w0 : World} (hnt : a0.tmps.size = nt) {K : En -> HS -> Out} {x : Ex} {e2 : En} {s2 : HS} {Q : Exit -> Act -> World -> Prop}
  (fin : ∀ β e a s w, K e s = .code x e2 s2 -> InR M C keep outs ro β0 s0 e0 a0 w0 β s e a w -> Q .normal a w) :
  ∀ (l : List HOper) (i : Nat) (β : Bt) (s : HS) (e : En) (a : Act) (w : World), chkL P nt keep outs goops l (goops.toList.drop i) = true -> ops ih K l e s = .code x e2 s2 -> InR M C keep outs ro β0 s0 e0 a0 w0 β s e a w ->
   wpOpsIn (FW ro) 0 P goops Q (List.range' i l.length) a w := by
 intro l
 induction l with
 | nil => intro i β s e a w _ h hin; exact fin β e a s w h hin
 | cons o l ihl =>
  intro i β s e a w hc h hin
  have hi' : i < goops.toList.length := by
   rcases Nat.lt_or_ge i goops.toList.length with h | h
   ·exact h
   ·rw [List.drop_of_length_le h] at hc; simp [chkL] at hc
  rw [List.drop_eq_getElem_cons hi'] at hc
  simp only [chkL, Bool.and_eq_true] at hc
  obtain ⟨hco, hcl⟩ := hc
  have hgo : goops[i]? = some goops.toList[i] := by rw [<- Array.getElem?_toList]; exact List.getElem?_eq_getElem hi'
  generalize goops.toList[i] = go at hco hgo
  simp only [chkO, Bool.and_eq_true, beq_iff_eq] at hco
  obtain ⟨⟨⟨⟨hd, hlt⟩, hk⟩, hop⟩, hg⟩ := hco
  obtain ⟨v, s', h1, h2⟩ := one_code (K := ops ih K l) h
  rw [List.length_cons, List.range'_succ]
  simp only [wpOpsIn, hgo]
  refine op_sound hi ro (goops := goops) hop hg hin.rel hin.fix hin.env h1 (Q := Q) fun β' u w' r1 r2 r3 => ?_
  rw [hd] at h2
  exact ihl (i + 1) β' s' _ _ w' hcl h2 (hin.step hnt hlt hk r1 r2 r3)
theorem look_flush : ∀ (outs : List Nat) (e' e : En) (t : Nat), look (flush outs e' e) t = if outs.contains t = true /\ (look e' t).isSome = true then look e' t else look e t := by
 intro outs e'
 induction outs with
 | nil => intro e t; simp [flush]
 | cons n r ih =>
  intro e t
  have : flush (n :: r) e' e = flush r e' (opt (look e' n) (fun v => e.upd n v) e) := rfl
  rw [this, ih]
  by_cases h1 : r.contains t = true /\ (look e' t).isSome = true
  ·rw [if_pos h1, if_pos ⟨by simp only [List.contains_cons, h1.1, Bool.or_true], h1.2⟩]
  ·rw [if_neg h1]
   by_cases hn : n = t
   ·subst hn
    cases hl : look e' n with
    | none => simp [opt]
    | some v => simp [opt, look_upd]
   ·have h3 : ((n :: r).contains t = true /\ (look e' t).isSome = true) ↔ (r.contains t = true /\ (look e' t).isSome = true) := by
     have : (t == n) = false := by simpa using fun h => hn h.symm
     simp only [List.contains_cons, this, Bool.false_or]
    rw [if_neg (fun h => h1 (h3.1 h))]
    cases hl : look e' n with
    | none => rfl
    | some v => simp only [opt]; rw [look_upd, if_neg (fun h => hn h.symm)]
theorem InR.done {keep outs : List Nat} {ro : Option Nat} {β0 : Bt} {s0 : HS} {e0 : En} {a0 : Act} {w0 : World} (h : InR M C keep outs ro β0 s0 e0 a0 w0 β s e a w) {nt lo : Nat} (h0 : At M C nt keep ro lo β0 s0 e0 a0 w0) (hsub : subL outs keep = true) : At M C nt keep ro lo β s (flush outs e e0) a w where
 rel := h.rel
 env := fun t v ht => by
  rw [look_flush] at ht
  split at ht
  ·rename_i hc
   refine ⟨?_, h.env t v ht⟩
   simp only [subL, List.all_eq_true] at hsub
   have := hsub t (by simpa using hc.1)
   simpa using this
  ·rename_i hc
   obtain ⟨h1, h2⟩ := h0.env t v ht
   refine ⟨h1, ?_⟩
   have hs := h.had t (by rw [ht]; rfl)
   have hout : outs.contains t = false := by
    cases ho : outs.contains t with
    | false => rfl
    | true => exact absurd ⟨ho, hs⟩ hc
   rw [h.same t h1 hout]
   exact h2.ext h.ext
 size := h.size.trans h0.size
 marks := by rw [h.defers]; exact h0.marks.ext h.ext
 lo_le := Nat.le_trans h0.lo_le h.ext.keeps.size
 fix := h.fix
 rec_ := fun l hl => let ⟨r, h1⟩ := h0.rec_ l hl; h.ext.loops l r h1
theorem InR.start {keep outs : List Nat} {ro : Option Nat} {lo : Nat} {nt : Nat} (h : At M C nt keep ro lo β s e a w) : InR M C keep outs ro β s e a w β s e a w :=
 ⟨h.rel, h.fix, fun t v ht => (h.env t v ht).2, Ext.refl _ _ _, rfl, rfl, fun _ _ _ => rfl, fun _ h => h⟩
theorem rg_sound {ih : Task -> Out} (hi : SoundI C P ih) {goops : Array Oper} {nt : Nat} {keep outs : List Nat} {l : List HOper} {id : Nat} (hc : chkL P nt keep outs goops l goops.toList = true) (hsub : subL outs keep = true) {x : Ex} {e' : En} {s' : HS}
  (h : ops ih (fun e' s' => .code .normal (flush outs e' e) s') l e s = .code x e' s') : CodeS C P nt keep (.region id goops false) e s x e' s' := by
 intro M ro lo β a w hat
 have hlen : ∀ (l : List HOper) (m : List Oper), chkL P nt keep outs goops l m = true -> l.length = m.length := by
  intro l
  induction l with
  | nil => intro m hm; cases m with | nil => rfl | cons => simp [chkL] at hm
  | cons o l ih => intro m hm; cases m with | nil => simp [chkL] at hm | cons y m => simp only [chkL, Bool.and_eq_true] at hm; simp [ih m hm.2]
 refine wpIn_region ?_
 rw [List.range_eq_range', show goops.size = l.length by rw [hlen _ _ hc]; simp]
 refine ops_sound hi ro (keep := keep) (outs := outs) hat.size (fun β' e1 a' s1 w' hK hin => ?_) l 0 β s e a w hc h (InR.start hat)
 cases hK
 exact ⟨rfl, β', hin.done hat hsub, hin.ext⟩
end sound
def rdX : X -> List Nat
 | .t n => [n]
 | .k _ => []
def rdXs : List X -> List Nat
 | [] => []
 | x :: r => rdX x ++ rdXs r
def rdXo : Option X -> List Nat
 | none => []
 | some x => rdX x
def rdPs : List Pc -> List Nat
 | [] => []
 | .z _ :: r => rdPs r
 | .x o _ :: r => rdX o ++ rdPs r
def rdOp : HOp -> List Nat
 | .mv x => rdX x
 | .pick c a b => rdX c ++ rdX a ++ rdX b
 | .alloc _ => []
 | .alb _ _ => []
 | .box x => rdX x
 | .fbx x => rdX x
 | .build ps => rdPs ps
 | .bsl _ xs => rdXs xs
 | .fbl _ xs => rdXs xs
 | .ld x _ => rdX x
 | .st _ a x => rdX a ++ rdX x
 | .fa x _ => rdX x
 | .ia x i _ => rdX x ++ rdX i
 | .idx x i => rdX x ++ rdX i
 | .len _ x => rdX x
 | .bin _ _ x y => rdX x ++ rdX y
 | .un _ x => rdX x
 | .mkf _ fs cs => rdXs fs ++ rdXs cs
 | .ext x _ => rdX x
 | .cnv _ x => rdX x
 | .nck x => rdX x
 | .mm _ x y => rdX x ++ rdX y
 | .app _ _ _ x y => rdX x ++ rdX y
 | .mks _ _ _ l c => rdX l ++ rdX c
 | .mkm => []
 | .lkp _ m k _ _ => rdX m ++ rdX k
 | .mup _ m k v => rdX m ++ rdX k ++ rdX v
 | .eqs _ _ x y => rdX x ++ rdX y
 | .niq _ _ x => rdX x
 | .slc x lo hi mx _ => rdX x ++ rdXo lo ++ rdXo hi ++ rdXo mx
 | .sls x lo hi => rdX x ++ rdXo lo ++ rdXo hi
 | .call _ xs => rdXs xs
 | .dyn x xs => rdX x ++ rdXs xs
 | .cis x => rdX x
 | .cbs x => rdX x
 | .csb x => rdX x
 | .men _ m k _ => rdX m ++ rdX k
 | .mes m i v => rdX m ++ rdX i ++ rdX v
 | .aps _ _ x y => rdX x ++ rdX y
 | .cpy _ x y => rdX x ++ rdX y
 | .clr _ _ x => rdX x
 | .cap x => rdX x
 | .cvs x => rdX x
 | .bad => []
section congr
variable {e e' : En}
theorem opd_congr {x : X} (h : ∀ t ∈ rdX x, look e t = look e' t) : opd x e = opd x e' := by
 cases x with
 | t n => exact h n (by simp [rdX])
 | k v => rfl
theorem opds_congr {l : List X} (h : ∀ t ∈ rdXs l, look e t = look e' t) : opds l e = opds l e' := by
 induction l with
 | nil => rfl
 | cons x r ih =>
  rw [opds_cons, opds_cons, opd_congr fun t ht => h t (by simp [rdXs, ht]), ih fun t ht => h t (by simp [rdXs, ht])]
theorem opdN_congr {d : Nat} {x : Option X} (h : ∀ t ∈ rdXo x, look e t = look e' t) : opdN e d x = opdN e' d x := by
 cases x with
 | none => rfl
 | some x => simp only [opdN]; rw [opd_congr h]
theorem pieces_congr {l : List Pc} (h : ∀ t ∈ rdPs l, look e t = look e' t) : pieces e l = pieces e' l := by
 induction l with
 | nil => rfl
 | cons x r ih =>
  cases x with
  | z l => simp only [pieces]; rw [ih h]
  | x o n => simp only [pieces]; rw [opd_congr fun t ht => h t (by simp [rdPs, ht]), ih fun t ht => h t (by simp [rdPs, ht])]
theorem hop_congr {op : HOp} (h : ∀ t ∈ rdOp op, look e t = look e' t) (s : HS) : hop op e s = hop op e' s := by
 cases op <;> simp only [rdOp, List.mem_append, or_imp, forall_and] at h
 case mv => show hMv _ e s = hMv _ e' s; unfold hMv; rw [opd_congr h]
 case pick => show hPick _ _ _ e s = hPick _ _ _ e' s; unfold hPick; rw [opd_congr h.1.1, opd_congr h.1.2, opd_congr h.2]
 case alloc => rfl
 case alb => rfl
 case box => show hBox _ e s = hBox _ e' s; unfold hBox; rw [opd_congr h]
 case fbx => show hFbx _ e s = hFbx _ e' s; unfold hFbx; rw [opd_congr h]
 case build => show hBuild _ e s = hBuild _ e' s; unfold hBuild; rw [pieces_congr h]
 case bsl => show hBsl _ _ e s = hBsl _ _ e' s; unfold hBsl; rw [opds_congr h]
 case fbl => show hFbl _ _ e s = hFbl _ _ e' s; unfold hFbl; rw [opds_congr h]
 case ld => show hLd _ _ e s = hLd _ _ e' s; unfold hLd; rw [opd_congr h]
 case st => show hSt _ _ _ e s = hSt _ _ _ e' s; unfold hSt; rw [opd_congr h.1, opd_congr h.2]
 case fa => show hFa _ _ e s = hFa _ _ e' s; unfold hFa; rw [opd_congr h]
 case ia => show hIa _ _ _ e s = hIa _ _ _ e' s; unfold hIa; rw [opd_congr h.1, opd_congr h.2]
 case idx => show hIdx _ _ e s = hIdx _ _ e' s; unfold hIdx; rw [opd_congr h.1, opd_congr h.2]
 case len => show hLen _ _ e s = hLen _ _ e' s; unfold hLen; rw [opd_congr h]
 case bin => show hBin _ _ _ _ e s = hBin _ _ _ _ e' s; unfold hBin; rw [opd_congr h.1, opd_congr h.2]
 case un => show hUn _ _ e s = hUn _ _ e' s; unfold hUn; rw [opd_congr h]
 case mkf => show hMkf _ _ _ e s = hMkf _ _ _ e' s; unfold hMkf; rw [opds_congr h.1, opds_congr h.2]
 case ext => show hExt _ _ e s = hExt _ _ e' s; unfold hExt; rw [opd_congr h]
 case cnv => show hCnv _ _ e s = hCnv _ _ e' s; unfold hCnv; rw [opd_congr h]
 case nck => show hNck _ e s = hNck _ e' s; unfold hNck; rw [opd_congr h]
 case mm => show hMm _ _ _ e s = hMm _ _ _ e' s; unfold hMm; rw [opd_congr h.1, opd_congr h.2]
 case app => show hApp _ _ _ _ _ e s = hApp _ _ _ _ _ e' s; unfold hApp; rw [opd_congr h.1, opd_congr h.2]
 case mks => show hMks _ _ _ _ _ e s = hMks _ _ _ _ _ e' s; unfold hMks; rw [opd_congr h.1, opd_congr h.2]
 case mkm => rfl
 case lkp => show hLkp _ _ _ _ _ e s = hLkp _ _ _ _ _ e' s; unfold hLkp; rw [opd_congr h.1, opd_congr h.2]
 case mup => show hMup _ _ _ _ e s = hMup _ _ _ _ e' s; unfold hMup; rw [opd_congr h.1.1, opd_congr h.1.2, opd_congr h.2]
 case eqs => show hEqs _ _ _ _ e s = hEqs _ _ _ _ e' s; unfold hEqs; rw [opd_congr h.1, opd_congr h.2]
 case niq => show hNiq _ _ _ e s = hNiq _ _ _ e' s; unfold hNiq; rw [opd_congr h]
 case slc => show hSlc _ _ _ _ _ e s = hSlc _ _ _ _ _ e' s; unfold hSlc; simp only [opd_congr h.1.1.1, opdN_congr h.1.1.2, opdN_congr h.1.2]
 case sls => show hSls _ _ _ e s = hSls _ _ _ e' s; unfold hSls; simp only [opd_congr h.1.1, opdN_congr h.1.2, opdN_congr h.2]
 case call => show hCall _ _ e s = hCall _ _ e' s; unfold hCall; rw [opds_congr h]
 case dyn => show hDyn _ _ e s = hDyn _ _ e' s; unfold hDyn; rw [opd_congr h.1, opds_congr h.2]
 case cis => show hCis _ e s = hCis _ e' s; unfold hCis; rw [opd_congr h]
 case cbs => show hCbs _ e s = hCbs _ e' s; unfold hCbs; rw [opd_congr h]
 case csb => show hCsb _ e s = hCsb _ e' s; unfold hCsb; rw [opd_congr h]
 case men => show hMen _ _ _ _ e s = hMen _ _ _ _ e' s; unfold hMen; rw [opd_congr h.1, opd_congr h.2]
 case mes => show hMes _ _ _ e s = hMes _ _ _ e' s; unfold hMes; rw [opd_congr h.1.1, opd_congr h.1.2, opd_congr h.2]
 case aps => show hAps _ _ _ _ e s = hAps _ _ _ _ e' s; unfold hAps; rw [opd_congr h.1, opd_congr h.2]
 case cpy => show hCpy _ _ _ e s = hCpy _ _ _ e' s; unfold hCpy; rw [opd_congr h.1, opd_congr h.2]
 case clr => show hClr _ _ e s = hClr _ _ e' s; unfold hClr; rw [opd_congr h]
 case cap => rfl
 case cvs => show hCvs _ e s = hCvs _ e' s; unfold hCvs; rw [opd_congr h]
 case bad => rfl
end congr
def rdO (o : HOper) : List Nat := rdOp o.op ++ (match o.g with | some p => [p.1] | none => [])
theorem wants_congr {e e' : En} {g : Option (Nat × Bool)} (h : ∀ t ∈ (match g with | some p => [p.1] | none => ([] : List Nat)), look e t = look e' t) : wants e g = wants e' g := by
 cases g with
 | none => rfl
 | some p =>
  obtain ⟨t, b⟩ := p
  show (match look e t with | some (.bool q) => some (q == b) | some .undef => some false | _ => none) = (match look e' t with | some (.bool q) => some (q == b) | some .undef => some false | _ => none)
  rw [h t (by simp)]
theorem res1_congr {ih : Task -> Out} {o : HOper} {e e' : En} (h : ∀ t ∈ rdO o, look e t = look e' t) (s : HS) : res1 ih o e s = res1 ih o e' s := by
 unfold res1
 rw [wants_congr fun t ht => h t (List.mem_append_right _ ht), hop_congr (fun t ht => h t (List.mem_append_left _ ht)) s]
def isR : HOp -> Bool
 | .mv _ | .pick .. | .fa .. | .ia .. | .idx .. | .bin .. | .un .. | .ext .. | .cnv .. | .nck _ | .mkf .. | .build _ | .slc .. | .sls .. | .mm .. | .eqs .. | .niq .. | .cis _ | .fbx _ | .fbl .. | .cvs _ => true
 | _ => false
def isL : HOp -> Bool
 | .ld .. | .len .. | .lkp .. | .cbs _ => true
 | _ => false
def isA : HOp -> Bool
 | .alloc _ => true
 | .bsl _ [] => true
 | _ => false
def Quiet (op : HOp) (e : En) : Prop := (∃ v, ∀ s, hop op e s = .v v s) ∨ ∀ s, hop op e s = .bad
theorem rv_quiet {op : HOp} {e : En} (r : Option HV) (h : ∀ s, hop op e s = rv s r) : Quiet op e := by
 cases r with
 | none => exact .inr h
 | some v => exact .inl ⟨v, h⟩
theorem hop_r {op : HOp} (h : isR op = true) (e : En) : Quiet op e := by
 cases op <;> first | (cases h; done) | skip
 all_goals clear h
 case mv x => exact rv_quiet (opd x e) fun _ => rfl
 case pick c a b =>
  cases hc : opd c e with
  | none => exact .inr fun s => by show hPick c a b e s = _; unfold hPick; rw [hc] <;> rfl
  | some v =>
   cases v <;> first
    | (refine .inr fun s => ?_; show hPick c a b e s = _; unfold hPick; rw [hc] <;> rfl)
    | skip
   rename_i q
   cases q with
   | true => exact rv_quiet (opd a e) fun s => by show hPick c a b e s = _; unfold hPick; rw [hc] <;> rfl
   | false => exact rv_quiet (opd b e) fun s => by show hPick c a b e s = _; unfold hPick; rw [hc] <;> rfl
 case fbx x =>
  cases hx : opd x e with
  | none => exact .inr fun s => by show hFbx x e s = _; unfold hFbx; rw [hx] <;> rfl
  | some v =>
   cases hl : cellsOf v with
   | none => exact .inr fun s => by show hFbx x e s = _; unfold hFbx; rw [hx]; simp only [opt]; rw [hl]
   | some l => exact .inl ⟨.pptr l, fun s => by show hFbx x e s = _; unfold hFbx; rw [hx]; simp only [opt]; rw [hl]⟩
 case build ps =>
  cases hx : pieces e ps with
  | none => exact .inr fun s => by show hBuild ps e s = _; unfold hBuild; rw [hx] <;> rfl
  | some l => exact .inl ⟨_, fun s => by show hBuild ps e s = _; unfold hBuild; rw [hx] <;> rfl⟩
 case fbl sz xs =>
  cases hx : opds xs e with
  | none => exact .inr fun s => by show hFbl sz xs e s = _; unfold hFbl; rw [hx] <;> rfl
  | some l =>
   cases hl : rowsV sz l with
   | none => exact .inr fun s => by show hFbl sz xs e s = _; unfold hFbl; rw [hx]; simp only [opt]; rw [hl]
   | some m => exact .inl ⟨_, fun s => by show hFbl sz xs e s = _; unfold hFbl; rw [hx]; simp only [opt]; rw [hl]⟩
 case fa x off =>
  cases hx : opd x e with
  | none => exact .inr fun s => by show hFa x off e s = _; unfold hFa; rw [hx] <;> rfl
  | some v =>
   have gen : (∀ o k, v ≠ .ptr o k) -> Quiet (.fa x off) e := fun hne => rv_quiet (faP v off) fun s => by
    show hFa x off e s = _
    unfold hFa; rw [hx]
    cases v <;> first | rfl | exact absurd rfl (hne _ _)
   cases v <;> first | (refine gen fun _ _ h => ?_; cases h; done) | skip
   rename_i o k
   exact .inl ⟨.ptr o (Nat.add k off), fun s => by show hFa x off e s = _; unfold hFa; rw [hx] <;> rfl⟩
 case ia x i sz =>
  cases hx : opd x e with
  | none => exact .inr fun s => by show hIa x i sz e s = _; unfold hIa; rw [hx] <;> rfl
  | some v =>
   have gen : (∀ o off len sz', v ≠ .sl o off len sz') -> Quiet (.ia x i sz) e := fun hne => rv_quiet (iaP v (opd i e) sz) fun s => by
    show hIa x i sz e s = _
    unfold hIa; rw [hx]
    cases v <;> first | rfl | exact absurd rfl (hne _ _ _ _)
   cases v <;> first | (refine gen fun _ _ _ _ h => ?_; cases h; done) | skip
   rename_i o off len sz'
   cases hi : opd i e with
   | none => exact .inr fun s => by show hIa x i sz e s = _; unfold hIa; rw [hx, hi] <;> rfl
   | some q =>
    cases q <;> first | (refine .inr fun s => ?_; show hIa x i sz e s = _; unfold hIa; rw [hx, hi] <;> rfl) | skip
    rename_i k z
    cases z with
    | negSucc n => exact .inr fun s => by show hIa x i sz e s = _; unfold hIa; rw [hx, hi] <;> rfl
    | ofNat n =>
     have key : ∀ s, hop (.ia x i sz) e s = ife (Nat.blt n len) (ife (Nat.beq sz sz') (.v (.ptr o (Nat.add off (Nat.mul n sz))) s) .bad) .bad := fun s => by show hIa x i sz e s = _; unfold hIa; rw [hx, hi] <;> rfl
     cases h1 : Nat.blt n len with
     | false => exact .inr fun s => by rw [key, h1] <;> rfl
     | true =>
      cases h2 : Nat.beq sz sz' with
      | false => exact .inr fun s => by rw [key, h1, h2] <;> rfl
      | true => exact .inl ⟨_, fun s => by rw [key, h1, h2] <;> rfl⟩
 case idx x i =>
  cases hx : opd x e with
  | none => exact .inr fun s => by show hIdx x i e s = _; unfold hIdx; rw [hx] <;> rfl
  | some v =>
   cases v <;> first | (refine .inr fun s => ?_; show hIdx x i e s = _; unfold hIdx; rw [hx] <;> rfl) | skip
   rename_i l
   cases hi : opd i e with
   | none => exact .inr fun s => by show hIdx x i e s = _; unfold hIdx; rw [hx, hi] <;> rfl
   | some q =>
    cases q <;> first | (refine .inr fun s => ?_; show hIdx x i e s = _; unfold hIdx; rw [hx, hi] <;> rfl) | skip
    rename_i k z
    cases z with
    | negSucc n => exact .inr fun s => by show hIdx x i e s = _; unfold hIdx; rw [hx, hi] <;> rfl
    | ofNat n =>
     have key : ∀ s, hop (.idx x i) e s = opt (nth l n) (fun b => .v (.int .u8 (.ofNat b)) s) .bad := fun s => by show hIdx x i e s = _; unfold hIdx; rw [hx, hi] <;> rfl
     cases h1 : nth l n with
     | none => exact .inr fun s => by rw [key, h1] <;> rfl
     | some b => exact .inl ⟨_, fun s => by rw [key, h1] <;> rfl⟩
 case bin bl op x y =>
  cases hx : opd x e with
  | none => exact .inr fun s => by show hBin bl op x y e s = _; unfold hBin; rw [hx] <;> rfl
  | some v =>
   cases hy : opd y e with
   | none => exact .inr fun s => by show hBin bl op x y e s = _; unfold hBin; rw [hx, hy] <;> rfl
   | some u => exact rv_quiet (binH bl op v u) fun s => by show hBin bl op x y e s = _; unfold hBin; rw [hx, hy] <;> rfl
 case un op x =>
  have key : ∀ s, hop (.un op x) e s = (match (generalizing := false) opd x e with
   | some (.bool b) => (match (generalizing := false) op with | .not => .v (.bool (!b)) s | _ => .bad)
   | some (.int k n) => (match (generalizing := false) op with | .neg => .v (.int k (wrapF k (0 - n))) s | _ => .bad)
   | _ => .bad) := fun s => rfl
  cases hx : opd x e with
  | none => exact .inr fun s => by rw [key, hx] <;> rfl
  | some v =>
   cases v with
   | int k n =>
    by_cases ho : op = .neg
    ·subst ho; exact .inl ⟨.int k (wrapF k (0 - n)), fun s => by rw [key, hx] <;> rfl⟩
    ·refine .inr fun s => ?_
     rw [key, hx]
     cases op <;> first | rfl | exact absurd rfl ho
   | bool b =>
    by_cases ho : op = .not
    ·subst ho; exact .inl ⟨.bool (!b), fun s => by rw [key, hx] <;> rfl⟩
    ·refine .inr fun s => ?_
     rw [key, hx]
     cases op <;> first | rfl | exact absurd rfl ho
   | _ => exact .inr fun s => by rw [key, hx] <;> rfl
 case mkf g fs cs =>
  cases hx : opds fs e with
  | none => exact .inr fun s => by show hMkf g fs cs e s = _; unfold hMkf; rw [hx] <;> rfl
  | some v =>
   cases hy : opds cs e with
   | none => exact .inr fun s => by show hMkf g fs cs e s = _; unfold hMkf; rw [hx, hy] <;> rfl
   | some u => exact .inl ⟨_, fun s => by show hMkf g fs cs e s = _; unfold hMkf; rw [hx, hy] <;> rfl⟩
 case ext x i =>
  cases hx : opd x e with
  | none => exact .inr fun s => by show hExt x i e s = _; unfold hExt; rw [hx] <;> rfl
  | some v =>
   cases v <;> first | (refine .inr fun s => ?_; show hExt x i e s = _; unfold hExt; rw [hx] <;> rfl) | skip
   rename_i l
   exact rv_quiet (nth l i) fun s => by show hExt x i e s = _; unfold hExt; rw [hx] <;> rfl
 case cnv k x =>
  cases hx : opd x e with
  | none => exact .inr fun s => by show hCnv k x e s = _; unfold hCnv; rw [hx] <;> rfl
  | some v =>
   cases v <;> first | (refine .inr fun s => ?_; show hCnv k x e s = _; unfold hCnv; rw [hx] <;> rfl) | (exact .inl ⟨_, fun s => by show hCnv k x e s = _; unfold hCnv; rw [hx] <;> rfl⟩)
 case nck x =>
  cases hx : opd x e with
  | none => exact .inr fun s => by show hNck x e s = _; unfold hNck; rw [hx] <;> rfl
  | some v =>
   cases v <;> first | (refine .inr fun s => ?_; show hNck x e s = _; unfold hNck; rw [hx] <;> rfl) | (exact .inl ⟨_, fun s => by show hNck x e s = _; unfold hNck; rw [hx] <;> rfl⟩)
 case mm m x y =>
  have key : ∀ s, hop (.mm m x y) e s = (match opd x e, opd y e with | some (.int k a), some (.int _ b) => .v (.int k (bif m then (bif bleI a b then b else a) else (bif bleI a b then a else b))) s | _, _ => .bad) := fun s => rfl
  cases hx : opd x e with
  | none => exact .inr fun s => by rw [key, hx] <;> rfl
  | some v =>
   cases hy : opd y e with
   | none => exact .inr fun s => by rw [key, hx, hy]; cases v <;> rfl
   | some u => cases v <;> first | (refine .inr fun s => ?_; rw [key, hx]; done) | (cases u <;> first | (refine .inr fun s => ?_; rw [key, hx, hy]; done) | (exact .inl ⟨_, fun s => by rw [key, hx, hy] <;> rfl⟩))
 case eqs K neg x y =>
  have key : ∀ s, hop (.eqs K neg x y) e s = (match opd x e, opd y e with | some a, some b => (match eqK K a b with | some q => .v (.bool (q != neg)) s | none => .bad) | _, _ => .bad) := fun s => rfl
  cases hx : opd x e with
  | none => exact .inr fun s => by rw [key, hx] <;> rfl
  | some v =>
   cases hy : opd y e with
   | none => exact .inr fun s => by rw [key, hx, hy] <;> rfl
   | some u =>
    cases hq : eqK K v u with
    | none => exact .inr fun s => by rw [key, hx, hy]; simp only [hq]
    | some q => exact .inl ⟨.bool (q != neg), fun s => by rw [key, hx, hy]; simp only [hq]⟩
 case niq k neg x =>
  cases hx : opd x e with
  | none => exact .inr fun s => by show hNiq k neg x e s = _; unfold hNiq; rw [hx] <;> rfl
  | some v =>
   cases hq : isNil k v with
   | none => exact .inr fun s => by show hNiq k neg x e s = _; unfold hNiq; rw [hx]; simp only [opt]; rw [hq]
   | some q => exact .inl ⟨_, fun s => by show hNiq k neg x e s = _; unfold hNiq; rw [hx]; simp only [opt]; rw [hq]⟩
 case slc x lo hi mx sz =>
  have key : ∀ s, hop (.slc x lo hi mx sz) e s = hSlc x lo hi mx sz e s := fun _ => rfl
  unfold hSlc at key
  cases hx : opd x e with
  | none => exact .inr fun s => by rw [key, hx] <;> rfl
  | some v =>
   cases v with
   | nils =>
    have key2 : ∀ s, hop (.slc x lo hi mx sz) e s = (match (generalizing := false) opdN e 0 lo, opdN e 0 hi, mx with | some 0, some 0, none => .v .nils s | _, _, _ => .bad) := fun s => by rw [key, hx] <;> rfl
    by_cases hc : opdN e 0 lo = some 0 /\ opdN e 0 hi = some 0 /\ mx = none
    ·obtain ⟨a1, a2, rfl⟩ := hc
     exact .inl ⟨.nils, fun s => by rw [key2, a1, a2] <;> rfl⟩
    ·refine .inr fun s => ?_
     rw [key2]
     split
     ·rename_i a1 a2; exact absurd ⟨a1, a2, rfl⟩ hc
     ·rfl
   | sl o off len sz' =>
    have key2 : ∀ s, hop (.slc x lo hi mx sz) e s = (match (generalizing := false) opdN e 0 lo, opdN e len hi, mx with
     | some a, some b, none => bif Nat.ble a b && Nat.ble b len && Nat.beq sz sz' then .v (.sl o (off + a * sz) (b - a) sz) s else .bad
     | _, _, _ => .bad) := fun s => by rw [key, hx] <;> rfl
    cases h1 : opdN e 0 lo with
    | none => exact .inr fun s => by rw [key2, h1] <;> rfl
    | some a =>
     cases h2 : opdN e len hi with
     | none => exact .inr fun s => by rw [key2, h1, h2] <;> rfl
     | some b =>
      cases mx with
      | some m => exact .inr fun s => by rw [key2, h1, h2] <;> rfl
      | none =>
       cases hc : (Nat.ble a b && Nat.ble b len && Nat.beq sz sz') with
       | true => exact .inl ⟨.sl o (off + a * sz) (b - a) sz, fun s => by rw [key2, h1, h2]; simp only [hc, cond_true]⟩
       | false => exact .inr fun s => by rw [key2, h1, h2]; simp only [hc, cond_false]
   | psl els =>
    have key2 : ∀ s, hop (.slc x lo hi mx sz) e s = (match (generalizing := false) opdN e 0 lo, opdN e (lenL els) hi, mx with
     | some a, some b, none => bif Nat.ble a b && Nat.ble b (lenL els) && allLen sz els then .v (.psl (takeN (b - a) (dropN a els))) s else .bad
     | _, _, _ => .bad) := fun s => by rw [key, hx] <;> rfl
    cases h1 : opdN e 0 lo with
    | none => exact .inr fun s => by rw [key2, h1] <;> rfl
    | some a =>
     cases h2 : opdN e (lenL els) hi with
     | none => exact .inr fun s => by rw [key2, h1, h2] <;> rfl
     | some b =>
      cases mx with
      | some m => exact .inr fun s => by rw [key2, h1, h2] <;> rfl
      | none =>
       cases hc : (Nat.ble a b && Nat.ble b (lenL els) && allLen sz els) with
       | true => exact .inl ⟨.psl (takeN (b - a) (dropN a els)), fun s => by rw [key2, h1, h2]; simp only [hc, cond_true]⟩
       | false => exact .inr fun s => by rw [key2, h1, h2]; simp only [hc, cond_false]
   | _ => exact .inr fun s => by rw [key, hx] <;> rfl
 case sls x lo hi =>
  have key : ∀ s, hop (.sls x lo hi) e s = hSls x lo hi e s := fun _ => rfl
  unfold hSls at key
  cases hx : opd x e with
  | none => exact .inr fun s => by rw [key, hx] <;> rfl
  | some v =>
   cases v with
   | str l =>
    have key2 : ∀ s, hop (.sls x lo hi) e s = (match (generalizing := false) opdN e 0 lo, opdN e (lenL l) hi with
     | some a, some b => bif Nat.ble a b && Nat.ble b (lenL l) then .v (.str (strSlice l a b)) s else .bad
     | _, _ => .bad) := fun s => by rw [key, hx] <;> rfl
    cases h1 : opdN e 0 lo with
    | none => exact .inr fun s => by rw [key2, h1] <;> rfl
    | some a =>
     cases h2 : opdN e (lenL l) hi with
     | none => exact .inr fun s => by rw [key2, h1, h2] <;> rfl
     | some b =>
      cases hc : (Nat.ble a b && Nat.ble b (lenL l)) with
      | true => exact .inl ⟨.str (strSlice l a b), fun s => by rw [key2, h1, h2]; simp only [hc, cond_true]⟩
      | false => exact .inr fun s => by rw [key2, h1, h2]; simp only [hc, cond_false]
   | _ => exact .inr fun s => by rw [key, hx] <;> rfl
 case cis x =>
  have key : ∀ s, hop (.cis x) e s = hCis x e s := fun _ => rfl
  unfold hCis at key
  cases hx : opd x e with
  | none => exact .inr fun s => by rw [key, hx] <;> rfl
  | some v =>
   cases v with
   | int k z =>
    cases z with
    | negSucc n => exact .inr fun s => by rw [key, hx] <;> rfl
    | ofNat n =>
     have key2 : ∀ s, hop (.cis x) e s = bif Nat.blt n 128 then .v (.str [n]) s else bif Nat.blt n 2048 then .v (.str [192 + n / 64, 128 + n % 64]) s else .bad := fun s => by rw [key, hx] <;> rfl
     cases h1 : Nat.blt n 128 with
     | true => exact .inl ⟨.str [n], fun s => by rw [key2, h1, cond_true] <;> rfl⟩
     | false =>
      cases h2 : Nat.blt n 2048 with
      | true => exact .inl ⟨.str [192 + n / 64, 128 + n % 64], fun s => by rw [key2, h1, h2, cond_false, cond_true] <;> rfl⟩
      | false => exact .inr fun s => by rw [key2, h1, h2, cond_false, cond_false] <;> rfl
   | _ => exact .inr fun s => by rw [key, hx] <;> rfl
 case cvs x =>
  have key : ∀ s, hop (.cvs x) e s = hCvs x e s := fun _ => rfl
  unfold hCvs at key
  cases hx : opd x e with
  | none => exact .inr fun s => by rw [key, hx] <;> rfl
  | some v =>
   cases v with
   | str l => exact .inl ⟨.str l, fun s => by rw [key, hx] <;> rfl⟩
   | _ => exact .inr fun s => by rw [key, hx] <;> rfl
def Look (s : HS) (r : Res) : Prop := (∃ v, r = .v v s) ∨ r = .bad
theorem Look.v {s : HS} (v : HV) : Look s (.v v s) := .inl ⟨v, rfl⟩
theorem Look.bad {s : HS} : Look s .bad := .inr rfl
theorem Look.rv {s : HS} (o : Option HV) : Look s (rv s o) := by cases o with | none => exact .bad | some v => exact .v v
theorem Look.bif {s : HS} (q : Bool) {r r' : Res} (h : Look s r) (h' : Look s r') : Look s (bif q then r else r') := by cases q <;> assumption
theorem hop_l {op : HOp} (h : isL op = true) (e : En) (s : HS) : Look s (hop op e s) := by
 cases op <;> first | (cases h; done) | skip
 case ld x n =>
  show Look s (hLd x n e s)
  unfold hLd
  cases opd x e with
  | none => exact .bad
  | some v =>
   show Look s (v.asPtr (fun o k => Hm.rv s (s.load o k n)) (Hm.rv s (loadP v n)))
   rw [asPtr_rv]
   exact .rv _
 case len k x =>
  show Look s (hLen k x e s)
  unfold hLen
  cases opd x e with
  | none => exact .bad
  | some v =>
   simp only [opt]
   cases lenV k s v with
   | none => exact .bad
   | some n => exact .v _
 case lkp K m k z ok =>
  show Look s (hLkp K m k z ok e s)
  unfold hLkp
  cases opd m e with
  | none => exact .bad
  | some v =>
   cases opd k e with
   | none => cases v <;> exact .bad
   | some u =>
    cases v <;> simp only [] <;> first | (exact .bad) | skip
    ·exact .bif _ (.v _) .bad
    ·rename_i o
     refine .bif _ ?_ .bad
     cases tget s.h o with
     | none => exact .bad
     | some ob =>
      cases ob with
      | mp es =>
       simp only []
       cases findI K es u 0 with
       | none => exact .bad
       | some q =>
        obtain ⟨i, q⟩ := q
        cases q with
        | none => exact .v _
        | some q => exact .v _
      | cells => exact .bad
      | loop => exact .bad
 case cbs x =>
  show Look s (hCbs x e s)
  unfold hCbs
  cases opd x e with
  | none => exact .bad
  | some v =>
   cases v <;> simp only [] <;> first | (exact .bad) | (exact .v _) | skip
   ·split
    ·split
     ·exact .v _
     ·exact .bad
    ·exact .bad
   ·refine .bif _ ?_ .bad
    split
    ·exact .v _
    ·exact .bad
mutual
theorem same1_eq : ∀ (x y : HV), same1 x y = true -> x = y
 | .int k a, .int j b, h => by
  have h : (decide (k = j) && beqI a b) = true := h
  simp only [Bool.and_eq_true, decide_eq_true_eq, beqI_iff] at h
  rw [h.1, h.2]
 | .bool a, .bool b, h => by have h : (a == b) = true := h; rw [beq_iff_eq.1 h]
 | .str a, .str b, h => by rw [(beqL_iff a b).1 h]
 | .nils, .nils, _ => rfl
 | .nilp, .nilp, _ => rfl
 | .nilf, .nilf, _ => rfl
 | .nilm, .nilm, _ => rfl
 | .nili, .nili, _ => rfl
 | .undef, .undef, _ => rfl
 | .ptr o k, .ptr p j, h => by
  have h : (o.beq p && Nat.beq k j) = true := h
  simp only [Bool.and_eq_true, Ky.beq_iff, nbeq_iff] at h
  rw [h.1, h.2]
 | .sl o a b c, .sl p d e f, h => by
  have h : (o.beq p && Nat.beq a d && Nat.beq b e && Nat.beq c f) = true := h
  simp only [Bool.and_eq_true, Ky.beq_iff, nbeq_iff] at h
  rw [h.1.1.1, h.1.1.2, h.1.2, h.2]
 | .mp o, .mp p, h => by rw [(Ky.beq_iff o p).1 h]
 | .fn f a b, .fn g c d, h => by
  have h : (Nat.beq f g && same1.sameL a c && same1.sameL b d) = true := h
  simp only [Bool.and_eq_true, nbeq_iff] at h
  rw [h.1.1, sameL_eq a c h.1.2, sameL_eq b d h.2]
 | .yld a, .yld b, h => by rw [(Ky.beq_iff a b).1 h]
 | .agg a, .agg b, h => by rw [sameL_eq a b h]
 | .tup a, .tup b, h => by rw [sameL_eq a b h]
 | .pptr a, .pptr b, h => by rw [sameL_eq a b h]
 | .psl a, .psl b, h => by rw [sameLL_eq a b h]
theorem sameL_eq : ∀ (x y : List HV), same1.sameL x y = true -> x = y
 | [], [], _ => rfl
 | x :: r, y :: s, h => by
  have h : (same1 x y && same1.sameL r s) = true := h
  simp only [Bool.and_eq_true] at h
  rw [same1_eq x y h.1, sameL_eq r s h.2]
theorem sameLL_eq : ∀ (x y : List (List HV)), same1.sameLL x y = true -> x = y
 | [], [], _ => rfl
 | x :: r, y :: s, h => by
  have h : (same1.sameL x y && same1.sameLL r s) = true := h
  simp only [Bool.and_eq_true] at h
  rw [sameL_eq x y h.1, sameLL_eq r s h.2]
end
def aftersOf (o : Oper) : List Nat := (o.after.toList.filter fun e => Region.binds .any e).map (·.on)
def masks : List (List Nat) -> List Nat -> List Nat
 | [], acc => acc
 | a :: r, acc => masks r (acc ++ [a.foldl (fun m j => m ||| (2 ^ j ||| acc.getD j 0)) 0])
theorem masks_get : ∀ (l : List (List Nat)) (acc : List Nat) (i : Nat), i < acc.length -> (masks l acc).getD i 0 = acc.getD i 0
 | [], _, _, _ => rfl
 | a :: r, acc, i, hi => by
  rw [masks, masks_get r _ i (by simp; omega)]
  simp [List.getD, List.getElem?_append_left hi]
theorem foldl_bits (acc : List Nat) (j : Nat) : ∀ (a : List Nat) (m : Nat), (a.foldl (fun m j => m ||| (2 ^ j ||| acc.getD j 0)) m).testBit j = true -> m.testBit j = true ∨ ∃ k ∈ a, j = k ∨ (acc.getD k 0).testBit j = true
 | [], m, h => .inl h
 | k :: a, m, h => by
  rcases foldl_bits acc j a _ h with h1 | ⟨k', h1, h2⟩
  ·simp only [Nat.testBit_or, Bool.or_eq_true, Nat.testBit_two_pow] at h1
   rcases h1 with h1 | h1 | h1
   ·exact .inl h1
   ·exact .inr ⟨k, by simp, .inl (by simpa using h1.symm : k = j).symm⟩
   ·exact .inr ⟨k, by simp, .inr h1⟩
  ·exact .inr ⟨k', by simp [h1], h2⟩
theorem masks_spec : ∀ (l : List (List Nat)) (acc : List Nat) (i : Nat) (j : Nat), acc.length <= i -> (∀ (p : Nat) (a : List Nat), l[p]? = some a -> ∀ k ∈ a, k < acc.length + p) -> ((masks l acc).getD i 0).testBit j = true ->
  ∃ a, l[i - acc.length]? = some a /\ ∃ k ∈ a, j = k ∨ ((masks l acc).getD k 0).testBit j = true
 | [], acc, i, j, hi, _, h => by
  rw [masks] at h
  simp [List.getD, List.getElem?_eq_none hi] at h
 | a :: r, acc, i, j, hi, hb, h => by
  rw [masks] at h ⊢
  rcases Nat.eq_or_lt_of_le hi with he | hlt
  ·subst he
   rw [masks_get _ _ _ (by simp)] at h
   simp only [List.getD_eq_getElem?_getD, List.getElem?_append_right (Nat.le_refl _), Nat.sub_self, List.getElem?_cons_zero, Option.getD_some] at h
   rcases foldl_bits acc j a 0 (by simpa [List.getD_eq_getElem?_getD] using h) with h1 | ⟨k, h1, h2⟩
   ·simp at h1
   ·refine ⟨a, by simp, k, h1, ?_⟩
    rcases h2 with h2 | h2
    ·exact .inl h2
    ·have hk := hb 0 a rfl k h1
     refine .inr ?_
     rw [masks_get _ _ _ (by simp; omega)]
     simpa [List.getD_eq_getElem?_getD, List.getElem?_append_left (show k < acc.length by omega)] using h2
  ·obtain ⟨a', h1, k, h2, h3⟩ := masks_spec r _ i j (by simp; omega) (fun p b hp k hk => by have := hb (p + 1) b hp k hk; simp; omega) h
   refine ⟨a', ?_, k, h2, h3⟩
   rw [show i - acc.length = (i - (acc ++ [a.foldl (fun m j => m ||| (2 ^ j ||| acc.getD j 0)) 0]).length) + 1 by simp; omega]
   simpa using h1
def closOf (goops : Array Oper) : List Nat := masks (goops.toList.map aftersOf) []
def inCl (cl : List Nat) (i j : Nat) : Bool := (cl.getD i 0).testBit j
def aftersOk (goops : Array Oper) : Bool := (List.range goops.size).all fun i => match goops[i]? with | some o => (aftersOf o).all fun k => k < i | none => false
theorem clos_spec {goops : Array Oper} (hok : aftersOk goops = true) {D : Nat -> Prop} (hD : ∀ i o, goops[i]? = some o -> D i -> ∀ k ∈ aftersOf o, D k) :
  ∀ i o, goops[i]? = some o -> (∀ k ∈ aftersOf o, D k) -> ∀ j, inCl (closOf goops) i j = true -> D j := by
 have hb : ∀ (p : Nat) (a : List Nat), (goops.toList.map aftersOf)[p]? = some a -> ∀ k ∈ a, k < p := by
  intro p a hp k hk
  simp only [List.getElem?_map, Option.map_eq_some_iff, Array.getElem?_toList] at hp
  obtain ⟨o, h1, rfl⟩ := hp
  simp only [aftersOk, List.all_eq_true, List.mem_range] at hok
  have := hok p (Array.getElem?_eq_some_iff.1 h1).1
  rw [h1] at this
  simp only [List.all_eq_true, decide_eq_true_eq] at this
  exact this k hk
 intro i
 induction i using Nat.strongRecOn with
 | _ i ih =>
  intro o ho hall j hj
  obtain ⟨a, h1, k, h2, h3⟩ := masks_spec (goops.toList.map aftersOf) [] i j (Nat.zero_le _) (fun p a hp k hk => by have := hb p a hp k hk; simpa using this) hj
  simp only [List.length_nil, Nat.sub_zero, List.getElem?_map, Option.map_eq_some_iff, Array.getElem?_toList] at h1
  obtain ⟨o', h4, rfl⟩ := h1
  rw [ho] at h4; cases h4
  have hDk := hall k h2
  rcases h3 with rfl | h3
  ·exact hDk
  ·have hlt := hb i (aftersOf o) (by simp [ho]) k h2
   have hks : k < goops.size := by have := (Array.getElem?_eq_some_iff.1 ho).1; omega
   exact ih k hlt goops[k] (Array.getElem?_eq_getElem hks) (hD k goops[k] (Array.getElem?_eq_getElem hks) hDk) j h3
theorem mem_afters {o : Oper} {k : Nat} : k ∈ aftersOf o ↔ ∃ x ∈ o.after, Region.binds .any x = true /\ x.on = k := by
 unfold aftersOf
 simp only [List.mem_map, List.mem_filter, Array.mem_toList_iff]
 constructor
 ·rintro ⟨x, ⟨h1, h2⟩, h3⟩; exact ⟨x, h1, h2, h3⟩
 ·rintro ⟨x, h1, h2, h3⟩; exact ⟨x, ⟨h1, h2⟩, h3⟩
theorem ready_iff {goops : Array Oper} {listed : Array Bool} (hsz : listed.size = goops.size) {i : Nat} : i ∈ Region.ready .any goops listed ↔ ∃ o, goops[i]? = some o /\ listed.getD i false = false /\ ∀ k ∈ aftersOf o, listed.getD k false = true := by
 unfold Region.ready
 simp only [List.mem_filter, List.mem_range, Bool.and_eq_true, Bool.not_eq_true']
 constructor
 ·rintro ⟨hi, h1, h2⟩
  refine ⟨goops[i], Array.getElem?_eq_getElem hi, ?_, ?_⟩
  ·have : i < listed.size := by omega
   simpa [Array.getD_eq_getD_getElem?, this] using h1
  ·intro k hk
   obtain ⟨x, hx, hb, rfl⟩ := mem_afters.1 hk
   simp only [Array.getElem?_eq_getElem hi, Option.map_some, Option.getD_some] at h2
   rw [Array.all_eq_true'] at h2
   have := h2 x hx
   simpa [hb] using this
 ·rintro ⟨o, ho, h1, h2⟩
  obtain ⟨hi, rfl⟩ := Array.getElem?_eq_some_iff.1 ho
  refine ⟨hi, ?_, ?_⟩
  ·have : i < listed.size := by omega
   simpa [Array.getD_eq_getD_getElem?, this] using h1
  ·simp only [ho, Option.map_some, Option.getD_some]
   rw [Array.all_eq_true']
   intro x hx
   cases hb : Region.binds .any x with
   | false => rfl
   | true => simpa using h2 _ (mem_afters.2 ⟨x, hx, hb, rfl⟩)
def kA (d : DOp) : Bool := match d.k with | .a => true | _ => false
def kE (d : DOp) : Bool := match d.k with | .e => true | _ => false
def kEA (d : DOp) : Bool := match d.k with | .a => true | .e => true | _ => false
def cnt : List DOp -> Nat -> Nat
 | _, 0 => 0
 | [], _ + 1 => 0
 | d :: r, p + 1 => (bif kEA d then 1 else 0) + cnt r p
def nodupB : List Nat -> Bool
 | [] => true
 | x :: r => !r.contains x && nodupB r
def allPos (f : Nat -> DOp -> Bool) : List DOp -> Nat -> Bool
 | [], _ => true
 | d :: r, p => f p d && allPos f r (p + 1)
def anyPos (f : Nat -> DOp -> Bool) : List DOp -> Nat -> Bool
 | [], _ => false
 | d :: r, p => f p d || anyPos f r (p + 1)
def chkPos (main : List DOp) (cl : List Nat) (q : Nat) (d : DOp) : Bool :=
  (rdO d.o).all (fun t => allPos (fun p b => !(b.o.d == some t) || (decide (p < q) && inCl cl d.i b.i && (!kA b || allPos (fun p' c => !(decide (p' <= p) && kEA c) || inCl cl d.i c.i) main 0))) main 0) &&
  (match d.k with
   | .r => isR d.o.op
   | .l lo hi => isL d.o.op && d.o.d.isSome && (lo == 0 || anyPos (fun p b => kE b && inCl cl d.i b.i && decide (lo <= cnt main (p + 1))) main 0) &&
       (decide (cnt main main.length <= hi) || anyPos (fun p b => kE b && inCl cl b.i d.i && decide (cnt main p <= hi)) main 0)
   | .a => isA d.o.op && d.o.g.isNone && d.o.d.isSome
   | .e => allPos (fun p b => !(decide (p < q) && kEA b) || inCl cl d.i b.i) main 0)
def chkD (P : Program) (nt : Nat) (keep outs : List Nat) (goops : Array Oper) (main : List DOp) (trail : List HOper) : Bool :=
  aftersOk goops && goops.size == main.length + trail.length &&
  main.all (fun d => decide (d.i < main.length)) && nodupB (main.map (·.i)) && (List.range main.length).all (fun i => main.any fun d => d.i == i) &&
  main.all (fun d => match goops[d.i]? with | some go => chkO P nt keep outs goops d.o go | none => false) &&
  chkL P nt keep outs goops trail (goops.toList.drop main.length) &&
  (let cl := closOf goops
   (List.range trail.length).all (fun k => (List.range (main.length + k)).all fun j => inCl cl (main.length + k) j) &&
   allPos (chkPos main cl) main 0) &&
  nodupB (main.filterMap (·.o.d))
theorem allPos_iff {f : Nat -> DOp -> Bool} : ∀ {l : List DOp} {n : Nat}, allPos f l n = true -> ∀ (p : Nat) (d : DOp), l[p]? = some d -> f (n + p) d = true
 | [], _, _, p, d, h => by simp at h
 | x :: r, n, h, p, d, hd => by
  simp only [allPos, Bool.and_eq_true] at h
  cases p with
  | zero => simp at hd; subst hd; exact h.1
  | succ p => have := allPos_iff h.2 p d (by simpa using hd); rwa [Nat.add_assoc, Nat.add_comm 1] at this
theorem anyPos_iff {f : Nat -> DOp -> Bool} : ∀ {l : List DOp} {n : Nat}, anyPos f l n = true -> ∃ (p : Nat) (d : DOp), l[p]? = some d /\ f (n + p) d = true
 | [], _, h => by simp [anyPos] at h
 | x :: r, n, h => by
  simp only [anyPos, Bool.or_eq_true] at h
  rcases h with h | h
  ·exact ⟨0, x, rfl, h⟩
  ·obtain ⟨p, d, h1, h2⟩ := anyPos_iff h
   exact ⟨p + 1, d, by simpa using h1, by rw [Nat.add_comm p 1, <- Nat.add_assoc]; exact h2⟩
theorem nodupB_iff : ∀ {l : List Nat}, nodupB l = true -> l.Nodup
 | [], _ => .nil
 | x :: r, h => by
  simp only [nodupB, Bool.and_eq_true, Bool.not_eq_true', List.contains_eq_mem, decide_eq_false_iff_not] at h
  exact List.nodup_cons.2 ⟨h.1, nodupB_iff h.2⟩
theorem cnt_mono : ∀ (l : List DOp) {p q : Nat}, p <= q -> cnt l p <= cnt l q
 | _, 0, _, _ => by simp [cnt]
 | [], _ + 1, 0, h => by omega
 | [], _ + 1, _ + 1, _ => by simp [cnt]
 | d :: r, p + 1, 0, h => by omega
 | d :: r, p + 1, q + 1, h => by simp only [cnt]; have := cnt_mono r (show p <= q by omega); omega
theorem cnt_succ : ∀ (l : List DOp) (p : Nat) (d : DOp), l[p]? = some d -> cnt l (p + 1) = cnt l p + (bif kEA d then 1 else 0)
 | [], p, d, h => by simp at h
 | x :: r, 0, d, h => by simp at h; subst h; simp [cnt]
 | x :: r, p + 1, d, h => by
  have := cnt_succ r p d (by simpa using h)
  simp only [cnt] at this ⊢
  omega
def aRow : HOp -> List HV
 | .alloc z => z
 | _ => []
def aVal : HOp -> Ky -> HV
 | .bsl sz _, o => .sl o 0 0 sz
 | _, o => .ptr o 0
def aGo : HOp -> Nat -> Value
 | .bsl _ _, b => .slice (some ⟨b, 0, none⟩) 0 0
 | _, b => .pointer (some ⟨b, 0, none⟩)
def ACells (op : HOp) (cs : Array Value) : Prop := (aRow op).length <= cs.size /\ ∀ (j : Nat) (v : HV), (aRow op)[j]? = some v -> v.one = true /\ ∃ u : Value, cs[j]? = some u /\ ∀ β N w, HR β N w v u
theorem a_hop {op : HOp} (h : isA op = true) (e : En) (s : HS) : hop op e s = s.new (aRow op) (aVal op) := by
 cases op <;> first | (cases h; done) | rfl | skip
 rename_i sz xs
 cases xs with
 | nil => rfl
 | cons x r => cases h
theorem a_run {P : Program} {op : HOp} {go : Oper} (h : isA op = true) (hc : chkOp P op go.op = true) : ∃ cs, ACells op cs /\ ∀ (a : Act) (w : World), ∃ E, (execOp a.eval go).run P w = .ok (.value (aGo op w.heap.size)) { w with heap := w.heap.push (.cells cs E) } := by
 cases op <;> first | (cases h; done) | skip
 ·rename_i z
  cases hgo : go.op <;> simp only [hgo] at hc <;> first | (simp [chkOp] at hc; done) | skip
  rename_i t
  simp only [chkOp, zeroT] at hc
  split at hc
  case h_2 => cases hc
  rename_i v hz
  obtain ⟨inf, hinf, hz0⟩ := Option.bind_eq_some_iff.1 hz
  refine ⟨v.cells, ⟨?_, fun j x hj => ?_⟩, fun a w => ⟨t, ?_⟩⟩
  ·have := (chkVs_sound hc (fun _ => none) (fun _ => False) default).1
   simp only [Array.length_toList] at this
   rw [this]; exact Nat.le_refl _
  ·have hj : z[j]? = some x := hj
   refine ⟨chkVs_one z _ hc x (List.mem_of_getElem? hj), ?_⟩
   have hlen := (chkVs_sound hc (fun _ => none) (fun _ => False) default).1
   have hjl : j < v.cells.size := by have := (List.getElem?_eq_some_iff.1 hj).1; simp at hlen; omega
   exact ⟨v.cells[j], Array.getElem?_eq_getElem hjl, fun β N w => (chkVs_sound hc β N w).2 j x _ hj (by simp [hjl])⟩
  ·simp [execOp, hgo, Instr.alloc, zeroValue, typeInfo, hinf, hz0, newVar, Go.newRow, aGo]
 ·rename_i sz xs
  cases xs with
  | cons x r => cases h
  | nil =>
   cases hgo : go.op <;> simp only [hgo] at hc <;> first | (simp [chkOp] at hc; done) | skip
   rename_i t n ps
   refine ⟨#[], ⟨by simp [aRow], by simp [aRow]⟩, fun a w => ?_⟩
   have he : EnvV (fun _ => none) (Live (fun _ => False) s0 (fun _ => none)) w .nil a := fun t v ht => by cases ht
   obtain ⟨g0, g1, E, cs, g2, g3, g4, g5⟩ := run_bsl (P := P) (M := fun _ => False) (β := fun _ => none) (s := s0) he hgo hc (l := []) rfl (m := []) rfl
   simp at g0
   subst g0
   have : cs = #[] := Array.eq_empty_of_size_eq_zero (by rw [g3]; simp)
   subst this
   exact ⟨E, g2⟩
theorem a_val {op : HOp} (h : isA op = true) {β : Bt} {N : Nat -> Prop} {w : World} {o : Ky} {b : Nat} (hb : β o = some ⟨b, 0⟩) {cs : Array Value} {E : TypeId} (hw : w.heap[b]? = some (.cells cs E (0, 0))) : HR β N w (aVal op o) (aGo op b) := by
 cases op <;> first | (cases h; done) | skip
 ·exact HR.ptr o 0 ⟨b, 0⟩ hb (Nat.le_refl _)
 ·rename_i sz xs
  exact HR.sl o 0 0 sz 0 cs.size ⟨b, 0⟩ hb (Nat.le_refl _) (Nat.le_refl _) ⟨E, cs, (0, 0), hw, rfl⟩ (by simp)
noncomputable def aNew (s : HS) (op : HOp) : HS := { h := tset (some (.cells (setL (aRow op) 0 .lf) 0 (lenL (aRow op)) s.nx)) s.nx s.h, nx := s.nx.succ, gr := tset (some [s.nx]) s.nx s.gr, ty := s.ty }
section adopt
variable {C : CRel} {β : Bt} {s : HS} {w : World}
theorem Rel.weaken {M M' : Nat -> Prop} (h : Rel M C β s w) (hs : ∀ b, M' b -> M b) : Rel M' C β s w where
 lt := h.lt
 obj := fun o ob ho => let ⟨pl, h1, h2⟩ := h.obj o ob ho; ⟨pl, h1, h2.keep (Bt.le_refl _) (fun b _ hx => hx.imp (hs b) id) (Keeps.refl _ _) rfl⟩
 apart := h.apart
 grp := h.grp
 gnx := h.gnx
 mlt := fun b hb => h.mlt b (hs b hb)
 mal := fun b hb => h.mal b (hs b hb)
 tyr := h.tyr
theorem alive_new {op : HOp} {b : Nat} (hdead : tget s.h s.nx = none) (x : Nat) : Alive (aNew s op) (β.add s.nx ⟨b, 0⟩) x ↔ x = b ∨ Alive s β x := by
 unfold Alive aNew
 constructor
 ·rintro ⟨o, ob, pl, h1, h2, rfl⟩
  simp only [tget_tset] at h1
  unfold Bt.add at h2
  by_cases ho : o = s.nx
  ·rw [if_pos ho] at h2; cases h2; exact .inl rfl
  ·rw [if_neg ho] at h1 h2; exact .inr ⟨o, ob, pl, h1, h2, rfl⟩
 ·rintro (rfl | ⟨o, ob, pl, h1, h2, rfl⟩)
  ·exact ⟨s.nx, _, ⟨x, 0⟩, by rw [tget_tset, if_pos rfl], by simp [Bt.add], rfl⟩
  ·have ho : o ≠ s.nx := fun e => by rw [e, hdead] at h1; cases h1
   exact ⟨o, ob, pl, by rw [tget_tset, if_neg ho]; exact h1, by unfold Bt.add; rw [if_neg ho]; exact h2, rfl⟩
theorem Rel.known {M1 M2 : Nat -> Prop} {b : Nat} (hM : ∀ x, M1 x ↔ M2 x ∨ x = b) (hb2 : ¬ M2 b) (h : Rel M1 C β s w) {op : HOp} {cs : Array Value} {E : TypeId} (hw : w.heap[b]? = some (.cells cs E (0, 0))) (hcs : ACells op cs) :
  Rel M2 C (β.add s.nx ⟨b, 0⟩) (aNew s op) w /\ β.le (β.add s.nx ⟨b, 0⟩) /\ ∀ x, Live M2 (aNew s op) (β.add s.nx ⟨b, 0⟩) x ↔ Live M1 s β x := by
 have hfresh := h.fresh
 have hal := alive_new (β := β) (op := op) (b := b) h.dead
 have hnb : ¬ Alive s β b := h.mal b ((hM b).2 (.inr rfl))
 have hlv : ∀ x, Live M1 s β x ↔ x = b ∨ Live M2 s β x := fun x => by
  unfold Live
  rw [hM]
  constructor
  ·rintro ((h | h) | h)
   ·exact .inr (.inl h)
   ·exact .inl h
   ·exact .inr (.inr h)
  ·rintro (h | h | h)
   ·exact .inl (.inr h)
   ·exact .inl (.inl h)
   ·exact .inr h
 refine ⟨?_, Bt.le_add hfresh, fun x => ?_⟩
 ·refine (h.weaken fun x hx => (hM x).2 (.inl hx)).adopt (lt_of_block hw) (fun hl => hl.elim hb2 hnb) (.inl rfl) ?_ (fun o ob ho => ?_) (.inl ⟨_, _, _, rfl, rfl⟩)
  ·refine .cells _ 0 _ _ cs E (0, 0) (Nat.le_refl _) hw (.inl rfl) (by rw [lenL_eq]; simpa using hcs.1) fun k v _ h2 h3 => ?_
   rw [nget_setL] at h3
   rw [lenL_eq] at h2
   rw [if_pos (by omega)] at h3
   obtain ⟨a1, u, a2, a3⟩ := hcs.2 (k - 0) v h3
   exact ⟨a1, u, a2, a3 _ _ _⟩
  ·obtain ⟨pl, h1, h2⟩ := h.obj o ob ho
   exact ⟨pl, h1, h2.keep (Bt.le_refl _) (fun x _ hx => (hlv x).2 hx) (Keeps.refl _ _) rfl⟩
 ·rw [hlv]
  unfold Live
  rw [hal]
  constructor
  ·rintro (h | h | h)
   ·exact .inr (.inl h)
   ·exact .inl h
   ·exact .inr (.inr h)
  ·rintro (h | h | h)
   ·exact .inr (.inl h)
   ·exact .inl h
   ·exact .inr (.inr h)
theorem Rel.unknown {M1 M2 : Nat -> Prop} (hM : ∀ x, M2 x ↔ M1 x ∨ x = w.heap.size) (h : Rel M1 C β s w) (x : Obj) :
  Rel M2 C β s { w with heap := w.heap.push x } /\ Less (Live M2 s β) (Live M1 s β) w := by
 have hless : Less (Live M2 s β) (Live M1 s β) w := fun b hb hl => by
  rcases hl with hl | hl
  ·rcases (hM b).1 hl with h1 | h1
   ·exact .inl h1
   ·omega
  ·exact .inr hl
 refine ⟨⟨fun o pl ho => ⟨(h.lt o pl ho).1, by have := (h.lt o pl ho).2; simp; omega⟩, fun o ob ho => ?_, h.apart, h.grp, h.gnx, fun b hb => ?_, fun b hb ha => ?_, fun o E n ho => let ⟨pl, h1, h2, h3⟩ := h.tyr o E n ho; ⟨pl, h1, h2.keep (Keeps.push (fun _ => True) w x), h3⟩⟩, hless⟩
 ·obtain ⟨pl, h1, h2⟩ := h.obj o ob ho
  exact ⟨pl, h1, h2.keep (Bt.le_refl _) hless (Keeps.push _ _ _) (heap_push w x (h.lt o pl h1).2)⟩
 ·rcases (hM b).1 hb with h1 | h1
  ·have := h.mlt b h1; simp; omega
  ·simp; omega
 ·rcases (hM b).1 hb with h1 | h1
  ·exact h.mal b h1 ha
  ·have := Live.lt (M := M1) h (.inr ha); omega
end adopt
theorem opsD_code {ih : Task -> Out} {K : En -> HS -> List HS -> Out} {x : Ex} {e2 : En} {s2 : HS} : ∀ (l : List DOp) (e : En) (s : HS) (vs : List HS), opsD ih K l e s vs = .code x e2 s2 ->
  ∃ (es : Nat -> En) (ss : Nat -> HS) (vv : Nat -> HV) (vsF : List HS), es 0 = e /\ ss 0 = s /\ K (es l.length) (ss l.length) vsF = .code x e2 s2 /\
   (∀ (p : Nat) (d : DOp), l[p]? = some d -> res1 ih d.o (es p) (ss p) = some (vv p, ss (p + 1)) /\ es (p + 1) = (es p).put d.o.d (vv p)) /\
   (∀ k, k < vs.length -> vsF[k]? = vs[k]?) /\ ∀ (p : Nat) (d : DOp), l[p]? = some d -> kEA d = true -> vsF[vs.length + cnt l p]? = some (ss (p + 1)) := by
 intro l
 induction l with
 | nil => intro e s vs h; exact ⟨fun _ => e, fun _ => s, fun _ => .undef, vs, rfl, rfl, h, by simp, fun _ _ => rfl, by simp⟩
 | cons d l ihl =>
  intro e s vs h
  obtain ⟨v, s', h1, h2⟩ := one_code (K := fun e' s' => opsD ih K l e' s' (DK.rec (motive := fun _ => List HS) vs (fun _ _ => vs) (vs ++ [s']) (vs ++ [s']) d.k)) h
  obtain ⟨es, ss, vv, vsF, a1, a2, a3, a4, a5, a6⟩ := ihl _ _ _ h2
  refine ⟨fun n => match n with | 0 => e | n + 1 => es n, fun n => match n with | 0 => s | n + 1 => ss n, fun n => match n with | 0 => v | n + 1 => vv n, vsF, rfl, rfl, a3, ?_, ?_, ?_⟩
  ·intro p d' hp
   cases p with
   | zero => simp at hp; subst hp; exact ⟨by simp only [a2]; exact h1, a1⟩
   | succ p => exact a4 p d' (by simpa using hp)
  ·intro k hk
   cases hd : d.k with
   | r => simp only [hd] at a5; exact a5 k hk
   | l lo hi => simp only [hd] at a5; exact a5 k hk
   | a => simp only [hd] at a5; rw [a5 k (by simp; omega), List.getElem?_append_left hk]
   | e => simp only [hd] at a5; rw [a5 k (by simp; omega), List.getElem?_append_left hk]
  ·intro p d' hp hk
   have hpush : kEA d = true -> (DK.rec (motive := fun _ => List HS) vs (fun _ _ => vs) (vs ++ [s']) (vs ++ [s']) d.k) = vs ++ [s'] := fun hk => by
    unfold kEA at hk
    cases hd : d.k <;> simp only [hd] at hk ⊢ <;> cases hk
   have hno : kEA d = false -> (DK.rec (motive := fun _ => List HS) vs (fun _ _ => vs) (vs ++ [s']) (vs ++ [s']) d.k) = vs := fun hk => by
    unfold kEA at hk
    cases hd : d.k <;> simp only [hd] at hk ⊢ <;> cases hk
   cases p with
   | zero =>
    simp at hp; subst hp
    rw [hpush hk] at a5
    simp only [cnt, Nat.add_zero, a2]
    rw [a5 _ (by simp)]; simp
   | succ p =>
    have := a6 p d' (by simpa using hp) hk
    simp only [cnt]
    cases hkd : kEA d with
    | true =>
     rw [hpush hkd, List.length_append, List.length_singleton] at this
     rw [cond_true]; rw [<- Nat.add_assoc]; exact this
    | false =>
     rw [hno hkd] at this
     rw [cond_false, Nat.zero_add]; exact this
def Valid (main : List DOp) (listed : Array Bool) (T : Nat) (t : Nat) : Prop := ∀ (p : Nat) (d : DOp), main[p]? = some d -> d.o.d = some t -> listed.getD d.i false = true /\ (kA d = true -> p < T)
def MP (M : Nat -> Prop) (main : List DOp) (listed : Array Bool) (T : Nat) (blk : Nat -> Nat) (b : Nat) : Prop := M b ∨ ∃ (p : Nat) (d : DOp), T <= p /\ main[p]? = some d /\ kA d = true /\ listed.getD d.i false = true /\ blk p = b
structure InD (M : Nat -> Prop) (C : CRel) (goops : Array Oper) (main : List DOp) (keep outs : List Nat) (eF : En) (ss : Nat -> HS) (β0 : Bt) (s0 : HS) (a0 : Act) (w0 : World) (listed : Array Bool) (T : Nat) (blk : Nat -> Nat) (β : Bt) (a : Act) (w : World) : Prop where
 mlt : ∀ b, M b -> b < w0.heap.size
 lsz : listed.size = goops.size
 closed : ∀ i o, goops[i]? = some o -> listed.getD i false = true -> ∀ k ∈ aftersOf o, listed.getD k false = true
 notr : ∀ i, main.length <= i -> listed.getD i false = false
 Tle : T <= main.length
 done : ∀ (p : Nat) (d : DOp), main[p]? = some d -> p < T -> kEA d = true -> listed.getD d.i false = true
 todo : ∀ (p : Nat) (d : DOp), main[p]? = some d -> T <= p -> kE d = true -> listed.getD d.i false = false
 rel : Rel (MP M main listed T blk) C β (ss T) w
 ext : Ext M β0 s0 w0 β (ss T) w
 pend : ∀ (p : Nat) (d : DOp), main[p]? = some d -> T <= p -> kA d = true -> listed.getD d.i false = true ->
  w0.heap.size <= blk p /\ (∃ cs E, w.heap[blk p]? = some (.cells cs E (0, 0)) /\ ACells d.o.op cs) /\ ∀ t, d.o.d = some t -> a.tmps.getD t Go.undef = aGo d.o.op (blk p)
 inj : ∀ (p q : Nat) (d d' : DOp), main[p]? = some d -> main[q]? = some d' -> T <= p -> T <= q -> kA d = true -> kA d' = true -> listed.getD d.i false = true -> listed.getD d'.i false = true -> blk p = blk q -> p = q
 env : ∀ t v, look eF t = some v -> Valid main listed T t -> HR β (Live (MP M main listed T blk) (ss T) β) w v (a.tmps.getD t Go.undef)
 size : a.tmps.size = a0.tmps.size
 defers : a.defers = a0.defers
 same : ∀ t, t ∈ keep -> outs.contains t = false -> a.tmps.getD t Go.undef = a0.tmps.getD t Go.undef
structure Stat (P : Program) (nt : Nat) (keep outs : List Nat) (goops : Array Oper) (main : List DOp) (trail : List HOper) (ih : Task -> Out) (es : Nat -> En) (ss : Nat -> HS) (vv : Nat -> HV) (vsF : List HS) : Prop where
 aok : aftersOk goops = true
 sz : goops.size = main.length + trail.length
 lt : ∀ (p : Nat) (d : DOp), main[p]? = some d -> d.i < main.length
 inji : ∀ (p q : Nat) (d d' : DOp), main[p]? = some d -> main[q]? = some d' -> d.i = d'.i -> p = q
 surj : ∀ i, i < main.length -> ∃ (p : Nat) (d : DOp), main[p]? = some d /\ d.i = i
 op : ∀ (p : Nat) (d : DOp), main[p]? = some d -> ∃ go, goops[d.i]? = some go /\ chkO P nt keep outs goops d.o go = true
 trl : chkL P nt keep outs goops trail (goops.toList.drop main.length) = true
 tcl : ∀ k, k < trail.length -> ∀ j, j < main.length + k -> inCl (closOf goops) (main.length + k) j = true
 pos : ∀ (q : Nat) (d : DOp), main[q]? = some d -> chkPos main (closOf goops) q d = true
 dst : ∀ (p q : Nat) (d d' : DOp) (t : Nat), main[p]? = some d -> main[q]? = some d' -> d.o.d = some t -> d'.o.d = some t -> p = q
 step : ∀ (p : Nat) (d : DOp), main[p]? = some d -> res1 ih d.o (es p) (ss p) = some (vv p, ss (p + 1)) /\ es (p + 1) = (es p).put d.o.d (vv p)
 vs0 : vsF[0]? = some (ss 0)
 vsk : ∀ (p : Nat) (d : DOp), main[p]? = some d -> kEA d = true -> vsF[1 + cnt main p]? = some (ss (p + 1))
 reads : chkReads (es main.length) vsF main = true
theorem nodup_filterMap {f : DOp -> Option Nat} : ∀ {l : List DOp}, (l.filterMap f).Nodup -> ∀ (p q : Nat) (d d' : DOp) (t : Nat), l[p]? = some d -> l[q]? = some d' -> f d = some t -> f d' = some t -> p = q
 | [], _, p, q, d, d', t, h, _, _, _ => by simp at h
 | x :: r, hn, p, q, d, d', t, h1, h2, h3, h4 => by
  have hmem : ∀ (k : Nat) (c : DOp), r[k]? = some c -> f c = some t -> t ∈ r.filterMap f := fun k c hk hc => List.mem_filterMap.2 ⟨c, List.mem_of_getElem? hk, hc⟩
  have hr : (r.filterMap f).Nodup := by
   rw [List.filterMap_cons] at hn
   split at hn
   ·exact hn
   ·exact (List.nodup_cons.1 hn).2
  have hx : f x = some t -> t ∉ r.filterMap f := fun hx => by
   rw [List.filterMap_cons, hx] at hn
   exact (List.nodup_cons.1 hn).1
  cases p with
  | zero =>
   simp at h1; subst h1
   cases q with
   | zero => rfl
   | succ q => exact absurd (hmem q d' (by simpa using h2) h4) (hx h3)
  | succ p =>
   cases q with
   | zero => simp at h2; subst h2; exact absurd (hmem p d (by simpa using h1) h3) (hx h4)
   | succ q => rw [nodup_filterMap hr p q d d' t (by simpa using h1) (by simpa using h2) h3 h4]
theorem nodup_map {f : DOp -> Nat} {l : List DOp} (hn : (l.map f).Nodup) (p q : Nat) (d d' : DOp) (h1 : l[p]? = some d) (h2 : l[q]? = some d') (h3 : f d = f d') : p = q := by
 have e : l.map f = l.filterMap (fun x => some (f x)) := by simp [List.filterMap_eq_map']
 rw [e] at hn
 exact nodup_filterMap hn p q d d' (f d) h1 h2 rfl (by rw [h3])
theorem Stat.mk' {P : Program} {nt : Nat} {keep outs : List Nat} {goops : Array Oper} {main : List DOp} {trail : List HOper} {ih : Task -> Out} {es : Nat -> En} {ss : Nat -> HS} {vv : Nat -> HV} {vsF : List HS}
  (hc : chkD P nt keep outs goops main trail = true)
  (hstep : ∀ (p : Nat) (d : DOp), main[p]? = some d -> res1 ih d.o (es p) (ss p) = some (vv p, ss (p + 1)) /\ es (p + 1) = (es p).put d.o.d (vv p))
  (hvs0 : vsF[0]? = some (ss 0)) (hvsk : ∀ (p : Nat) (d : DOp), main[p]? = some d -> kEA d = true -> vsF[1 + cnt main p]? = some (ss (p + 1))) (hreads : chkReads (es main.length) vsF main = true) :
  Stat P nt keep outs goops main trail ih es ss vv vsF := by
 simp only [chkD, Bool.and_eq_true, beq_iff_eq, List.all_eq_true, decide_eq_true_eq, List.mem_range, List.any_eq_true] at hc
 obtain ⟨⟨⟨⟨⟨⟨⟨⟨h1, h2⟩, h3⟩, h4⟩, h5⟩, h6⟩, h7⟩, h8, h9⟩, h10⟩ := hc
 refine ⟨h1, h2, fun p d hp => h3 d (List.mem_of_getElem? hp), fun p q d d' hp hq hi => nodup_map (nodupB_iff h4) p q d d' hp hq hi, fun i hi => ?_, fun p d hp => ?_, h7, h8, fun q d hq => ?_, nodup_filterMap (nodupB_iff h10), hstep, hvs0, hvsk, hreads⟩
 ·obtain ⟨d, hd, he⟩ := h5 i hi
  obtain ⟨p, hp, rfl⟩ := List.getElem_of_mem hd
  exact ⟨p, main[p], List.getElem?_eq_getElem hp, by simpa using he⟩
 ·have := h6 d (List.mem_of_getElem? hp)
  split at this
  ·rename_i go hgo; exact ⟨go, hgo, this⟩
  ·cases this
 ·have := allPos_iff h9 q d hq
  rwa [Nat.zero_add] at this
theorem kE_kEA {d : DOp} (h : kE d = true) : kEA d = true := by
 unfold kE at h; unfold kEA
 cases hd : d.k <;> simp only [hd] at h ⊢ <;> cases h
theorem kA_kEA {d : DOp} (h : kA d = true) : kEA d = true := by
 unfold kA at h; unfold kEA
 cases hd : d.k <;> simp only [hd] at h ⊢ <;> cases h
theorem readsIn_get {o : HOper} {e : En} : ∀ {n : Nat} {l : List HS}, readsIn o e n l = true -> ∀ (k : Nat) (s : HS), k <= n -> l[k]? = some s -> ∃ d v u s', o.d = some d /\ look e d = some v /\ hop o.op e s = .v u s' /\ same1 v u = true
 | _, [], _, k, s, _, h => by simp at h
 | n, x :: r, hr, k, s, hk, h => by
  unfold readsIn at hr
  simp only [Bool.and_eq_true] at hr
  cases k with
  | zero =>
   simp at h; subst h
   have h1 := hr.1
   split at h1
   ·rename_i d hd
    split at h1
    ·rename_i v u s' hv hu; exact ⟨d, v, u, s', hd, hv, hu, h1⟩
    ·cases h1
   ·cases h1
  | succ k =>
   cases n with
   | zero => omega
   | succ n => exact readsIn_get hr.2 k s (by omega) (by simpa using h)
theorem chkReads_get {e : En} {vs : List HS} : ∀ {l : List DOp}, chkReads e vs l = true -> ∀ (q : Nat) (d : DOp) (lo hi : Nat), l[q]? = some d -> d.k = .l lo hi ->
  (wants e d.o.g = some true /\ readsIn d.o e (hi - lo) (vs.drop lo) = true) ∨ wants e d.o.g = some false
 | [], _, q, d, lo, hi, h, _ => by simp at h
 | x :: r, hc, q, d, lo, hi, h, hk => by
  simp only [chkReads, Bool.and_eq_true] at hc
  cases q with
  | zero =>
   simp at h; subst h
   have h1 := hc.1
   rw [hk] at h1
   simp only [] at h1
   split at h1
   ·rename_i hw; exact .inl ⟨hw, h1⟩
   ·rename_i hw; exact .inr hw
   ·cases h1
  | succ q => exact chkReads_get hc.2 q d lo hi (by simpa using h) hk
section stat
variable {P : Program} {nt : Nat} {keep outs : List Nat} {goops : Array Oper} {main : List DOp} {trail : List HOper} {ih : Task -> Out} {es : Nat -> En} {ss : Nat -> HS} {vv : Nat -> HV} {vsF : List HS}
theorem Stat.look_late (S : Stat P nt keep outs goops main trail ih es ss vv vsF) {t : Nat} : ∀ (j p : Nat), p + j = main.length -> (∀ (r : Nat) (d : DOp), p <= r -> main[r]? = some d -> d.o.d ≠ some t) -> look (es main.length) t = look (es p) t
 | 0, p, hp, _ => by rw [<- hp, Nat.add_zero]
 | j + 1, p, hp, h => by
  have hlt : p < main.length := by omega
  have hd := List.getElem?_eq_getElem hlt
  rw [S.look_late j (p + 1) (by omega) fun r d hr => h r d (by omega), (S.step p _ hd).2, look_put, if_neg (h p _ (Nat.le_refl _) hd)]
theorem Stat.look_dst (S : Stat P nt keep outs goops main trail ih es ss vv vsF) {p : Nat} {d : DOp} (hp : main[p]? = some d) {t : Nat} (ht : d.o.d = some t) : look (es main.length) t = some (vv p) := by
 have hlt : p < main.length := (List.getElem?_eq_some_iff.1 hp).1
 rw [S.look_late (main.length - (p + 1)) (p + 1) (by omega) fun r d' hr hd' hdt => by have := S.dst p r d d' t hp hd' ht hdt; omega, (S.step p d hp).2, look_put, if_pos ht]
theorem Stat.read_pos (S : Stat P nt keep outs goops main trail ih es ss vv vsF) {q : Nat} {d : DOp} (hq : main[q]? = some d) {t : Nat} (ht : t ∈ rdO d.o) {p : Nat} {b : DOp} (hp : main[p]? = some b) (hb : b.o.d = some t) :
  p < q /\ inCl (closOf goops) d.i b.i = true /\ (kA b = true -> ∀ (p' : Nat) (c : DOp), main[p']? = some c -> p' <= p -> kEA c = true -> inCl (closOf goops) d.i c.i = true) := by
 have h := S.pos q d hq
 unfold chkPos at h
 rw [Bool.and_eq_true, List.all_eq_true] at h
 have h1 := allPos_iff (h.1 t ht) p b hp
 rw [Nat.zero_add] at h1
 simp only [hb, beq_self_eq_true, Bool.not_true, Bool.false_or, Bool.and_eq_true, decide_eq_true_eq, Bool.or_eq_true, Bool.not_eq_true'] at h1
 refine ⟨h1.1.1, h1.1.2, fun hk p' c hp' hle hc => ?_⟩
 rcases h1.2 with h2 | h2
 ·rw [hk] at h2; cases h2
 ·have := allPos_iff h2 p' c hp'
  rw [Nat.zero_add] at this
  simpa [hle, hc] using this
theorem Stat.res_late (S : Stat P nt keep outs goops main trail ih es ss vv vsF) {q : Nat} {d : DOp} (hq : main[q]? = some d) (s : HS) : res1 ih d.o (es main.length) s = res1 ih d.o (es q) s := by
 have hlt : q < main.length := (List.getElem?_eq_some_iff.1 hq).1
 refine res1_congr (fun t ht => ?_) s
 exact S.look_late (main.length - q) q (by omega) fun r b hr hb hbt => by have := (S.read_pos hq ht hb hbt).1; omega
theorem Stat.kind (S : Stat P nt keep outs goops main trail ih es ss vv vsF) {q : Nat} {d : DOp} (hq : main[q]? = some d) :
  (d.k = .r /\ isR d.o.op = true) ∨
  (∃ lo hi, d.k = .l lo hi /\ isL d.o.op = true /\ (lo = 0 ∨ ∃ (p : Nat) (b : DOp), main[p]? = some b /\ kE b = true /\ inCl (closOf goops) d.i b.i = true /\ lo <= cnt main (p + 1)) /\
   (cnt main main.length <= hi ∨ ∃ (p : Nat) (b : DOp), main[p]? = some b /\ kE b = true /\ inCl (closOf goops) b.i d.i = true /\ cnt main p <= hi)) ∨
  (d.k = .a /\ isA d.o.op = true /\ d.o.g = none /\ ∃ t, d.o.d = some t) ∨
  (d.k = .e /\ ∀ (p : Nat) (b : DOp), main[p]? = some b -> p < q -> kEA b = true -> inCl (closOf goops) d.i b.i = true) := by
 have h := S.pos q d hq
 unfold chkPos at h
 rw [Bool.and_eq_true] at h
 have h := h.2
 cases hk : d.k with
 | r => rw [hk] at h; exact .inl ⟨rfl, h⟩
 | l lo hi =>
  rw [hk] at h
  simp only [Bool.and_eq_true, Bool.or_eq_true, beq_iff_eq, decide_eq_true_eq] at h
  refine .inr (.inl ⟨lo, hi, rfl, h.1.1.1, ?_, ?_⟩)
  ·rcases h.1.2 with h1 | h1
   ·exact .inl h1
   ·obtain ⟨p, b, h2, h3⟩ := anyPos_iff h1
    simp only [Nat.zero_add, Bool.and_eq_true, decide_eq_true_eq] at h3
    exact .inr ⟨p, b, h2, h3.1.1, h3.1.2, h3.2⟩
  ·rcases h.2 with h1 | h1
   ·exact .inl h1
   ·obtain ⟨p, b, h2, h3⟩ := anyPos_iff h1
    simp only [Nat.zero_add, Bool.and_eq_true, decide_eq_true_eq] at h3
    exact .inr ⟨p, b, h2, h3.1.1, h3.1.2, h3.2⟩
 | a =>
  rw [hk] at h
  simp only [Bool.and_eq_true] at h
  exact .inr (.inr (.inl ⟨rfl, h.1.1, by simpa using h.1.2, Option.isSome_iff_exists.1 h.2⟩))
 | e =>
  rw [hk] at h
  refine .inr (.inr (.inr ⟨rfl, fun p b hp hlt hb => ?_⟩))
  have := allPos_iff h p b hp
  rw [Nat.zero_add] at this
  simpa [hlt, hb] using this
theorem Stat.still (S : Stat P nt keep outs goops main trail ih es ss vv vsF) {q : Nat} {d : DOp} (hq : main[q]? = some d) (hk : kEA d = false) : ss (q + 1) = ss q := by
 have h := (S.step q d hq).1
 unfold res1 at h
 split at h
 ·have hl : Look (ss q) (hop d.o.op (es q) (ss q)) := by
   rcases S.kind hq with ⟨_, h2⟩ | ⟨lo, hi, _, h2, _⟩ | ⟨h1, _⟩ | ⟨h1, _⟩
   ·rcases hop_r h2 (es q) with ⟨v, h3⟩ | h3
    ·rw [h3]; exact .v v
    ·rw [h3]; exact .bad
   ·exact hop_l h2 (es q) (ss q)
   ·simp [kEA, h1] at hk
   ·simp [kEA, h1] at hk
  rcases hl with ⟨v, hv⟩ | hv
  ·rw [hv] at h; simp only [Option.some.injEq, Prod.mk.injEq] at h; exact h.2.symm
  ·rw [hv] at h; cases h
 ·simp only [Option.some.injEq, Prod.mk.injEq] at h; exact h.2.symm
 ·cases h
theorem Stat.version (S : Stat P nt keep outs goops main trail ih es ss vv vsF) : ∀ T, T <= main.length -> vsF[cnt main T]? = some (ss T)
 | 0, _ => by rw [cnt]; exact S.vs0
 | T + 1, hT => by
  have hlt : T < main.length := by omega
  have hd := List.getElem?_eq_getElem hlt
  rw [cnt_succ main T _ hd]
  cases hk : kEA main[T] with
  | true => rw [cond_true, Nat.add_comm]; exact S.vsk T _ hd hk
  | false => rw [cond_false, Nat.add_zero, S.still hd hk]; exact S.version T (by omega)
theorem Stat.res_r (S : Stat P nt keep outs goops main trail ih es ss vv vsF) {q : Nat} {d : DOp} (hq : main[q]? = some d) (hr : isR d.o.op = true) (s : HS) : res1 ih d.o (es main.length) s = some (vv q, s) := by
 rw [S.res_late hq]
 have h := (S.step q d hq).1
 unfold res1 at h ⊢
 split at h
 ·rcases hop_r hr (es q) with ⟨v, h3⟩ | h3
  ·rw [h3] at h ⊢; simp only [Option.some.injEq, Prod.mk.injEq] at h; rw [h.1]
  ·rw [h3] at h; cases h
 ·simp only [Option.some.injEq, Prod.mk.injEq] at h; rw [h.1]
 ·cases h
theorem Stat.res_l (S : Stat P nt keep outs goops main trail ih es ss vv vsF) {q : Nat} {d : DOp} (hq : main[q]? = some d) {lo hi : Nat} (hk : d.k = .l lo hi) (hl : isL d.o.op = true) {T : Nat} (hT : T <= main.length) (h1 : lo <= cnt main T) (h2 : cnt main T <= hi) :
  res1 ih d.o (es main.length) (ss T) = some (vv q, ss T) := by
 rcases chkReads_get S.reads q d lo hi hq hk with ⟨hw, hr⟩ | hw
 ·obtain ⟨t, v, u, s', g1, g2, g3, g4⟩ := readsIn_get hr (cnt main T - lo) (ss T) (by omega) (by
   rw [List.getElem?_drop, show lo + (cnt main T - lo) = cnt main T by omega]; exact S.version T hT)
  have hu := same1_eq v u g4
  subst hu
  rw [S.look_dst hq g1] at g2
  cases g2
  unfold res1
  rw [hw]
  simp only []
  rcases hop_l hl (es main.length) (ss T) with ⟨v', hv⟩ | hv
  ·rw [hv] at g3 ⊢; cases g3; rfl
  ·rw [hv] at g3; cases g3
 ·have h := (S.step q d hq).1
  rw [<- S.res_late hq] at h
  unfold res1 at h ⊢
  rw [hw] at h ⊢
  simp only [Option.some.injEq, Prod.mk.injEq] at h
  rw [h.1]
theorem Stat.res_e (S : Stat P nt keep outs goops main trail ih es ss vv vsF) {q : Nat} {d : DOp} (hq : main[q]? = some d) : res1 ih d.o (es main.length) (ss q) = some (vv q, ss (q + 1)) := by
 rw [S.res_late hq]; exact (S.step q d hq).1
theorem Stat.res_a (S : Stat P nt keep outs goops main trail ih es ss vv vsF) {q : Nat} {d : DOp} (hq : main[q]? = some d) (ha : isA d.o.op = true) (hg : d.o.g = none) : vv q = aVal d.o.op (ss q).nx /\ ss (q + 1) = aNew (ss q) d.o.op := by
 have h := (S.step q d hq).1
 unfold res1 at h
 rw [hg] at h
 have hw : wants (es q) none = some true := rfl
 rw [hw] at h
 simp only [] at h
 rw [a_hop ha, new_eq] at h
 simp only [Option.some.injEq, Prod.mk.injEq] at h
 exact ⟨h.1.symm, h.2.symm⟩
end stat
section draw
variable {M : Nat -> Prop} {C : CRel} {P : Program} {nt : Nat} {keep outs : List Nat} {goops : Array Oper} {main : List DOp} {trail : List HOper} {ih : Task -> Out} {es : Nat -> En} {ss : Nat -> HS} {vv : Nat -> HV} {vsF : List HS}
 {β0 : Bt} {s0 : HS} {a0 : Act} {w0 : World} {listed : Array Bool} {T : Nat} {blk : Nat -> Nat} {β : Bt} {a : Act} {w : World}
theorem MP_eq {listed' : Array Bool} {T' : Nat} {blk' : Nat -> Nat} (h : ∀ (p : Nat) (d : DOp), main[p]? = some d -> kA d = true -> ((T' <= p /\ listed'.getD d.i false = true) ↔ (T <= p /\ listed.getD d.i false = true)))
  (hb : ∀ (p : Nat) (d : DOp), main[p]? = some d -> kA d = true -> T <= p -> listed.getD d.i false = true -> blk' p = blk p) : MP M main listed' T' blk' = MP M main listed T blk := by
 funext b
 unfold MP
 refine propext (or_congr Iff.rfl ?_)
 constructor
 ·rintro ⟨p, d, h1, h2, h3, h4, h5⟩
  obtain ⟨h6, h7⟩ := (h p d h2 h3).1 ⟨h1, h4⟩
  exact ⟨p, d, h6, h2, h3, h7, by rw [<- hb p d h2 h3 h6 h7]; exact h5⟩
 ·rintro ⟨p, d, h1, h2, h3, h4, h5⟩
  obtain ⟨h6, h7⟩ := (h p d h2 h3).2 ⟨h1, h4⟩
  exact ⟨p, d, h6, h2, h3, h7, by rw [hb p d h2 h3 h1 h4]; exact h5⟩
theorem Ext.through {M1 : Nat -> Prop} {s s' : HS} {β' : Bt} {w' : World} (h : Ext M β0 s0 w0 β s w) (k : Ext M1 β s w β' s' w') (hM : ∀ b, M b -> M1 b) (hnew : ∀ b, M1 b -> b < w0.heap.size -> M b) : Ext M β0 s0 w0 β' s' w' where
 le := Bt.le_trans h.le k.le
 keeps := by
  have hin : ∀ b, b < w0.heap.size -> Live M1 s β b -> Live M s β b := fun b hb hl => hl.imp (fun hm => hnew b hm hb) id
  exact ⟨Nat.le_trans h.keeps.size k.keeps.size, fun b hb hN => (k.keeps.same b (Nat.lt_of_lt_of_le hb h.keeps.size) (fun x => hN (h.less b hb (hin b hb x)))).trans (h.keeps.same b hb hN), fun b E n hh => k.keeps.has b E n (h.keeps.has b E n hh)⟩
 less := fun b hb x => h.less b hb ((k.less b (Nat.lt_of_lt_of_le hb h.keeps.size) (x.imp (hM b) id)).imp (fun hm => hnew b hm hb) id)
 os := k.os.trans h.os
 tape := k.tape.trans h.tape
 output := k.output.trans h.output
 loops := fun b r hr => let ⟨r', h1⟩ := h.loops b r hr; k.loops b r' h1
 nx := Nat.le_trans h.nx k.nx
 priv := fun b hm => (k.priv b (hM b hm)).trans (h.priv b hm)
theorem InD.new (h : InD M C goops main keep outs (es main.length) ss β0 s0 a0 w0 listed T blk β a w) : ∀ b, MP M main listed T blk b -> b < w0.heap.size -> M b := by
 rintro b (hm | ⟨p, d, h1, h2, h3, h4, rfl⟩) hb
 ·exact hm
 ·have := (h.pend p d h2 h1 h3 h4).1; omega
theorem InD.fixed (h : InD M C goops main keep outs (es main.length) ss β0 s0 a0 w0 listed T blk β a w) (hf : Fixed C (Live M s0 β0) w0) : Fixed C (Live (MP M main listed T blk) (ss T) β) w := fun b o hb => by
 obtain ⟨h1, h2⟩ := hf.ext h.ext b o hb
 have hlt := lt_of_block (hf b o hb).1
 exact ⟨h1, fun hx => h2 (hx.imp (fun hm => h.new b hm hlt) id)⟩
theorem InD.catch1 (S : Stat P nt keep outs goops main trail ih es ss vv vsF) (h : InD M C goops main keep outs (es main.length) ss β0 s0 a0 w0 listed T blk β a w) {d : DOp} (hT : main[T]? = some d) (hk : kEA d = true -> listed.getD d.i false = true) :
  ∃ β', InD M C goops main keep outs (es main.length) ss β0 s0 a0 w0 listed (T + 1) blk β' a w := by
 have hlt : T < main.length := (List.getElem?_eq_some_iff.1 hT).1
 have hdone : ∀ (p : Nat) (d : DOp), main[p]? = some d -> p < T + 1 -> kEA d = true -> listed.getD d.i false = true := fun p d' hp hpl hk' => by
  rcases Nat.lt_or_ge p T with h1 | h1
  ·exact h.done p d' hp h1 hk'
  ·have : p = T := by omega
   subst this; rw [hT] at hp; cases hp; exact hk hk'
 have hne : kE d = false := by
  cases he : kE d with
  | false => rfl
  | true => have h1 := h.todo T d hT (Nat.le_refl _) he; rw [hk (kE_kEA he)] at h1; cases h1
 cases ha : kA d with
 | false =>
  have hea : kEA d = false := by
   unfold kA at ha; unfold kE at hne; unfold kEA
   cases hd : d.k <;> simp only [hd] at ha hne ⊢ <;> first | rfl | (cases ha; done) | (cases hne; done)
  have hss : ss (T + 1) = ss T := S.still hT hea
  have hMP : MP M main listed (T + 1) blk = MP M main listed T blk := MP_eq (fun p d' hp hka => by
   constructor
   ·rintro ⟨h1, h2⟩; exact ⟨by omega, h2⟩
   ·rintro ⟨h1, h2⟩
    refine ⟨?_, h2⟩
    rcases Nat.eq_or_lt_of_le h1 with h3 | h3
    ·subst h3; rw [hT] at hp; cases hp; rw [ha] at hka; cases hka
    ·exact h3) (fun _ _ _ _ _ _ => rfl)
  refine ⟨β, h.mlt, h.lsz, h.closed, h.notr, hlt, hdone, fun p d' hp hle => h.todo p d' hp (by omega), ?_, ?_, fun p d' hp hle => h.pend p d' hp (by omega), fun p q d1 d2 hp hq h1 h2 => h.inj p q d1 d2 hp hq (by omega) (by omega), fun t v ht hv => ?_, h.size, h.defers, h.same⟩
  ·rw [hMP, hss]; exact h.rel
  ·rw [hss]; exact h.ext
  ·rw [hMP, hss]
   refine h.env t v ht fun p d' hp hd' => ?_
   obtain ⟨h1, h2⟩ := hv p d' hp hd'
   refine ⟨h1, fun hka => ?_⟩
   have := h2 hka
   rcases Nat.eq_or_lt_of_le (Nat.le_of_lt_succ this) with h3 | h3
   ·subst h3; rw [hT] at hp; cases hp; rw [ha] at hka; cases hka
   ·exact h3
 | true =>
  have hl := hk (kA_kEA ha)
  have hda : isA d.o.op = true /\ d.o.g = none := by
   rcases S.kind hT with ⟨h1, _⟩ | ⟨lo, hi, h1, _⟩ | ⟨h1, h2, h3, _⟩ | ⟨h1, _⟩
   ·simp [kA, h1] at ha
   ·simp [kA, h1] at ha
   ·exact ⟨h2, h3⟩
   ·simp [kA, h1] at ha
  obtain ⟨hvv, hss⟩ := S.res_a hT hda.1 hda.2
  obtain ⟨p1, ⟨cs, E, p2, p3⟩, p4⟩ := h.pend T d hT (Nat.le_refl _) ha hl
  have hM : ∀ x, MP M main listed T blk x ↔ MP M main listed (T + 1) blk x ∨ x = blk T := fun x => by
   constructor
   ·rintro (hm | ⟨p, d', h1, h2, h3, h4, h5⟩)
    ·exact .inl (.inl hm)
    ·rcases Nat.eq_or_lt_of_le h1 with h6 | h6
     ·subst h6; exact .inr h5.symm
     ·exact .inl (.inr ⟨p, d', h6, h2, h3, h4, h5⟩)
   ·rintro ((hm | ⟨p, d', h1, h2, h3, h4, h5⟩) | rfl)
    ·exact .inl hm
    ·exact .inr ⟨p, d', by omega, h2, h3, h4, h5⟩
    ·exact .inr ⟨T, d, Nat.le_refl _, hT, ha, hl, rfl⟩
  have hnot : ¬ MP M main listed (T + 1) blk (blk T) := by
   rintro (hm | ⟨p, d', h1, h2, h3, h4, h5⟩)
   ·have := h.mlt _ hm; omega
   ·have := h.inj p T d' d h2 hT (by omega) (Nat.le_refl _) h3 ha h4 hl h5; omega
  obtain ⟨r1, r2, r3⟩ := h.rel.known hM hnot p2 p3
  rw [<- hss] at r1 r3
  refine ⟨β.add (ss T).nx ⟨blk T, 0⟩, h.mlt, h.lsz, h.closed, h.notr, hlt, hdone, fun p d' hp hle => h.todo p d' hp (by omega), r1, ?_, fun p d' hp hle => h.pend p d' hp (by omega), fun p q d1 d2 hp hq h1 h2 => h.inj p q d1 d2 hp hq (by omega) (by omega), fun t v ht hv => ?_, h.size, h.defers, h.same⟩
  ·exact ⟨Bt.le_trans h.ext.le r2, h.ext.keeps, fun b hb hl' => by
    rcases hl' with hm | hal
    ·exact .inl hm
    ·have hx : Live (MP M main listed (T + 1) blk) (ss (T + 1)) (β.add (ss T).nx ⟨blk T, 0⟩) b := .inr hal
     rw [r3] at hx
     exact h.ext.less b hb (hx.imp (fun hm => h.new b hm hb) id), h.ext.os, h.ext.tape, h.ext.output, h.ext.loops, by rw [hss]; show s0.nx.toNat <= (ss T).nx.succ.toNat; rw [Ky.toNat_succ]; have := h.ext.nx; omega, h.ext.priv⟩
  ·by_cases hdt : d.o.d = some t
   ·rw [S.look_dst hT hdt, hvv] at ht
    cases ht
    rw [p4 t hdt]
    exact a_val hda.1 (by simp [Bt.add]) p2
   ·refine (h.env t v ht fun p d' hp hd' => ?_).keep r2 (fun b _ hx => (r3 b).1 hx) (Keeps.refl _ _)
    obtain ⟨h1, h2⟩ := hv p d' hp hd'
    refine ⟨h1, fun hka => ?_⟩
    have := h2 hka
    rcases Nat.eq_or_lt_of_le (Nat.le_of_lt_succ this) with h3 | h3
    ·subst h3; rw [hT] at hp; cases hp; exact absurd hd' hdt
    ·exact h3
theorem InD.catchUp (S : Stat P nt keep outs goops main trail ih es ss vv vsF) : ∀ (j T : Nat) (β : Bt), T + j = main.length -> InD M C goops main keep outs (es main.length) ss β0 s0 a0 w0 listed T blk β a w ->
  ∃ T1 β1, InD M C goops main keep outs (es main.length) ss β0 s0 a0 w0 listed T1 blk β1 a w /\ (T1 = main.length ∨ ∃ d, main[T1]? = some d /\ kEA d = true /\ listed.getD d.i false = false)
 | 0, T, β, hj, h => ⟨T, β, h, .inl (by omega)⟩
 | j + 1, T, β, hj, h => by
  have hd := List.getElem?_eq_getElem (show T < main.length by omega)
  by_cases hk : kEA main[T] = true /\ listed.getD main[T].i false = false
  ·exact ⟨T, β, h, .inr ⟨_, hd, hk.1, hk.2⟩⟩
  ·obtain ⟨β', h'⟩ := h.catch1 S hd fun he => by
    cases hl : listed.getD main[T].i false with
    | true => rfl
    | false => exact absurd ⟨he, hl⟩ hk
   exact InD.catchUp S j (T + 1) β' (by omega) h'
theorem getD_set {i j : Nat} (hi : i < listed.size) : (listed.setIfInBounds i true).getD j false = if j = i then true else listed.getD j false := by
 by_cases h : j = i
 ·subst h; simp [Array.getD_eq_getD_getElem?, hi]
 ·rw [if_neg h]; simp [Array.getD_eq_getD_getElem?, Array.getElem?_setIfInBounds_ne (Ne.symm h)]
theorem put_other {d : Option Nat} {u : Value} {t : Nat} (h : d ≠ some t) : (a.put d u).tmps.getD t Go.undef = a.tmps.getD t Go.undef := by
 cases d with
 | none => rfl
 | some d =>
  have hne : d ≠ t := fun e => h (by rw [e])
  simp [Act.put, Array.getD_eq_getD_getElem?, Array.getElem?_setIfInBounds_ne hne]
theorem InD.stepV (S : Stat P nt keep outs goops main trail ih es ss vv vsF) (h : InD M C goops main keep outs (es main.length) ss β0 s0 a0 w0 listed T blk β a w) (hnt : a0.tmps.size = nt)
  {q : Nat} {d : DOp} (hq : main[q]? = some d) (hA : kA d = false) {go : Oper} (hgo : goops[d.i]? = some go) (hco : chkO P nt keep outs goops d.o go = true) (hready : ∀ k ∈ aftersOf go, listed.getD k false = true)
  {T' : Nat} (hT' : (kE d = true /\ T = q /\ T' = T + 1) ∨ (kE d = false /\ T' = T)) {β' : Bt} {u : Value} {w' : World} (r1 : Rel (MP M main listed T blk) C β' (ss T') w') (r2 : Ext (MP M main listed T blk) β (ss T) w β' (ss T') w')
  (r3 : HR β' (Live (MP M main listed T blk) (ss T') β') w' (vv q) u) :
  InD M C goops main keep outs (es main.length) ss β0 s0 a0 w0 (listed.setIfInBounds d.i true) T' blk β' (a.put go.dst u) w' := by
 have hql : q < main.length := (List.getElem?_eq_some_iff.1 hq).1
 have hdi := S.lt q d hq
 have hsz := S.sz
 have hi : d.i < listed.size := by rw [h.lsz]; omega
 have hget := fun j => getD_set (j := j) hi
 have hother : ∀ (p : Nat) (d' : DOp), main[p]? = some d' -> p ≠ q -> d'.i ≠ d.i := fun p d' hp hne he => hne (S.inji p q d' d hp hq he)
 have hka : ∀ (p : Nat) (d' : DOp), main[p]? = some d' -> kA d' = true -> p ≠ q := fun p d' hp hk e => by subst e; rw [hq] at hp; cases hp; rw [hA] at hk; cases hk
 simp only [chkO, Bool.and_eq_true, beq_iff_eq] at hco
 obtain ⟨⟨⟨⟨hd, hlt⟩, hkp⟩, _⟩, _⟩ := hco
 have hMP : MP M main (listed.setIfInBounds d.i true) T' blk = MP M main listed T blk := MP_eq (fun p d' hp hk => by
  have hne := hka p d' hp hk
  rw [hget, if_neg (hother p d' hp hne)]
  rcases hT' with ⟨_, h1, h2⟩ | ⟨_, h2⟩
  ·constructor
   ·rintro ⟨a1, a2⟩; exact ⟨by omega, a2⟩
   ·rintro ⟨a1, a2⟩; exact ⟨by omega, a2⟩
  ·rw [h2]) (fun _ _ _ _ _ _ => rfl)
 have hTle : T <= T' := by rcases hT' with ⟨_, _, h2⟩ | ⟨_, h2⟩ <;> omega
 refine ⟨h.mlt, by simp [h.lsz], fun i o ho hl k hk => ?_, fun i him => ?_, ?_, fun p d' hp hpT hk => ?_, fun p d' hp hpT hk => ?_, ?_, ?_, fun p d' hp hpT hk hl => ?_, fun p p' d1 d2 h1 h2 h3 h4 h5 h6 h7 h8 => ?_, fun t v ht hv => ?_, (put_size' _ _).trans h.size, (put_defers' _ _).trans h.defers, fun t ht ho => (kept_put (hd ▸ hd ▸ hkp) ht ho).trans (h.same t ht ho)⟩
 ·rw [hget]
  split
  ·rfl
  ·rw [hget] at hl
   by_cases hid : i = d.i
   ·subst hid; rw [hgo] at ho; cases ho; exact hready k hk
   ·rw [if_neg hid] at hl; exact h.closed i o ho hl k hk
 ·rw [hget, if_neg (by omega)]; exact h.notr i him
 ·rcases hT' with ⟨_, h1, h2⟩ | ⟨_, h2⟩
  ·omega
  ·rw [h2]; exact h.Tle
 ·rw [hget]
  split
  ·rfl
  ·rename_i hne
   rcases hT' with ⟨_, h1, h2⟩ | ⟨_, h2⟩
   ·by_cases hpq : p = q
    ·subst hpq; rw [hq] at hp; cases hp; exact absurd rfl hne
    ·exact h.done p d' hp (by omega) hk
   ·exact h.done p d' hp (by omega) hk
 ·have hpq : p ≠ q := by
   rintro rfl
   rw [hq] at hp; cases hp
   rcases hT' with ⟨_, h1, h2⟩ | ⟨h1, h2⟩
   ·omega
   ·rw [h1] at hk; cases hk
  rw [hget, if_neg (hother p d' hp hpq)]
  exact h.todo p d' hp (by omega) hk
 ·rw [hMP]; exact r1
 ·exact h.ext.through r2 (fun b hb => .inl hb) h.new
 ·have hpq := hka p d' hp hk
  rw [hget, if_neg (hother p d' hp hpq)] at hl
  obtain ⟨a1, ⟨cs, E, a2, a3⟩, a4⟩ := h.pend p d' hp (by omega) hk hl
  refine ⟨a1, ⟨cs, E, ?_, a3⟩, fun t ht => ?_⟩
  ·rw [r2.priv (blk p) (.inr ⟨p, d', by omega, hp, hk, hl, rfl⟩)]; exact a2
  ·rw [put_other (by rw [<- hd]; exact fun e => hpq (S.dst p q d' d t hp hq ht e))]; exact a4 t ht
 ·have e1 := hka p d1 h1 h5
  have e2 := hka p' d2 h2 h6
  rw [hget, if_neg (hother p d1 h1 e1)] at h7
  rw [hget, if_neg (hother p' d2 h2 e2)] at h8
  exact fun hb => h.inj p p' d1 d2 h1 h2 (by omega) (by omega) h5 h6 h7 h8 hb
 ·rw [hMP]
  by_cases hdt : d.o.d = some t
  ·rw [S.look_dst hq hdt] at ht
   cases ht
   rw [hd] at hdt
   rw [hdt]
   have htn : t < a.tmps.size := by
    rw [hdt] at hlt
    simp only [ltd, decide_eq_true_eq] at hlt
    rw [h.size, hnt]; exact hlt
   have : (a.put (some t) u).tmps.getD t Go.undef = u := by simp [Act.put, Array.getD_eq_getD_getElem?, htn]
   rw [this]; exact r3
  ·rw [put_other (by rw [<- hd]; exact hdt)]
   refine (h.env t v ht fun p d' hp hd' => ?_).ext r2
   obtain ⟨b1, b2⟩ := hv p d' hp hd'
   have hpq : p ≠ q := by rintro rfl; rw [hq] at hp; cases hp; exact hdt hd'
   rw [hget, if_neg (hother p d' hp hpq)] at b1
   refine ⟨b1, fun hk => ?_⟩
   have := b2 hk
   rcases hT' with ⟨_, h1, h2⟩ | ⟨_, h2⟩ <;> omega
theorem InD.stepA (S : Stat P nt keep outs goops main trail ih es ss vv vsF) (h : InD M C goops main keep outs (es main.length) ss β0 s0 a0 w0 listed T blk β a w) (hnt : a0.tmps.size = nt)
  {q : Nat} {d : DOp} (hq : main[q]? = some d) (hun : listed.getD d.i false = false) (hA : kA d = true) {go : Oper} (hgo : goops[d.i]? = some go) (hco : chkO P nt keep outs goops d.o go = true) (hready : ∀ k ∈ aftersOf go, listed.getD k false = true)
  {cs : Array Value} {E : TypeId} (hcs : ACells d.o.op cs) :
  InD M C goops main keep outs (es main.length) ss β0 s0 a0 w0 (listed.setIfInBounds d.i true) T (fun p => if p = q then w.heap.size else blk p) β (a.put go.dst (aGo d.o.op w.heap.size)) { w with heap := w.heap.push (.cells cs E) } := by
 have hql : q < main.length := (List.getElem?_eq_some_iff.1 hq).1
 have hdi := S.lt q d hq
 have hsz := S.sz
 have hi : d.i < listed.size := by rw [h.lsz]; omega
 have hget := fun j => getD_set (j := j) hi
 have hother : ∀ (p : Nat) (d' : DOp), main[p]? = some d' -> p ≠ q -> d'.i ≠ d.i := fun p d' hp hne he => hne (S.inji p q d' d hp hq he)
 have hTq : T <= q := by
  rcases Nat.lt_or_ge q T with h1 | h1
  ·have := h.done q d hq h1 (kA_kEA hA); rw [hun] at this; cases this
  ·exact h1
 simp only [chkO, Bool.and_eq_true, beq_iff_eq] at hco
 obtain ⟨⟨⟨⟨hd, hlt⟩, hkp⟩, _⟩, _⟩ := hco
 have hM : ∀ x, MP M main (listed.setIfInBounds d.i true) T (fun p => if p = q then w.heap.size else blk p) x ↔ MP M main listed T blk x ∨ x = w.heap.size := fun x => by
  constructor
  ·rintro (hm | ⟨p, d', h1, h2, h3, h4, h5⟩)
   ·exact .inl (.inl hm)
   ·have h5 : (if p = q then w.heap.size else blk p) = x := h5
    by_cases hpq : p = q
    ·subst hpq; rw [if_pos rfl] at h5; exact .inr h5.symm
    ·rw [if_neg hpq] at h5
     rw [hget, if_neg (hother p d' h2 hpq)] at h4
     exact .inl (.inr ⟨p, d', h1, h2, h3, h4, h5⟩)
  ·rintro ((hm | ⟨p, d', h1, h2, h3, h4, h5⟩) | rfl)
   ·exact .inl hm
   ·have hpq : p ≠ q := by rintro rfl; rw [hq] at h2; cases h2; rw [hun] at h4; cases h4
    exact .inr ⟨p, d', h1, h2, h3, by rw [hget, if_neg (hother p d' h2 hpq)]; exact h4, by simp only [if_neg hpq]; exact h5⟩
   ·exact .inr ⟨q, d, hTq, hq, hA, by rw [hget, if_pos rfl], by simp⟩
 obtain ⟨r1, r2⟩ := h.rel.unknown hM (.cells cs E)
 have hpush : Ext (MP M main listed T blk) β (ss T) w β (ss T) { w with heap := w.heap.push (.cells cs E) } := Ext.push h.rel.mlt β (ss T) _
 refine ⟨h.mlt, by simp [h.lsz], fun i o ho hl k hk => ?_, fun i him => ?_, h.Tle, fun p d' hp hpT hk => ?_, fun p d' hp hpT hk => ?_, r1, ?_, fun p d' hp hpT hk hl => ?_, fun p p' d1 d2 h1 h2 h3 h4 h5 h6 h7 h8 hb => ?_, fun t v ht hv => ?_, (put_size' _ _).trans h.size, (put_defers' _ _).trans h.defers, fun t ht ho => (kept_put hkp ht ho).trans (h.same t ht ho)⟩
 ·rw [hget]
  split
  ·rfl
  ·rw [hget] at hl
   by_cases hid : i = d.i
   ·subst hid; rw [hgo] at ho; cases ho; exact hready k hk
   ·rw [if_neg hid] at hl; exact h.closed i o ho hl k hk
 ·rw [hget, if_neg (by omega)]; exact h.notr i him
 ·rw [hget]
  split
  ·rfl
  ·exact h.done p d' hp hpT hk
 ·have hpq : p ≠ q := by
   rintro rfl
   rw [hq] at hp; cases hp
   unfold kA at hA; unfold kE at hk
   cases hdk : d.k <;> simp only [hdk] at hA hk <;> first | (cases hA; done) | (cases hk; done)
  rw [hget, if_neg (hother p d' hp hpq)]
  exact h.todo p d' hp hpT hk
 ·exact h.ext.through hpush (fun b hb => .inl hb) h.new
 ·by_cases hpq : p = q
  ·subst hpq
   rw [hq] at hp; cases hp
   refine ⟨by simp only [if_true]; exact h.ext.keeps.size, ⟨cs, E, ?_, hcs⟩, fun t ht => ?_⟩
   ·simp only [if_true]; show (w.heap.push _)[w.heap.size]? = _; simp
   ·simp only [if_true]
    rw [hd] at ht
    rw [ht]
    have htn : t < a.tmps.size := by
     rw [ht] at hlt
     simp only [ltd, decide_eq_true_eq] at hlt
     rw [h.size, hnt]; exact hlt
    simp [Act.put, Array.getD_eq_getD_getElem?, htn]
  ·rw [hget, if_neg (hother p d' hp hpq)] at hl
   obtain ⟨a1, ⟨cs', E', a2, a3⟩, a4⟩ := h.pend p d' hp hpT hk hl
   simp only [if_neg hpq]
   refine ⟨a1, ⟨cs', E', ?_, a3⟩, fun t ht => ?_⟩
   ·rw [heap_push w _ (lt_of_block a2)]; exact a2
   ·rw [put_other (by rw [<- hd]; exact fun e => hpq (S.dst p q d' d t hp hq ht e))]; exact a4 t ht
 ·have key : ∀ (p : Nat) (d' : DOp), main[p]? = some d' -> T <= p -> kA d' = true -> (listed.setIfInBounds d.i true).getD d'.i false = true -> p ≠ q -> blk p < w.heap.size /\ listed.getD d'.i false = true := fun p d' hp hpT hk hl hpq => by
   rw [hget, if_neg (hother p d' hp hpq)] at hl
   obtain ⟨a1, ⟨cs', E', a2, a3⟩, a4⟩ := h.pend p d' hp hpT hk hl
   exact ⟨lt_of_block a2, hl⟩
  by_cases e1 : p = q
  ·by_cases e2 : p' = q
   ·omega
   ·have := (key p' d2 h2 h4 h6 h8 e2).1
    simp only [if_pos e1, if_neg e2] at hb; omega
  ·by_cases e2 : p' = q
   ·have := (key p d1 h1 h3 h5 h7 e1).1
    simp only [if_neg e1, if_pos e2] at hb; omega
   ·simp only [if_neg e1, if_neg e2] at hb
    exact h.inj p p' d1 d2 h1 h2 h3 h4 h5 h6 (key p d1 h1 h3 h5 h7 e1).2 (key p' d2 h2 h4 h6 h8 e2).2 hb
 ·have hdt : d.o.d ≠ some t := fun hdt => by have := (hv q d hq hdt).2 hA; omega
  rw [put_other (by rw [<- hd]; exact hdt)]
  refine (h.env t v ht fun p d' hp hd' => ?_).keep (Bt.le_refl _) r2 hpush.keeps
  obtain ⟨b1, b2⟩ := hv p d' hp hd'
  have hpq : p ≠ q := by rintro rfl; rw [hq] at hp; cases hp; exact hdt hd'
  rw [hget, if_neg (hother p d' hp hpq)] at b1
  exact ⟨b1, b2⟩
end draw
noncomputable def En.only (p : Nat -> Prop) : En -> En
 | .nil => .nil
 | .cons n v r => open Classical in if p n then .cons n v (r.only p) else r.only p
theorem look_only (p : Nat -> Prop) (t : Nat) : ∀ e : En, (p t -> look (e.only p) t = look e t) /\ (¬ p t -> look (e.only p) t = none)
 | .nil => ⟨fun _ => rfl, fun _ => rfl⟩
 | .cons n v r => by
  obtain ⟨h1, h2⟩ := look_only p t r
  unfold En.only
  by_cases hn : p n
  ·rw [if_pos hn]
   simp only [look_cons]
   refine ⟨fun ht => ?_, fun ht => ?_⟩
   ·rw [h1 ht]
   ·rw [h2 ht, if_neg (fun e : n = t => ht (e ▸ hn))]
  ·rw [if_neg hn]
   simp only [look_cons]
   refine ⟨fun ht => ?_, fun ht => h2 ht⟩
   rw [if_neg (fun e : n = t => hn (e ▸ ht))]; exact h1 ht
section draw
variable {M : Nat -> Prop} {C : CRel} {P : Program} {nt : Nat} {keep outs : List Nat} {goops : Array Oper} {main : List DOp} {trail : List HOper} {ih : Task -> Out} {es : Nat -> En} {ss : Nat -> HS} {vv : Nat -> HV} {vsF : List HS}
 {β0 : Bt} {s0 : HS} {e0 : En} {a0 : Act} {w0 : World}
theorem drawB (hi : SoundI C P ih) (S : Stat P nt keep outs goops main trail ih es ss vv vsF) (ro : Option Nat) (hnt : a0.tmps.size = nt) {K : En -> HS -> Out} {x : Ex} {e2 : En} {s2 : HS} {Q : Exit -> Act -> World -> Prop}
  (fin : ∀ β e a s w, K e s = .code x e2 s2 -> InR M C keep outs ro β0 s0 e0 a0 w0 β s e a w -> Q .normal a w) :
  ∀ (fuel k : Nat) (listed : Array Bool) (β : Bt) (s : HS) (e : En) (a : Act) (w : World), trail.length - k <= fuel -> k <= trail.length -> listed.size = goops.size -> (∀ i, i < goops.size -> (listed.getD i false = true ↔ i < main.length + k)) ->
   chkL P nt keep outs goops (trail.drop k) (goops.toList.drop (main.length + k)) = true -> ops ih K (trail.drop k) e s = .code x e2 s2 -> InR M C keep outs ro β0 s0 e0 a0 w0 β s e a w ->
   wpAnyIn (FW ro) 0 P .any goops Q fuel listed a w := by
 have hsz := S.sz
 have hready : ∀ (k : Nat) (listed : Array Bool), k <= trail.length -> listed.size = goops.size -> (∀ i, i < goops.size -> (listed.getD i false = true ↔ i < main.length + k)) -> ∀ i, i ∈ Region.ready .any goops listed ↔ i = main.length + k /\ k < trail.length := by
  intro k listed hk hls hl i
  rw [ready_iff hls]
  constructor
  ·rintro ⟨o, ho, h1, h2⟩
   have his : i < goops.size := (Array.getElem?_eq_some_iff.1 ho).1
   have hge : main.length + k <= i := by
    rcases Nat.lt_or_ge i (main.length + k) with h | h
    ·rw [(hl i his).2 h] at h1; cases h1
    ·exact h
   have hkt : k < trail.length := by omega
   refine ⟨?_, hkt⟩
   rcases Nat.eq_or_lt_of_le hge with h | h
   ·exact h.symm
   ·have hD : ∀ i o, goops[i]? = some o -> listed.getD i false = true -> ∀ j ∈ aftersOf o, listed.getD j false = true := by
     intro i' o' ho' hli' j hj
     have hi's : i' < goops.size := (Array.getElem?_eq_some_iff.1 ho').1
     have haok := S.aok
     simp only [aftersOk, List.all_eq_true, List.mem_range] at haok
     have := haok i' hi's
     rw [ho'] at this
     simp only [List.all_eq_true, decide_eq_true_eq] at this
     have hj' := this j hj
     exact (hl j (by omega)).2 (by have := (hl i' hi's).1 hli'; omega)
    have := clos_spec S.aok (D := fun j => listed.getD j false = true) hD i o ho h2 (main.length + k) (by
     obtain ⟨k', rfl⟩ : ∃ k', i = main.length + k' := ⟨i - main.length, by omega⟩
     exact S.tcl k' (by omega) (main.length + k) (by omega))
    have := (hl _ (by omega)).1 this
    omega
  ·rintro ⟨rfl, hkt⟩
   have his : main.length + k < goops.size := by omega
   refine ⟨goops[main.length + k], Array.getElem?_eq_getElem his, ?_, fun j hj => ?_⟩
   ·cases hc : listed.getD (main.length + k) false with
    | false => rfl
    | true => have := (hl _ his).1 hc; omega
   ·have haok := S.aok
    simp only [aftersOk, List.all_eq_true, List.mem_range] at haok
    have := haok _ his
    rw [Array.getElem?_eq_getElem his] at this
    simp only [List.all_eq_true, decide_eq_true_eq] at this
    have hj' := this j hj
    exact (hl j (by omega)).2 hj'
 have hend : ∀ (k : Nat) (listed : Array Bool) (β : Bt) (s : HS) (e : En) (a : Act) (w : World), k <= trail.length -> listed.size = goops.size -> (∀ i, i < goops.size -> (listed.getD i false = true ↔ i < main.length + k)) ->
   ops ih K (trail.drop k) e s = .code x e2 s2 -> InR M C keep outs ro β0 s0 e0 a0 w0 β s e a w -> Region.ready .any goops listed = [] -> Q .normal a w := by
  intro k listed β s e a w hk hls hl hops hin hr
  have : k = trail.length := by
   rcases Nat.eq_or_lt_of_le hk with h | h
   ·exact h
   ·have := (hready k listed hk hls hl (main.length + k)).2 ⟨rfl, h⟩
    rw [hr] at this; cases this
  rw [this, List.drop_length] at hops
  exact fin β e a s w hops hin
 intro fuel
 induction fuel with
 | zero =>
  intro k listed β s e a w hf hk hls hl _ hops hin
  have hnil : Region.ready .any goops listed = [] := by
   apply List.eq_nil_iff_forall_not_mem.2
   intro i him
   have := (hready k listed hk hls hl i).1 him
   omega
  exact ⟨hnil, hend k listed β s e a w hk hls hl hops hin hnil⟩
 | succ fuel ihf =>
  intro k listed β s e a w hf hk hls hl hcl hops hin
  refine ⟨hend k listed β s e a w hk hls hl hops hin, fun i him => ?_⟩
  obtain ⟨rfl, hkt⟩ := (hready k listed hk hls hl i).1 him
  have his : main.length + k < goops.toList.length := by simp; omega
  rw [List.drop_eq_getElem_cons hkt] at hops
  rw [List.drop_eq_getElem_cons hkt, List.drop_eq_getElem_cons his] at hcl
  simp only [chkL, Bool.and_eq_true] at hcl
  obtain ⟨hco, hcl⟩ := hcl
  have hgo : goops[main.length + k]? = some goops.toList[main.length + k] := by rw [<- Array.getElem?_toList]; exact List.getElem?_eq_getElem his
  generalize goops.toList[main.length + k] = go at hco hgo
  simp only [chkO, Bool.and_eq_true, beq_iff_eq] at hco
  obtain ⟨⟨⟨⟨hd, hlt⟩, hkp⟩, hop⟩, hg⟩ := hco
  obtain ⟨v, s', h1, h2⟩ := one_code (K := ops ih K (trail.drop (k + 1))) hops
  unfold wpOpIn
  simp only [hgo]
  refine op_sound hi ro (goops := goops) hop hg hin.rel hin.fix hin.env h1 (Q := Q) fun β' u w' r1 r2 r3 => ?_
  rw [hd] at h2
  have hls' : main.length + k < listed.size := by rw [hls]; simpa using his
  refine ihf (k + 1) _ β' s' _ _ w' (by omega) (by omega) (by simp [hls]) (fun j hj => ?_) (by rw [<- Nat.add_assoc]; exact hcl) h2 (hin.step hnt hlt hkp r1 r2 r3)
  rw [getD_set hls']
  split
  ·rename_i e; subst e; exact ⟨fun _ => by omega, fun _ => rfl⟩
  ·rename_i hne; rw [hl j hj]; omega
theorem Stat.had (S : Stat P nt keep outs goops main trail ih es ss vv vsF) : ∀ p, p <= main.length -> ∀ t, (look (es 0) t).isSome = true -> (look (es p) t).isSome = true
 | 0, _, _, h => h
 | p + 1, hp, t, h => by
  have hd := List.getElem?_eq_getElem (show p < main.length by omega)
  rw [(S.step p _ hd).2, look_put]
  split
  ·rfl
  ·exact S.had p (by omega) t h
theorem drawA (hi : SoundI C P ih) (S : Stat P nt keep outs goops main trail ih es ss vv vsF) (ro : Option Nat) (hnt : a0.tmps.size = nt) (hf0 : Fixed C (Live M s0 β0) w0) (he0 : es 0 = e0) {K : En -> HS -> Out} {x : Ex} {e2 : En} {s2 : HS} {Q : Exit -> Act -> World -> Prop}
  (fin : ∀ β e a s w, K e s = .code x e2 s2 -> InR M C keep outs ro β0 s0 e0 a0 w0 β s e a w -> Q .normal a w) (hops : ops ih K trail (es main.length) (ss main.length) = .code x e2 s2) :
  ∀ (fuel : Nat) (rest : List Nat) (listed : Array Bool) (T : Nat) (blk : Nat -> Nat) (β : Bt) (a : Act) (w : World), rest.length + trail.length <= fuel -> (∀ i, i < main.length -> listed.getD i false = false -> i ∈ rest) ->
   InD M C goops main keep outs (es main.length) ss β0 s0 a0 w0 listed T blk β a w -> wpAnyIn (FW ro) 0 P .any goops Q fuel listed a w := by
 have hsz := S.sz
 intro fuel
 induction fuel with
 | zero =>
  intro rest listed T blk β a w hf hrest h
  have hr : rest = [] := List.eq_nil_of_length_eq_zero (by omega)
  obtain ⟨T1, β1, h1, hst⟩ := InD.catchUp S (main.length - T) T β (by have := h.Tle; omega) h
  have hall : ∀ i, i < main.length -> listed.getD i false = true := fun i him => by
   cases hl : listed.getD i false with
   | true => rfl
   | false => have := hrest i him hl; rw [hr] at this; cases this
  have hT : T1 = main.length := by
   rcases hst with h2 | ⟨d, h2, _, h3⟩
   ·exact h2
   ·rw [hall d.i (S.lt T1 d h2)] at h3; cases h3
  subst hT
  have hMP : MP M main listed main.length blk = M := by
   funext b
   refine propext ⟨?_, .inl⟩
   rintro (hm | ⟨p, d, h2, h3, _⟩)
   ·exact hm
   ·have := (List.getElem?_eq_some_iff.1 h3).1; omega
  have hrel := h1.rel
  have henv := h1.env
  rw [hMP] at hrel henv
  refine drawB hi S ro hnt fin 0 0 listed β1 (ss main.length) (es main.length) a w (by omega) (Nat.zero_le _) h1.lsz (fun i _ => ⟨fun hl => ?_, fun hl => hall i (by omega)⟩) S.trl hops ⟨hrel, hf0.ext h1.ext, fun t v ht => henv t v ht fun p d hp _ => ⟨hall d.i (S.lt p d hp), fun _ => (List.getElem?_eq_some_iff.1 hp).1⟩, h1.ext, h1.size, h1.defers, h1.same, fun t ht => S.had main.length (Nat.le_refl _) t (he0 ▸ ht)⟩
  rcases Nat.lt_or_ge i main.length with h2 | h2
  ·omega
  ·rw [h1.notr i h2] at hl; cases hl
 | succ fuel ihf =>
  intro rest listed T blk β a w hf hrest h
  by_cases hall : ∀ i, i < main.length -> listed.getD i false = true
  ·obtain ⟨T1, β1, h1, hst⟩ := InD.catchUp S (main.length - T) T β (by have := h.Tle; omega) h
   have hT : T1 = main.length := by
    rcases hst with h2 | ⟨d, h2, _, h3⟩
    ·exact h2
    ·rw [hall d.i (S.lt T1 d h2)] at h3; cases h3
   subst hT
   have hMP : MP M main listed main.length blk = M := by
    funext b
    refine propext ⟨?_, .inl⟩
    rintro (hm | ⟨p, d, h2, h3, _⟩)
    ·exact hm
    ·have := (List.getElem?_eq_some_iff.1 h3).1; omega
   have hrel := h1.rel
   have henv := h1.env
   rw [hMP] at hrel henv
   refine drawB hi S ro hnt fin (fuel + 1) 0 listed β1 (ss main.length) (es main.length) a w (by omega) (Nat.zero_le _) h1.lsz (fun i _ => ⟨fun hl => ?_, fun hl => hall i (by omega)⟩) S.trl hops ⟨hrel, hf0.ext h1.ext, fun t v ht => henv t v ht fun p d hp _ => ⟨hall d.i (S.lt p d hp), fun _ => (List.getElem?_eq_some_iff.1 hp).1⟩, h1.ext, h1.size, h1.defers, h1.same, fun t ht => S.had main.length (Nat.le_refl _) t (he0 ▸ ht)⟩
   rcases Nat.lt_or_ge i main.length with h2 | h2
   ·omega
   ·rw [h1.notr i h2] at hl; cases hl
  ·
   have haok := S.aok
   simp only [aftersOk, List.all_eq_true, List.mem_range] at haok
   have hex : ∃ i, i < main.length /\ listed.getD i false = false /\ ∀ j, j < i -> listed.getD j false = true := by
    have hne : ∃ i, i < main.length /\ listed.getD i false = false := by
     apply Classical.byContradiction
     intro hno
     refine hall fun i him => ?_
     cases hl : listed.getD i false with
     | true => rfl
     | false => exact absurd ⟨i, him, hl⟩ hno
    obtain ⟨i0, hi0, hl0⟩ := hne
    induction i0 using Nat.strongRecOn with
    | _ i0 ih0 =>
     by_cases hlow : ∃ j, j < i0 /\ listed.getD j false = false
     ·obtain ⟨j, hj, hlj⟩ := hlow
      exact ih0 j hj (by omega) hlj
     ·refine ⟨i0, hi0, hl0, fun j hj => ?_⟩
      cases hl : listed.getD j false with
      | true => rfl
      | false => exact absurd ⟨j, hj, hl⟩ hlow
   obtain ⟨i0, hi0, hl0, hbelow⟩ := hex
   have hin0 : i0 ∈ Region.ready .any goops listed := by
    rw [ready_iff h.lsz]
    have his : i0 < goops.size := by omega
    refine ⟨goops[i0], Array.getElem?_eq_getElem his, hl0, fun k hk => hbelow k ?_⟩
    have := haok i0 his
    rw [Array.getElem?_eq_getElem his] at this
    simp only [List.all_eq_true, decide_eq_true_eq] at this
    exact this k hk
   refine ⟨fun hnil => (by rw [hnil] at hin0; cases hin0), fun i him => ?_⟩
   obtain ⟨go, hgo, hun, haft⟩ := (ready_iff h.lsz).1 him
   have hcl : ∀ j, inCl (closOf goops) i j = true -> listed.getD j false = true := clos_spec S.aok (D := fun j => listed.getD j false = true) h.closed i go hgo haft
   have him' : i < main.length := by
    rcases Nat.lt_or_ge i main.length with h1 | h1
    ·exact h1
    ·have his : i < goops.size := (Array.getElem?_eq_some_iff.1 hgo).1
     obtain ⟨k', rfl⟩ : ∃ k', i = main.length + k' := ⟨i - main.length, by omega⟩
     rw [hcl i0 (S.tcl k' (by omega) i0 (by omega))] at hl0; cases hl0
   obtain ⟨q, d, hq, rfl⟩ := S.surj i him'
   obtain ⟨T1, β1, h1, hst⟩ := InD.catchUp S (main.length - T) T β (by have := h.Tle; omega) h
   obtain ⟨go', hgo', hco⟩ := S.op q d hq
   rw [hgo] at hgo'; cases hgo'
   have hco' := hco
   simp only [chkO, Bool.and_eq_true, beq_iff_eq] at hco'
   obtain ⟨⟨⟨⟨hd, hlt⟩, hkp⟩, hop⟩, hg⟩ := hco'
   have hmem := hrest d.i him' hun
   have hrest' : ∀ j, j < main.length -> (listed.setIfInBounds d.i true).getD j false = false -> j ∈ rest.erase d.i := fun j hj hlj => by
    rw [getD_set (by rw [h.lsz]; omega)] at hlj
    split at hlj
    ·cases hlj
    ·rename_i hne; exact (List.mem_erase_of_ne hne).2 (hrest j hj hlj)
   have hlen : (rest.erase d.i).length + trail.length <= fuel := by
    rw [List.length_erase_of_mem hmem]
    have := List.length_pos_of_mem hmem
    omega
   unfold wpOpIn
   simp only [hgo]
   have hTlt : ∀ (p : Nat) (b : DOp), main[p]? = some b -> (∀ (p' : Nat) (c : DOp), main[p']? = some c -> p' <= p -> kEA c = true -> listed.getD c.i false = true) -> p < T1 := fun p b hp hle => by
    rcases Nat.lt_or_ge p T1 with h2 | h2
    ·exact h2
    ·rcases hst with h3 | ⟨c, h3, h4, h5⟩
     ·have := (List.getElem?_eq_some_iff.1 hp).1; omega
     ·rw [hle T1 c h3 h2 h4] at h5; cases h5
   have hvalid : ∀ t ∈ rdO d.o, Valid main listed T1 t := fun t ht p b hp hb => by
    obtain ⟨g1, g2, g3⟩ := S.read_pos hq ht hp hb
    exact ⟨hcl _ g2, fun hk => hTlt p b hp fun p' c hp' hle hc => hcl _ (g3 hk p' c hp' hle hc)⟩
   have he : EnvV β1 (Live (MP M main listed T1 blk) (ss T1) β1) w ((es main.length).only (Valid main listed T1)) a := fun t v ht => by
    by_cases hv : Valid main listed T1 t
    ·rw [(look_only _ t _).1 hv] at ht; exact h1.env t v ht hv
    ·rw [(look_only _ t _).2 hv] at ht; cases ht
   have hres : ∀ s, res1 ih d.o ((es main.length).only (Valid main listed T1)) s = res1 ih d.o (es main.length) s := fun s => res1_congr (fun t ht => (look_only _ t _).1 (hvalid t ht)) s
   rcases S.kind hq with ⟨hk, hr⟩ | ⟨lo, hi', hk, hl, hlo, hhi⟩ | ⟨hk, ha, hgn, t, hdt⟩ | ⟨hk, hbe⟩
   ·have hA : kA d = false := by simp [kA, hk]
    have hE : kE d = false := by simp [kE, hk]
    refine op_sound hi ro (goops := goops) hop hg h1.rel (h1.fixed hf0) he ((hres _).trans (S.res_r hq hr (ss T1))) (Q := Q) fun β' u w' r1 r2 r3 => ?_
    exact ihf _ _ T1 blk β' _ w' hlen hrest' (h1.stepV S hnt hq hA hgo hco haft (.inr ⟨hE, rfl⟩) r1 r2 r3)
   ·have hA : kA d = false := by simp [kA, hk]
    have hE : kE d = false := by simp [kE, hk]
    have hb1 : lo <= cnt main T1 := by
     rcases hlo with h2 | ⟨p, b, g1, g2, g3, g4⟩
     ·omega
     ·have hlb := hcl _ g3
      have : p < T1 := by
       rcases Nat.lt_or_ge p T1 with h3 | h3
       ·exact h3
       ·rw [h1.todo p b g1 h3 g2] at hlb; cases hlb
      have := cnt_mono main (show p + 1 <= T1 by omega)
      omega
    have hb2 : cnt main T1 <= hi' := by
     rcases hhi with h2 | ⟨p, b, g1, g2, g3, g4⟩
     ·have := cnt_mono main h1.Tle; omega
     ·have : T1 <= p := by
       rcases Nat.lt_or_ge p T1 with h3 | h3
       ·have hlb := h1.done p b g1 h3 (kE_kEA g2)
        obtain ⟨gb, hgb, _⟩ := S.op p b g1
        have := clos_spec S.aok (D := fun j => listed.getD j false = true) h.closed b.i gb hgb (h.closed b.i gb hgb hlb) d.i g3
        rw [hun] at this; cases this
       ·exact h3
      have := cnt_mono main this
      omega
    refine op_sound hi ro (goops := goops) hop hg h1.rel (h1.fixed hf0) he ((hres _).trans (S.res_l hq hk hl h1.Tle hb1 hb2)) (Q := Q) fun β' u w' r1 r2 r3 => ?_
    exact ihf _ _ T1 blk β' _ w' hlen hrest' (h1.stepV S hnt hq hA hgo hco haft (.inr ⟨hE, rfl⟩) r1 r2 r3)
   ·have hA : kA d = true := by simp [kA, hk]
    obtain ⟨cs, hcs, hrun⟩ := a_run (P := P) ha hop
    obtain ⟨E, hrun⟩ := hrun a w
    have hw : Region.wanted go (yielded goops a.tmps) = true := wants_sound (e := .nil) (β := β1) (w := w) (N := fun _ => False) hg (fun t v ht => by cases ht) (by rw [hgn]; rfl)
    rw [hw, if_pos rfl]
    refine ⟨fun _ _ => trivial, ?_⟩
    rw [Oper.semAt_eq _ _ _ (chkOp_defer hop (fun hb => by rw [hb] at ha; cases ha) (fun y hb => by rw [hb] at ha; cases ha)), hrun]
    exact ihf _ _ T1 _ β1 _ _ hlen hrest' (h1.stepA S hnt hq hun hA hgo hco haft hcs)
   ·have hA : kA d = false := by simp [kA, hk]
    have hE : kE d = true := by simp [kE, hk]
    have hTq : T1 = q := by
     have hle : T1 <= q := by
      rcases Nat.lt_or_ge q T1 with h3 | h3
      ·rw [h1.done q d hq h3 (kE_kEA hE)] at hun; cases hun
      ·exact h3
     rcases Nat.eq_or_lt_of_le hle with h3 | h3
     ·exact h3
     ·rcases hst with h4 | ⟨c, h4, h5, h6⟩
      ·have := (List.getElem?_eq_some_iff.1 hq).1; omega
      ·rw [hcl _ (hbe T1 c h4 h3 h5)] at h6; cases h6
    subst hTq
    refine op_sound hi ro (goops := goops) hop hg h1.rel (h1.fixed hf0) he ((hres _).trans (S.res_e hq)) (Q := Q) fun β' u w' r1 r2 r3 => ?_
    exact ihf _ _ (T1 + 1) blk β' _ w' hlen hrest' (h1.stepV S hnt hq hA hgo hco haft (.inl ⟨hE, rfl, rfl⟩) r1 r2 r3)
theorem rgd_sound (hi : SoundI C P ih) (hm : P.follows .mixedOrders = true) {id : Nat} (hc : chkD P nt keep outs goops main trail = true) (hsub : subL outs keep = true) {e : En} {s : HS} {x : Ex} {e' : En} {s' : HS}
  (h : evD ih outs main trail e s = .code x e' s') : CodeS C P nt keep (.region id goops true) e s x e' s' := by
 intro M ro lo β a w hat
 obtain ⟨es, ss, vv, vsF, a1, a2, a3, a4, a5, a6⟩ := opsD_code _ _ _ _ h
 cases hcr : chkReads (es main.length) vsF main with
 | false => rw [hcr] at a3; cases a3
 | true =>
  rw [hcr] at a3
  have S : Stat P nt keep outs goops main trail ih es ss vv vsF := Stat.mk' hc a4 (by rw [a5 0 (by simp), <- a2]; rfl) (fun p d hp hk => a6 p d hp hk) hcr
  have hdr : ({ w with drawn := w.drawn + 1 } : World).heap = w.heap := rfl
  have hrel := hat.rel.drawn hdr
  have hext : Ext M β s w β s { w with drawn := w.drawn + 1 } := Ext.drawn hdr rfl rfl rfl
  have hat' := hat.later hrel hext
  have hsz := S.sz
  refine wpIn_region_any hm ?_
  have hmono : ∀ (F : Fence) (fuel : Nat) (listed : Array Bool) (a : Act) (w : World), True := fun _ _ _ _ _ => trivial
  refine drawA hi S ro (β0 := β) (s0 := s) (e0 := e) (a0 := a) (w0 := { w with drawn := w.drawn + 1 }) (M := M) (keep := keep) (outs := outs) hat.size hat'.fix a1
   (K := fun e' s'' => .code .normal (flush outs e' e) s'') (fun β' e1 a' s1 w' hK hin => ?_) a3 goops.size (List.range main.length) _ 0 (fun _ => 0) β a _ (by simp; omega) (fun i hi _ => by simpa using hi) ?_
  ·cases hK
   exact ⟨rfl, β', hin.done hat' hsub, hext.trans hin.ext⟩
  ·have hget : ∀ i, (Array.replicate goops.size false).getD i false = false := fun i => by
    simp only [Array.getD_eq_getD_getElem?, Array.getElem?_replicate]
    split <;> rfl
   have hMP : MP M main (Array.replicate goops.size false) 0 (fun _ => 0) = M := by
    funext b
    refine propext ⟨?_, .inl⟩
    rintro (hm | ⟨p, d, _, _, _, h4, _⟩)
    ·exact hm
    ·rw [hget] at h4; cases h4
   refine ⟨fun b hb => hrel.mlt b hb, by simp, fun i o ho hl => ?_, fun i _ => hget i, Nat.zero_le _, fun p d _ hp => by omega, fun p d hp _ _ => hget _, ?_, ?_, fun p d hp _ _ hl => ?_, fun p q d d' _ _ _ _ _ _ hl => ?_, fun t v ht hv => ?_, rfl, rfl, fun _ _ _ => rfl⟩
   ·rw [hget] at hl; cases hl
   ·rw [hMP, a2]; exact hrel
   ·rw [a2]; exact Ext.refl _ _ _
   ·rw [hget] at hl; cases hl
   ·rw [hget] at hl; cases hl
   ·rw [hMP, a2]
    rw [S.look_late main.length 0 (by omega) (fun r d _ hr hd => by have := (hv r d hr hd).1; rw [hget] at this; cases this), a1] at ht
    exact (hat'.env t v ht).2
end draw
theorem HR.cong {β : Bt} {N : Nat -> Prop} {w w' : World} (hc : ∀ b k v, cellAt w b k = some v -> cellAt w' b k = some v) (hh : ∀ b E n, HasE w b E n -> HasE w' b E n) (hs : w.heap.size <= w'.heap.size) {v : HV} {u : Value} (h : HR β N w v u) : HR β N w' v u := by
 induction h with
 | int k n => exact .int k n
 | bool b => exact .bool b
 | str s => exact .str s
 | nils => exact .nils
 | nilp => exact .nilp
 | nilf => exact .nilf
 | nilm => exact .nilm
 | nili => exact .nili
 | undef => exact .undef
 | ptr o k pl h hk' => exact .ptr o k pl h hk'
 | sl o off len sz cap n pl h hs hl hb hc => exact .sl o off len sz cap n pl h hs hl (let ⟨E, hE⟩ := hb; ⟨E, hh _ _ _ hE⟩) hc
 | sl0 o off sz b k => exact .sl0 o off sz b k
 | mp o pl h => exact .mp o pl h
 | fn f fi ca fs cps h1 h2 _ _ ih3 ih4 => exact .fn f fi ca fs cps h1 h2 ih3 ih4
 | yld l pl h => exact .yld l pl h
 | agg l cs h0 h1 _ ih => exact .agg l cs h0 h1 ih
 | tup l cs h1 _ ih => exact .tup l cs h1 ih
 | psl0 A cap hn => exact .psl0 A cap hn
 | psl els b o cap sz g hNb hlt hcap hsz h0 hcl hv ih =>
  exact .psl els b o cap sz g hNb (Nat.lt_of_lt_of_le hlt hs) hcap hsz h0 (fun i j hi hj => hc _ _ _ (hcl i j hi hj)) ih
 | pptr cells b o g h0 hNb hlt hcl hv ih => exact .pptr cells b o g h0 hNb (Nat.lt_of_lt_of_le hlt hs) (fun j hj => hc _ _ _ (hcl j hj)) ih
theorem setB_cell {w : World} {b : Nat} {o o' : Obj} (h : w.heap[b]? = some o) (h1 : notCells o = true) (x k : Nat) (v : Value) (hv : cellAt w x k = some v) : cellAt (setB w b o') x k = some v := by
 by_cases hx : x = b
 ·subst hx
  simp only [cellAt, World.cell?, h] at hv
  cases o <;> first | (cases h1; done) | (cases hv; done)
 ·rw [cellAt_congr (setB_other w o' hx)]; exact hv
section dead
variable {M : Nat -> Prop} {C : CRel} {β : Bt} {s : HS} {w : World}
theorem EnvR.cong {N : Nat -> Prop} {w' : World} (hc : ∀ b k v, cellAt w b k = some v -> cellAt w' b k = some v) (hh : ∀ b E n, HasE w b E n -> HasE w' b E n) (hs : w.heap.size <= w'.heap.size) {keep : List Nat} {e : En} {tm : Array Value} (h : EnvR β N w keep e tm) : EnvR β N w' keep e tm :=
 fun t v hv => ⟨(h t v hv).1, (h t v hv).2.cong hc hh hs⟩
theorem Rel.deadset (h : Rel M C β s w) {b : Nat} {o o' : Obj} (hb : w.heap[b]? = some o) (h1 : notCells o = true) (hal : ¬ Alive s β b) : Rel M C β s (setB w b o') := by
 have hc := fun x k v => setB_cell (o' := o') hb h1 x k v
 have hh := fun x E n => setB_has' (o' := o') hb h1 x E n
 have hsz : (setB w b o').heap.size = w.heap.size := by simp [setB]
 refine ⟨fun o pl ho => by rw [hsz]; exact h.lt o pl ho, fun o1 ob ho => ?_, h.apart, h.grp, h.gnx, fun x hx => by rw [hsz]; exact h.mlt x hx, h.mal, fun o E n ho => let ⟨pl, g1, ⟨m, g2, g3⟩, g4⟩ := h.tyr o E n ho; ⟨pl, g1, ⟨m, hh _ _ _ g2, g3⟩, g4⟩⟩
 obtain ⟨pl, h2, h3⟩ := h.obj o1 ob ho
 have hne : pl.b ≠ b := fun e => hal ⟨o1, ob, pl, ho, h2, e⟩
 have hbk : (setB w b o').heap[pl.b]? = w.heap[pl.b]? := setB_other w o' hne
 refine ⟨pl, h2, ?_⟩
 cases h3 with
 | cells t lo hi g cs E fr a1 a2 a3 a4 a5 => exact .cells t lo hi g cs E fr a1 (hbk.trans a2) a3 a4 fun k v b1 b2 b3 => let ⟨q, u, c1, c2⟩ := a5 k v b1 b2 b3; ⟨q, u, c1, c2.cong hc hh (Nat.le_of_eq hsz.symm)⟩
 | mp es es' a1 a2 a3 => exact .mp es es' (hbk.trans a1) a2 fun i k v hi => let ⟨e, c1, c2, c3, c4⟩ := a3 i k v hi; ⟨e, c1, c2.cong hc hh (Nat.le_of_eq hsz.symm), c3.cong hc hh (Nat.le_of_eq hsz.symm), c4⟩
 | loop st pend tm ps asg body r nt keep a1 a2 a3 a4 a5 a6 a7 a8 a9 a10 => exact .loop st pend tm ps asg body r nt keep (hbk.trans a1) a2 a3 (a4.cong hc hh (Nat.le_of_eq hsz.symm)) a5 a6 a7 a8 a9 a10
theorem Ext.deadset {β0 : Bt} {s0 : HS} {w0 : World} (h : Ext M β0 s0 w0 β s w) {b : Nat} {o o' : Obj} (hb : w.heap[b]? = some o) (h1 : notCells o = true) (hnew : w0.heap.size <= b) (hm : ∀ x, M x -> x < w0.heap.size) : Ext M β0 s0 w0 β s (setB w b o') where
 le := h.le
 keeps := ⟨by simp only [setB, Array.size_setIfInBounds]; exact h.keeps.size, fun x hx hN => (setB_other w o' (by omega)).trans (h.keeps.same x hx hN), fun x E n hh => setB_has' hb h1 x E n (h.keeps.has x E n hh)⟩
 less := h.less
 os := h.os
 tape := h.tape
 output := h.output
 loops := fun x r hr => by
  obtain ⟨r', h2⟩ := h.loops x r hr
  have hx : x < w0.heap.size := lt_of_block hr
  exact ⟨r', (setB_other w o' (by omega)).trans h2⟩
 nx := h.nx
 priv := fun x hx => (setB_other w o' (by have := hm x hx; omega)).trans (h.priv x hx)
end dead
def ghost : HC -> Bool
 | .frz _ => true
 | .frc _ _ _ => true
 | .gh _ => true
 | _ => false
def chkC (P : Program) (nt : Nat) (keep : List Nat) : HC -> Code -> Bool
 | .skip, .skip => true
 | .ret, .ret => true
 | .exit i, .exit j => i == j
 | .seq a b, c => bif ghost a then chkC P nt keep b c else (match c with | .seq x y => chkC P nt keep a x && chkC P nt keep b y | _ => false)
 | .cond c a b, .cond d x y => chkX c d && chkC P nt keep a x && chkC P nt keep b y
 | .block i c, .block j d => i == j && chkC P nt keep c d
 | .loop c, .loop d => chkC P nt keep c d
 | .rg outs l, .region _ goops false => chkL P nt keep outs goops l goops.toList && subL outs keep
 | .rgd outs main trail, .region _ goops true => chkD P nt keep outs goops main trail && subL outs keep
 | .rf x ps asg body, .rangeFunc g params assign body' => chkX x g && params.toList == ps && ps.all (fun p => keep.contains p && decide (p < nt)) && nodupB ps && chkC P nt keep asg assign && chkC P nt keep body body'
 | _, _ => false
theorem chkC_seq (P : Program) (nt : Nat) (keep : List Nat) (c d : HC) (code : Code) : chkC P nt keep (.seq c d) code = bif ghost c then chkC P nt keep d code else (match code with | .seq x y => chkC P nt keep c x && chkC P nt keep d y | _ => false) := by
 cases code <;> simp [chkC]
def CR (fx : Nat -> Option Obj) (P : Program) : CRel := ⟨fun nt keep c code => chkC P nt keep c code = true, fx⟩
section rules
variable {F : Fence} {n : Nat} {P : Program} {Q : Exit -> Act -> World -> Prop} {a : Act} {w : World}
theorem loopIn_step {c : Code} (h : c.wpIn F n P (Exit.then (fun a w => LoopIn F n P c Q a w) Q) a w) : LoopIn F n P c Q a w := by
 intro b k cs hro hb hr
 obtain ⟨e, a₁, w₁, hq, harr⟩ := h b (.inLoop c :: k) cs hro hb hr
 cases e with
 | normal =>
  obtain ⟨e₂, a₂, w₂, hq₂, harr₂⟩ := hq b k cs hro hb hr
  exact ⟨e₂, a₂, w₂, hq₂, .of_steps (StepsIn.trans harr (.one (fenced_calm hb hr rfl) stepR_inLoop)) harr₂⟩
 | exit id => exact ⟨_, a₁, w₁, hq, .pass (x := .inLoop c) rfl (fun _ _ => .inl (by simp)) harr⟩
 | goto l => exact ⟨_, a₁, w₁, hq, .pass (x := .inLoop c) rfl (fun _ _ => .inl (by simp)) harr⟩
 | ret => exact ⟨_, a₁, w₁, hq, .pass (x := .inLoop c) rfl (fun _ _ => .inl (by simp)) harr⟩
 | panic ch => exact ⟨_, a₁, w₁, hq, .pass (x := .inLoop c) rfl (fun _ _ => .inl (by simp)) harr⟩
 | outgrown => exact ⟨_, a₁, w₁, hq, .pass (x := .inLoop c) rfl (fun _ _ => .inl (by simp)) harr⟩
theorem wpIn_loopIn {c : Code} (h : LoopIn F n P c Q a w) : (Code.loop c).wpIn F n P Q a w := by
 intro b k cs hro hb hr
 obtain ⟨e, a', w', hq, harr⟩ := h b k cs hro hb hr
 exact ⟨e, a', w', hq, .of_steps (.one (fenced_calm hb hr rfl) stepR_loop) harr⟩
theorem LoopIn.mono {c : Code} {Q' : Exit -> Act -> World -> Prop} (h : LoopIn F n P c Q a w) (hq : ∀ e a w, Q e a w -> Q' e a w) : LoopIn F n P c Q' a w :=
 fun b k cs hro hb hr => let ⟨e, a', w', q, r⟩ := h b k cs hro hb hr; ⟨e, a', w', hq _ _ _ q, r⟩
end rules
theorem Post.after {M : Nat -> Prop} {C : CRel} {nt : Nat} {keep : List Nat} {ro : Option Nat} {lo : Nat} {β β1 : Bt} {s s1 : HS} {w w1 : World} {x : Ex} {e' : En} {s' : HS} {en : Exit} {a' : Act} {w' : World} (hx : Ext M β s w β1 s1 w1) (h : Post M C nt keep ro lo β1 s1 w1 x e' s' en a' w') : Post M C nt keep ro lo β s w x e' s' en a' w' :=
 let ⟨h1, β', h2, h3⟩ := h; ⟨h1, β', h2, hx.trans h3⟩
theorem asNormal_code {o : Out} {f : En -> HS -> Out} {x : Ex} {e' : En} {s' : HS} (h : o.asNormal f = .code x e' s') : (∃ e1 s1, o = .code .normal e1 s1 /\ f e1 s1 = .code x e' s') ∨ (o = .code x e' s' /\ x ≠ .normal) := by
 cases o with
 | val => cases h
 | bad => cases h
 | code y e1 s1 =>
  cases y with
  | normal => exact .inl ⟨e1, s1, rfl, h⟩
  | ret => cases h; exact .inr ⟨rfl, by simp⟩
  | exit i => cases h; exact .inr ⟨rfl, by simp⟩
section code
variable {fx : Nat -> Option Obj} {P : Program} {nt : Nat} {keep : List Nat} {ih : Task -> Out}
theorem CodeS.then {x : Code} {e : En} {s : HS} {z : Ex} {e1 : En} {s1 : HS} (h : CodeS (CR fx P) P nt keep x e s z e1 s1) {Q : Exit -> Act -> World -> Prop} {M : Nat -> Prop} {ro : Option Nat} {lo : Nat} {β : Bt} {a : Act} {w : World} (hat : At M (CR fx P) nt keep ro lo β s e a w)
  {K : Act -> World -> Prop} (hn : z = .normal -> ∀ β' a' w', At M (CR fx P) nt keep ro lo β' s1 e1 a' w' -> Ext M β s w β' s1 w' -> K a' w') (hx : z ≠ .normal -> ∀ a' w', Post M (CR fx P) nt keep ro lo β s w z e1 s1 z.to a' w' -> Q z.to a' w') :
  x.wpIn (FW ro) 0 P (Exit.then K Q) a w := by
 refine wpIn_mono (h M ro lo β a w hat) ?_
 intro en a' w' hen
 obtain ⟨rfl, β', h1, h2⟩ := hen
 cases z with
 | normal => exact hn rfl β' a' w' h1 h2
 | ret => exact hx (by simp) a' w' ⟨rfl, β', h1, h2⟩
 | exit i => exact hx (by simp) a' w' ⟨rfl, β', h1, h2⟩
end code
theorem pureL_mem : ∀ {l : List HV}, pureL l = true -> ∀ v ∈ l, pureV v = true
 | [], _, v, hv => by cases hv
 | x :: r, h, v, hv => by
  simp only [pureL, Bool.and_eq_true] at h
  rcases List.mem_cons.1 hv with rfl | hv
  ·exact h.1
  ·exact pureL_mem h.2 v hv
theorem pureLL_mem : ∀ {l : List (List HV)}, pureLL l = true -> ∀ v ∈ l, pureL v = true
 | [], _, v, hv => by cases hv
 | x :: r, h, v, hv => by
  simp only [pureLL, Bool.and_eq_true] at h
  rcases List.mem_cons.1 hv with rfl | hv
  ·exact h.1
  ·exact pureLL_mem h.2 v hv
mutual
theorem isD_pure : ∀ (v : HV), isD v = true -> pureV v = true
 | .fn _ a b, h => by
  simp only [isD, Bool.and_eq_true] at h
  simp only [pureV, isDL_pure a h.1, isDL_pure b h.2, Bool.and_true]
 | .agg l, h => by simp only [isD] at h; simp only [pureV, isDL_pure l h]
 | .tup l, h => by simp only [isD] at h; simp only [pureV, isDL_pure l h]
 | .pptr l, h => by simp only [isD] at h; simp only [pureV, isDL_pure l h]
 | .psl l, h => by simp only [isD] at h; simp only [pureV, isDLL_pure l h]
 | .int _ _, _ => rfl
 | .bool _, _ => rfl
 | .str _, _ => rfl
 | .nils, _ => rfl
 | .nilp, _ => rfl
 | .nilf, _ => rfl
 | .nilm, _ => rfl
 | .nili, _ => rfl
 | .undef, _ => rfl
 | .ptr _ _, h => by simp [isD] at h
 | .sl _ _ _ _, h => by simp [isD] at h
 | .mp _, h => by simp [isD] at h
 | .yld _, h => by simp [isD] at h
theorem isDL_pure : ∀ (l : List HV), isDL l = true -> pureL l = true
 | [], _ => rfl
 | v :: r, h => by
  simp only [isDL, Bool.and_eq_true] at h
  simp only [pureL, isD_pure v h.1, isDL_pure r h.2, Bool.and_true]
theorem isDLL_pure : ∀ (l : List (List HV)), isDLL l = true -> pureLL l = true
 | [], _ => rfl
 | v :: r, h => by
  simp only [isDLL, Bool.and_eq_true] at h
  simp only [pureLL, isDL_pure v h.1, isDLL_pure r h.2, Bool.and_true]
end
mutual
theorem nn_pure : ∀ (v : HV), pureV v = true -> pureV (nn v) = true
 | .fn _ a b, h => h
 | .agg l, h => by simp only [pureV] at h; simp only [nn, pureV, nnL_pure l h]
 | .tup l, h => by simp only [pureV] at h; simp only [nn, pureV, nnL_pure l h]
 | .pptr l, h => by simp only [pureV] at h; simp only [nn, pureV, nnL_pure l h]
 | .psl l, h => by simp only [pureV] at h; simp only [nn, pureV, nnLL_pure l h]
 | .int _ _, _ => rfl
 | .bool _, _ => rfl
 | .str _, _ => rfl
 | .nils, _ => rfl
 | .nilp, _ => rfl
 | .nilf, _ => rfl
 | .nilm, _ => rfl
 | .nili, _ => rfl
 | .undef, _ => rfl
 | .ptr _ _, h => by simp [pureV] at h
 | .sl _ _ _ _, h => by simp [pureV] at h
 | .mp _, h => by simp [pureV] at h
 | .yld _, h => by simp [pureV] at h
theorem nnL_pure : ∀ (l : List HV), pureL l = true -> pureL (nnL l) = true
 | [], _ => rfl
 | v :: r, h => by
  simp only [pureL, Bool.and_eq_true] at h
  simp only [nnL, pureL, nn_pure v h.1, nnL_pure r h.2, Bool.and_true]
theorem nnLL_pure : ∀ (l : List (List HV)), pureLL l = true -> pureLL (nnLL l) = true
 | [], _ => rfl
 | v :: r, h => by
  simp only [pureLL, Bool.and_eq_true] at h
  simp only [nnLL, pureLL, nnL_pure v h.1, nnLL_pure r h.2, Bool.and_true]
end
theorem nn_one (v : HV) (h : v.one = true) : (nn v).one = true := by cases v <;> first | exact h | rfl
theorem nnL_eq : ∀ (l : List HV), nnL l = l.map nn
 | [] => rfl
 | v :: r => by simp only [nnL, nnL_eq r, List.map_cons]
theorem nnLL_eq : ∀ (l : List (List HV)), nnLL l = l.map nnL
 | [] => rfl
 | v :: r => by simp only [nnLL, nnLL_eq r, List.map_cons]
theorem HR.nn {β : Bt} {N : Nat -> Prop} {w : World} {v : HV} {u : Value} (h : HR β N w v u) : HR β N w (nn v) u := by
 induction h with
 | nils => exact .psl0 none 0 (fun _ => rfl)
 | int k n => exact .int k n
 | bool b => exact .bool b
 | str s => exact .str s
 | nilp => exact .nilp
 | nilf => exact .nilf
 | nilm => exact .nilm
 | nili => exact .nili
 | undef => exact .undef
 | ptr o k pl h hk' => exact .ptr o k pl h hk'
 | sl o off len sz cap n pl h hs hl hb hc => exact .sl o off len sz cap n pl h hs hl hb hc
 | sl0 o off sz b k => exact .sl0 o off sz b k
 | mp o pl h => exact .mp o pl h
 | fn f fi ca fs cps h1 h2 h3 h4 _ _ => exact .fn f fi ca fs cps h1 h2 h3 h4
 | yld l pl h => exact .yld l pl h
 | agg l cs h0 h1 _ ih =>
  refine .agg (nnL l) cs (fun v hv => ?_) (by rw [nnL_eq, List.length_map]; exact h1) (fun i v u hv hu => ?_)
  ·rw [nnL_eq] at hv
   obtain ⟨x, hx, rfl⟩ := List.mem_map.1 hv
   exact nn_one x (h0 x hx)
  ·rw [nnL_eq, List.getElem?_map] at hv
   obtain ⟨x, hx, rfl⟩ := Option.map_eq_some_iff.1 hv
   exact ih i x u hx hu
 | tup l cs h1 _ ih =>
  refine .tup (nnL l) cs (by rw [nnL_eq, List.length_map]; exact h1) (fun i v u hv hu => ?_)
  rw [nnL_eq, List.getElem?_map] at hv
  obtain ⟨x, hx, rfl⟩ := Option.map_eq_some_iff.1 hv
  exact ih i x u hx hu
 | psl0 A cap hn => exact .psl0 A cap hn
 | psl els b o cap sz g hNb hlt hcap hsz h0 hc hv ih =>
  have hl : (nnLL els).length = els.length := by rw [nnLL_eq, List.length_map]
  show HR β N w (.psl (nnLL els)) (.slice (some ⟨b, o, none⟩) els.length cap)
  rw [<- hl]
  refine .psl (nnLL els) b o cap sz g hNb hlt (by rw [hl]; exact hcap) (fun i row h => ?_) (fun row hr v hv' => ?_) (fun i j hi hj => hc i j (by rw [<- hl]; exact hi) hj) (fun i row j a hi hj => ?_)
  ·rw [nnLL_eq, List.getElem?_map] at h
   obtain ⟨x, hx, rfl⟩ := Option.map_eq_some_iff.1 h
   rw [nnL_eq, List.length_map]; exact hsz i x hx
  ·rw [nnLL_eq] at hr
   obtain ⟨x, hx, rfl⟩ := List.mem_map.1 hr
   rw [nnL_eq] at hv'
   obtain ⟨y, hy, rfl⟩ := List.mem_map.1 hv'
   exact nn_one y (h0 x hx y hy)
  ·rw [nnLL_eq, List.getElem?_map] at hi
   obtain ⟨x, hx, rfl⟩ := Option.map_eq_some_iff.1 hi
   rw [nnL_eq, List.getElem?_map] at hj
   obtain ⟨y, hy, rfl⟩ := Option.map_eq_some_iff.1 hj
   exact ih i x j y hx hy
 | pptr cells b o g h0 hNb hlt hc hv ih =>
  have hl : (nnL cells).length = cells.length := by rw [nnL_eq, List.length_map]
  refine .pptr (nnL cells) b o g (fun v hv' => ?_) hNb hlt (fun j hj => hc j (by rw [<- hl]; exact hj)) (fun j a hj => ?_)
  ·rw [nnL_eq] at hv'
   obtain ⟨x, hx, rfl⟩ := List.mem_map.1 hv'
   exact nn_one x (h0 x hx)
  ·rw [nnL_eq, List.getElem?_map] at hj
   obtain ⟨x, hx, rfl⟩ := Option.map_eq_some_iff.1 hj
   exact ih j x hx
theorem HR.pure {β : Bt} {N : Nat -> Prop} {w : World} {v : HV} {u : Value} (h : HR β N w v u) (β' : Bt) {N' : Nat -> Prop} (hN : Less N' N w) : pureV v = true -> HR β' N' w v u := by
 induction h with
 | int k n => exact fun _ => .int k n
 | bool b => exact fun _ => .bool b
 | str s => exact fun _ => .str s
 | nils => exact fun _ => .nils
 | nilp => exact fun _ => .nilp
 | nilf => exact fun _ => .nilf
 | nilm => exact fun _ => .nilm
 | nili => exact fun _ => .nili
 | undef => exact fun _ => .undef
 | ptr o k pl h hk' => intro h; simp [pureV] at h
 | sl o off len sz cap n pl h hs hl hb hc => intro h; simp [pureV] at h
 | sl0 o off sz b k => intro h; simp [pureV] at h
 | mp o pl h => intro h; simp [pureV] at h
 | fn f fi ca fs cps h1 h2 h3 h4 ih3 ih4 =>
  intro h
  simp only [pureV, Bool.and_eq_true] at h
  exact .fn f fi ca fs cps h1 h2 (fun i v u hv hu => ih3 i v u hv hu (pureL_mem h.1 v (List.mem_of_getElem? hv))) (fun i v u hv hu => ih4 i v u hv hu (pureL_mem h.2 v (List.mem_of_getElem? hv)))
 | yld l pl h => intro h; simp [pureV] at h
 | agg l cs h0 h1 _ ih => intro h; simp only [pureV] at h; exact .agg l cs h0 h1 (fun i v u hv hu => ih i v u hv hu (pureL_mem h v (List.mem_of_getElem? hv)))
 | tup l cs h1 _ ih => intro h; simp only [pureV] at h; exact .tup l cs h1 (fun i v u hv hu => ih i v u hv hu (pureL_mem h v (List.mem_of_getElem? hv)))
 | psl0 A cap hn => exact fun _ => .psl0 A cap hn
 | psl els b o cap sz g hNb hlt hcap hsz h0 hc hv ih =>
  intro h
  simp only [pureV] at h
  exact .psl els b o cap sz g (fun x => hNb (hN b hlt x)) hlt hcap hsz h0 hc (fun i row j a hi hj => ih i row j a hi hj (pureL_mem (pureLL_mem h row (List.mem_of_getElem? hi)) a (List.mem_of_getElem? hj)))
 | pptr cells b o g h0 hNb hlt hc hv ih =>
  intro h
  simp only [pureV] at h
  exact .pptr cells b o g h0 (fun x => hNb (hN b hlt x)) hlt hc (fun j a hj => ih j a hj (pureL_mem h a (List.mem_of_getElem? hj)))
theorem chunk_length (sz : Nat) : ∀ (n : Nat) (l : List HV), (chunk sz n l).length = n
 | 0, _ => rfl
 | n + 1, l => by simp [chunk, chunk_length sz n]
theorem chunk_get (sz : Nat) : ∀ (n : Nat) (l : List HV) (i : Nat), i < n -> (chunk sz n l)[i]? = some ((l.drop (i * sz)).take sz)
 | 0, _, i, h => by omega
 | n + 1, l, 0, h => by simp [chunk, takeN_eq]
 | n + 1, l, i + 1, h => by
  simp only [chunk, List.getElem?_cons_succ]
  rw [chunk_get sz n _ i (by omega), dropN_eq, List.drop_drop, Nat.succ_mul, Nat.add_comm]
theorem vwL_spec {f : HV -> Option (HV × List Ky)} : ∀ {l : List HV} {l' : List HV} {t : List Ky}, vwL f l = some (l', t) -> l'.length = l.length /\ ∀ (j : Nat) (v' : HV), l'[j]? = some v' -> ∃ v t', l[j]? = some v /\ f v = some (v', t') /\ ∀ o ∈ t', o ∈ t
 | [], l', t, h => by cases h; exact ⟨rfl, by simp⟩
 | v :: r, l', t, h => by
  unfold vwL at h
  split at h
  ·rename_i v1 t1 r1 t2 h1 h2
   cases h
   obtain ⟨g1, g2⟩ := vwL_spec h2
   refine ⟨by simp [g1], fun j v' hj => ?_⟩
   cases j with
   | zero => simp at hj; subst hj; exact ⟨v, t1, rfl, h1, fun o ho => by simp [ho]⟩
   | succ j =>
    obtain ⟨w, t', a1, a2, a3⟩ := g2 j v' (by simpa using hj)
    exact ⟨w, t', by simpa using a1, a2, fun o ho => by simp [a3 o ho]⟩
  ·cases h
theorem killGr_get (h : Tr Ob) : ∀ (ms : List Ky) (x : Ky), (x ∈ ms -> tget (killGr h ms) x = none) /\ (x ∉ ms -> tget (killGr h ms) x = tget h x)
 | [], x => ⟨fun h => (by cases h), fun _ => rfl⟩
 | m :: r, x => by
  obtain ⟨h1, h2⟩ := killGr_get h r x
  rw [killGr, tget_tset]
  by_cases hx : x = m
  ·subst hx; rw [if_pos rfl]; exact ⟨fun _ => rfl, fun hn => absurd List.mem_cons_self hn⟩
  ·rw [if_neg hx]
   refine ⟨fun hm => ?_, fun hn => h2 fun hm => hn (List.mem_cons_of_mem _ hm)⟩
   rcases List.mem_cons.1 hm with e | hm
   ·exact absurd e hx
   ·exact h1 hm
section view
variable {M : Nat -> Prop} {C : CRel} {P : Program} {β : Bt} {s : HS} {w : World} {e : En} {a : Act}
theorem vw_sound (hr : Rel M C β s w) : ∀ (n : Nat) (v v' : HV) (t : List Ky) (u : Value), vw s n v = some (v', t) -> HR β (Live M s β) w v u -> (v.one = true -> v'.one = true) /\ (∀ o ∈ t, ∃ tr lo hi g, tget s.h o = some (.cells tr lo hi g)) /\
  ∀ (β' : Bt) (N' : Nat -> Prop), (∀ b, N' b -> b < w.heap.size -> Live M s β b) -> (∀ o ∈ t, ∀ pl, β o = some pl -> ¬ N' pl.b) -> HR β' N' w v' u := by
 intro n
 induction n with
 | zero => intro v v' t u h; cases h
 | succ n ih =>
  have ihL : ∀ {l : List HV} {l' : List HV} {t : List Ky}, vwL (vw s n) l = some (l', t) -> ∀ {g : Nat -> Value} {m : Nat}, l.length = m -> (∀ j v, l[j]? = some v -> HR β (Live M s β) w v (g j)) ->
    (∀ o ∈ t, ∃ tr lo hi g, tget s.h o = some (.cells tr lo hi g)) /\ ((∀ x ∈ l, x.one = true) -> ∀ x ∈ l', x.one = true) /\
    ∀ (β' : Bt) (N' : Nat -> Prop), (∀ b, N' b -> b < w.heap.size -> Live M s β b) -> (∀ o ∈ t, ∀ pl, β o = some pl -> ¬ N' pl.b) -> ∀ (j : Nat) (v' : HV), l'[j]? = some v' -> HR β' N' w v' (g j) := by
   intro l
   induction l with
   | nil => intro l' t h g m hm hg; cases h; exact ⟨by simp, by simp, by simp⟩
   | cons x r ihr =>
    intro l' t h g m hm hg
    unfold vwL at h
    split at h
    ·rename_i v1 t1 r1 t2 h1 h2
     cases h
     obtain ⟨a1, a2, a3⟩ := ih x v1 t1 (g 0) h1 (hg 0 x rfl)
     obtain ⟨b1, b2, b3⟩ := ihr h2 (g := fun j => g (j + 1)) (m := r.length) rfl (fun j v hv => hg (j + 1) v (by simpa using hv))
     refine ⟨fun o ho => ?_, fun hone y hy => ?_, fun β' N' hN ht j v' hj => ?_⟩
     ·rcases List.mem_append.1 ho with ho | ho
      ·exact a2 o ho
      ·exact b1 o ho
     ·rcases List.mem_cons.1 hy with rfl | hy
      ·exact a1 (hone x (by simp))
      ·exact b2 (fun z hz => hone z (by simp [hz])) y hy
     ·cases j with
      | zero => simp at hj; subst hj; exact a3 β' N' hN (fun o ho => ht o (by simp [ho]))
      | succ j => exact b3 β' N' hN (fun o ho => ht o (by simp [ho])) j v' (by simpa using hj)
    ·cases h
  have pureCase : ∀ {v v' : HV} {t : List Ky} {u : Value}, (bif pureV v then some (v, ([] : List Ky)) else none) = some (v', t) -> HR β (Live M s β) w v u -> (v.one = true -> v'.one = true) /\ (∀ o ∈ t, ∃ tr lo hi g, tget s.h o = some (.cells tr lo hi g)) /\
    ∀ (β' : Bt) (N' : Nat -> Prop), (∀ b, N' b -> b < w.heap.size -> Live M s β b) -> (∀ o ∈ t, ∀ pl, β o = some pl -> ¬ N' pl.b) -> HR β' N' w v' u := by
   intro v v' t u h hv
   cases hp : pureV v with
   | false => rw [hp] at h; cases h
   | true =>
    rw [hp, cond_true] at h; cases h
    exact ⟨id, by simp, fun β' N' hN _ => hv.pure β' (fun b hb hx => hN b hx hb) hp⟩
  intro v v' t u h hv
  have h : (bif isD v then some (v, ([] : List Ky)) else _) = some (v', t) := h
  cases hD : isD v with
  | true =>
   rw [hD, cond_true] at h
   exact pureCase (by rw [isD_pure v hD]; exact h) hv
  | false =>
  rw [hD, cond_false] at h
  cases v with
  | sl o off len sz =>
   have h : (bif Nat.beq len 0 then some (HV.psl [], []) else (match s.cellsAt o off (len * sz) with
    | some l => (match vwL (vw s n) l with | some (l', t) => some (.psl (chunk sz len l'), o :: t) | none => none)
    | none => none)) = some (v', t) := h
   cases hl : Nat.beq len 0 with
   | true =>
    rw [hl, cond_true] at h; cases h
    rw [nbeq_iff] at hl; subst hl
    refine ⟨fun _ => rfl, by simp, fun β' N' _ _ => ?_⟩
    cases hv with
    | sl _ _ _ _ cap n' pl hpl hs hc => exact .psl0 _ _ (fun h => by cases h)
    | sl0 => exact .psl0 _ _ (fun _ => rfl)
   | false =>
    rw [hl, cond_false] at h
    have hl0 : len ≠ 0 := fun e => by subst e; cases hl
    split at h
    case h_2 => cases h
    rename_i l hcl
    split at h
    case h_2 => cases h
    rename_i l' t' hvw
    cases h
    cases hv with
    | sl0 => exact absurd rfl hl0
    | sl _ _ _ _ cap n' pl hpl hs hlc hb hcap =>
    obtain ⟨d1, d2, d3, gg, d4, d5⟩ := hr.cellsAt hpl hcl
    obtain ⟨e1, e2, e3⟩ := ihL hvw (g := gg) d2 d5
    obtain ⟨f1, f2⟩ := vwL_spec hvw
    obtain ⟨tr, lo, hi, g, q1, q2, q3, _⟩ := HS.cellsAt_some hcl
    refine ⟨fun _ => rfl, fun x hx => ?_, fun β' N' hN ht => ?_⟩
    ·rcases List.mem_cons.1 hx with rfl | hx
     ·exact ⟨tr, lo, hi, g, q1⟩
     ·exact e1 x hx
    have hlen : l'.length = len * sz := f1.trans d2
    have hrow : ∀ (i : Nat) (row : List HV), (chunk sz len l')[i]? = some row -> i < len /\ row.length = sz /\ ∀ j, j < sz -> row[j]? = l'[i * sz + j]? := by
     intro i row hi
     have hil : i < len := by have := (List.getElem?_eq_some_iff.1 hi).1; rwa [chunk_length] at this
     rw [chunk_get sz len l' i hil] at hi
     cases hi
     have hm : (i + 1) * sz <= len * sz := Nat.mul_le_mul_right _ hil
     rw [Nat.succ_mul] at hm
     refine ⟨hil, by simp [hlen]; omega, fun j hj => ?_⟩
     rw [List.getElem?_take_of_lt hj, List.getElem?_drop]
    have := HR.psl (β := β') (N := N') (w := w) (chunk sz len l') pl.b (off - pl.s) cap sz (fun i j => gg (i * sz + j)) (ht o (by simp) pl hpl) (hr.lt o pl hpl).2 (by rw [chunk_length]; exact hlc) (fun i row hi => (hrow i row hi).2.1) (fun row hrw x hx => ?_) (fun i j hi hj => ?_) (fun i row j a hi hj => ?_)
    ·rw [chunk_length] at this; exact this
    ·obtain ⟨i, hi, rfl⟩ := List.getElem_of_mem hrw
     obtain ⟨j, hj, rfl⟩ := List.getElem_of_mem hx
     obtain ⟨g1, g2, g3⟩ := hrow i _ (List.getElem?_eq_getElem hi)
     have h4 := g3 j (by omega)
     rw [List.getElem?_eq_getElem hj] at h4
     exact e2 d3 _ (List.mem_of_getElem? h4.symm)
    ·rw [chunk_length] at hi
     have hm : (i + 1) * sz <= len * sz := Nat.mul_le_mul_right _ hi
     rw [Nat.succ_mul] at hm
     exact d4 _ (by omega)
    ·obtain ⟨g1, g2, g3⟩ := hrow i row hi
     have hjs : j < sz := by rw [<- g2]; exact (List.getElem?_eq_some_iff.1 hj).1
     rw [g3 j hjs] at hj
     exact e3 β' N' hN (fun x hx => ht x (by simp [hx])) _ _ hj
  | ptr o k =>
   have h : (match tget s.h o with
    | some (.cells _ _ hi _) => (bif Nat.ble k hi then (match s.cellsAt o k (hi - k) with
     | some l => (match vwL (vw s n) l with | some (l', t) => some (HV.pptr l', o :: t) | none => none)
     | none => none) else none)
    | _ => none) = some (v', t) := h
   split at h
   case h_2 => cases h
   rename_i tr0 lo0 hi0 g0 hob
   cases hk : Nat.ble k hi0 with
   | false => rw [hk] at h; cases h
   | true =>
    rw [hk, cond_true] at h
    split at h
    case h_2 => cases h
    rename_i l hcl
    split at h
    case h_2 => cases h
    rename_i l' t' hvw
    cases h
    cases hv with
    | ptr _ _ pl hpl hkk =>
    obtain ⟨d1, d2, d3, gg, d4, d5⟩ := hr.cellsAt hpl hcl
    obtain ⟨e1, e2, e3⟩ := ihL hvw (g := gg) d2 d5
    obtain ⟨f1, f2⟩ := vwL_spec hvw
    refine ⟨fun _ => rfl, fun x hx => ?_, fun β' N' hN ht => ?_⟩
    ·rcases List.mem_cons.1 hx with rfl | hx
     ·exact ⟨_, _, _, _, hob⟩
     ·exact e1 x hx
    exact .pptr l' pl.b (k - pl.s) gg (e2 d3) (ht o (by simp) pl hpl) (hr.lt o pl hpl).2 (fun j hj => d4 j (by omega)) (fun j a hj => e3 β' N' hN (fun x hx => ht x (by simp [hx])) j a hj)
  | agg l =>
   have h : (match vwL (vw s n) l with | some (l', t) => some (HV.agg l', t) | none => none) = some (v', t) := h
   split at h
   case h_2 => cases h
   rename_i l' t' hvw
   cases h
   cases hv with
   | agg _ cs h0 h1 h2 =>
   obtain ⟨e1, e2, e3⟩ := ihL hvw (g := fun j => cs.getD j Go.undef) rfl (fun j v hv => h2 j v _ hv (by
    have := (List.getElem?_eq_some_iff.1 hv).1
    simp [Array.getD_eq_getD_getElem?, show j < cs.size by omega]))
   obtain ⟨f1, f2⟩ := vwL_spec hvw
   refine ⟨fun h => (by cases h), e1, fun β' N' hN ht => .agg l' cs (e2 h0) (by omega) fun i v' u' hv' hu' => ?_⟩
   have := e3 β' N' hN ht i v' hv'
   simpa [Array.getD_eq_getD_getElem?, hu'] using this
  | tup l =>
   have h : (match vwL (vw s n) l with | some (l', t) => some (HV.tup l', t) | none => none) = some (v', t) := h
   split at h
   case h_2 => cases h
   rename_i l' t' hvw
   cases h
   cases hv with
   | tup _ cs h1 h2 =>
   obtain ⟨e1, e2, e3⟩ := ihL hvw (g := fun j => cs.getD j Go.undef) rfl (fun j v hv => h2 j v _ hv (by
    have := (List.getElem?_eq_some_iff.1 hv).1
    simp [Array.getD_eq_getD_getElem?, show j < cs.size by omega]))
   obtain ⟨f1, f2⟩ := vwL_spec hvw
   refine ⟨fun h => (by cases h), e1, fun β' N' hN ht => .tup l' cs (by omega) fun i v' u' hv' hu' => ?_⟩
   have := e3 β' N' hN ht i v' hv'
   simpa [Array.getD_eq_getD_getElem?, hu'] using this
  | fn f fi ca =>
   have h : (match vwL (vw s n) fi, vwL (vw s n) ca with | some (a', t), some (b', t') => some (HV.fn f a' b', t ++ t') | _, _ => none) = some (v', t) := h
   split at h
   ·rename_i a' t1 b' t2 hv1 hv2
    cases h
    cases hv with
    | fn _ _ _ fs cps h1 h2 h3 h4 =>
    obtain ⟨e1, e2, e3⟩ := ihL hv1 (g := fun j => fs.getD j Go.undef) rfl (fun j v hv => h3 j v _ hv (by
     have := (List.getElem?_eq_some_iff.1 hv).1
     simp [Array.getD_eq_getD_getElem?, show j < fs.size by omega]))
    obtain ⟨e1', e2', e3'⟩ := ihL hv2 (g := fun j => cps.getD j Go.undef) rfl (fun j v hv => h4 j v _ hv (by
     have := (List.getElem?_eq_some_iff.1 hv).1
     simp [Array.getD_eq_getD_getElem?, show j < cps.size by omega]))
    obtain ⟨f1, f2⟩ := vwL_spec hv1
    obtain ⟨f1', f2'⟩ := vwL_spec hv2
    refine ⟨fun _ => rfl, fun o ho => ?_, fun β' N' hN ht => .fn f a' b' fs cps (by omega) (by omega) (fun i v' u' hv' hu' => ?_) (fun i v' u' hv' hu' => ?_)⟩
    ·rcases List.mem_append.1 ho with ho | ho
     ·exact e1 o ho
     ·exact e1' o ho
    ·have := e3 β' N' hN (fun o ho => ht o (by simp [ho])) i v' hv'
     simpa [Array.getD_eq_getD_getElem?, hu'] using this
    ·have := e3' β' N' hN (fun o ho => ht o (by simp [ho])) i v' hv'
     simpa [Array.getD_eq_getD_getElem?, hu'] using this
   ·cases h
  | int => exact pureCase h hv
  | bool => exact pureCase h hv
  | str => exact pureCase h hv
  | nils =>
   cases h
   cases hv
   exact ⟨fun _ => rfl, by simp, fun β' N' _ _ => .psl0 none 0 (fun _ => rfl)⟩
  | nilp => exact pureCase h hv
  | nilf => exact pureCase h hv
  | nilm => exact pureCase h hv
  | nili => exact pureCase h hv
  | undef => exact pureCase h hv
  | mp => exact pureCase h hv
  | yld => exact pureCase h hv
  | psl els =>
   have h : (bif pureLL els then some (HV.psl (nnLL els), ([] : List Ky)) else none) = some (v', t) := h
   cases hp : pureLL els with
   | false => rw [hp] at h; cases h
   | true =>
    rw [hp, cond_true] at h; cases h
    exact ⟨fun _ => rfl, by simp, fun β' N' hN _ => (HR.nn hv : HR _ _ _ (HV.psl (nnLL els)) u).pure β' (fun b hb hx => hN b hx hb) (nn_pure (.psl els) hp)⟩
  | pptr l =>
   have h : (bif pureL l then some (HV.pptr (nnL l), ([] : List Ky)) else none) = some (v', t) := h
   cases hp : pureL l with
   | false => rw [hp] at h; cases h
   | true =>
    rw [hp, cond_true] at h; cases h
    exact ⟨fun _ => rfl, by simp, fun β' N' hN _ => (HR.nn hv : HR _ _ _ (HV.pptr (nnL l)) u).pure β' (fun b hb hx => hN b hx hb) (nn_pure (.pptr l) hp)⟩
theorem vwL_sound (hr : Rel M C β s w) {n : Nat} {l l' : List HV} {t : List Ky} {us : List Value} (h : vwL (vw s n) l = some (l', t)) (hl : HRs β (Live M s β) w l us) : ((∀ x ∈ l, x.one = true) -> ∀ x ∈ l', x.one = true) /\ (∀ o ∈ t, ∃ tr lo hi g, tget s.h o = some (.cells tr lo hi g)) /\
  ∀ (β' : Bt) (N' : Nat -> Prop), (∀ b, N' b -> b < w.heap.size -> Live M s β b) -> (∀ o ∈ t, ∀ pl, β o = some pl -> ¬ N' pl.b) -> HRs β' N' w l' us := by
 induction l generalizing l' t us with
 | nil =>
  cases h
  exact ⟨by simp, by simp, fun _ _ _ _ => by
   have := hl.1
   exact ⟨this, by simp⟩⟩
 | cons x r ih =>
  unfold vwL at h
  split at h
  ·rename_i v1 t1 r1 t2 h1 h2
   cases h
   obtain ⟨u, us', rfl, g1, g2⟩ := hl.split
   obtain ⟨a1, a2, a3⟩ := vw_sound hr n x v1 t1 u h1 g1
   obtain ⟨b1, b2, b3⟩ := ih h2 g2
   refine ⟨fun h y hy => ?_, fun o ho => ?_, fun β' N' hN ht => .cons (a3 β' N' hN fun o ho => ht o (by simp [ho])) (b3 β' N' hN fun o ho => ht o (by simp [ho]))⟩
   ·rcases List.mem_cons.1 hy with rfl | hy
    ·exact a1 (h x (by simp))
    ·exact b1 (fun z hz => h z (by simp [hz])) y hy
   ·rcases List.mem_append.1 ho with ho | ho
    ·exact a2 o ho
    ·exact b2 o ho
  ·cases h
theorem killObs_spec (s : HS) : ∀ (t : List Ky), (killObs s t).nx = s.nx /\ (killObs s t).gr = s.gr /\ (killObs s t).ty = s.ty /\ (∀ x, tget (killObs s t).h x = tget s.h x ∨ tget (killObs s t).h x = none) /\
  ∀ o ∈ t, ∀ tr lo hi g ms, tget s.h o = some (.cells tr lo hi g) -> tget s.gr g = some ms -> ∀ m ∈ ms, tget (killObs s t).h m = none
 | [] => ⟨rfl, rfl, rfl, fun x => .inl rfl, by simp⟩
 | o :: r => by
  obtain ⟨h1, h2, h3, h4, h5⟩ := killObs_spec s r
  have hstep : (killObs s (o :: r)) = killObs s r /\ (∀ tr lo hi g ms, tget s.h o = some (.cells tr lo hi g) -> tget s.gr g ≠ some ms) ∨
    ∃ tr lo hi g ms, tget s.h o = some (.cells tr lo hi g) /\ tget s.gr g = some ms /\ killObs s (o :: r) = { h := killGr (killObs s r).h ms, nx := (killObs s r).nx, gr := (killObs s r).gr, ty := (killObs s r).ty } := by
   rw [killObs]
   split
   ·rename_i tr lo hi g hob
    split
    ·rename_i ms hms
     exact .inr ⟨tr, lo, hi, g, ms, hob, hms, rfl⟩
    ·rename_i hms
     exact .inl ⟨rfl, fun tr' lo' hi' g' ms hx hy => by rw [hob] at hx; cases hx; rw [hms] at hy; cases hy⟩
   ·rename_i hno
    exact .inl ⟨rfl, fun tr' lo' hi' g' ms hx hy => hno _ _ _ _ hx⟩
  rcases hstep with ⟨e, hno⟩ | ⟨tr, lo, hi, g, ms, e1, e2, e⟩
  ·rw [e]
   refine ⟨h1, h2, h3, h4, fun x hx tr lo hi g ms ho hm => ?_⟩
   rcases List.mem_cons.1 hx with rfl | hx
   ·exact absurd hm (hno _ _ _ _ _ ho)
   ·exact h5 x hx tr lo hi g ms ho hm
  ·rw [e]
   refine ⟨h1, h2, h3, fun x => ?_, fun x hx tr' lo' hi' g' ms' ho hm m hmm => ?_⟩
   ·obtain ⟨k1, k2⟩ := killGr_get (killObs s r).h ms x
    by_cases hx : x ∈ ms
    ·exact .inr (k1 hx)
    ·rcases h4 x with h | h
     ·exact .inl ((k2 hx).trans h)
     ·exact .inr ((k2 hx).trans h)
   ·obtain ⟨k1, k2⟩ := killGr_get (killObs s r).h ms m
    rcases List.mem_cons.1 hx with rfl | hx
    ·rw [e1] at ho; cases ho
     rw [e2] at hm; cases hm
     exact k1 hmm
    ·by_cases hx2 : m ∈ ms
     ·exact k1 hx2
     ·exact (k2 hx2).trans (h5 x hx tr' lo' hi' g' ms' ho hm m hmm)
theorem killObs_sound (hr : Rel M C β s w) {t : List Ky} (ht : ∀ o ∈ t, ∃ tr lo hi g, tget s.h o = some (.cells tr lo hi g)) : Rel M C β (killObs s t) w /\ Ext M β s w β (killObs s t) w /\ ∀ o ∈ t, ∀ pl, β o = some pl -> ¬ Live M (killObs s t) β pl.b := by
 obtain ⟨h1, h2, h3, h4, h5⟩ := killObs_spec s t
 have he : killObs s t = { h := (killObs s t).h, nx := s.nx, gr := s.gr, ty := s.ty } := by
  rw [<- h1, <- h2, <- h3]
 have hin : ∀ {x ob}, tget (killObs s t).h x = some ob -> tget s.h x = some ob := fun {x ob} hx => by
  rcases h4 x with e | e
  ·rw [<- e]; exact hx
  ·rw [e] at hx; cases hx
 refine ⟨?_, ?_, ?_⟩
 ·rw [he]; exact hr.sub h4 (fun x t' lo' hi' g' hx => hr.grp _ _ _ _ _ (hin hx)) hr.gnx
 ·rw [he]; exact Ext.sub h4
 ·intro o ho pl hpl hl
  obtain ⟨tr, lo, hi, g, hob⟩ := ht o ho
  obtain ⟨ms, hms, hom⟩ := hr.grp _ _ _ _ _ hob
  rcases hl with hm | ⟨x, ob, plx, k1, k2, k3⟩
  ·exact hr.mal _ hm ⟨o, _, pl, hob, hpl, rfl⟩
  ·have k1' := hin k1
   have hxm : x ∈ ms := by
    by_cases hxo : x = o
    ·subst hxo; exact hom
    ·obtain ⟨_, t1, lo1, hi1, g1, t2, lo2, hi2, q1, q2⟩ := hr.apart x o ob _ plx pl k1' hob k2 hpl hxo k3
     cases q2
     subst q1
     obtain ⟨ms', g1, g2⟩ := hr.grp _ _ _ _ _ k1'
     rw [hms] at g1; cases g1; exact g2
   rw [h5 o ho _ _ _ _ _ hob hms x hxm] at k1
   cases k1
theorem frz_sound {nt : Nat} {keep : List Nat} {ro : Option Nat} {lo : Nat} (hat : At M C nt keep ro lo β s e a w) : ∀ (ts : List Nat) {e' : En} {s' : HS}, evFrz s e ts = some (e', s') -> At M C nt keep ro lo β s' e' a w /\ Ext M β s w β s' w
 | [], e', s', h => by cases h; exact ⟨hat, Ext.refl _ _ _⟩
 | t :: r, e', s', h => by
  unfold evFrz at h
  split at h
  case h_2 => cases h
  rename_i e1 s1 h1
  obtain ⟨g1, g2⟩ := frz_sound hat r h1
  split at h
  case h_2 => cases h
  rename_i v hv
  split at h
  case h_2 => cases h
  rename_i v' l hvw
  cases h
  obtain ⟨k1, k2⟩ := g1.env t v hv
  obtain ⟨a1, a2, a3⟩ := vw_sound g1.rel 16 v v' l _ hvw k2
  obtain ⟨b1, b2, b3⟩ := killObs_sound g1.rel a2
  have hat2 := g1.later b1 b2
  refine ⟨{ hat2 with env := fun x y hx => ?_ }, g2.trans b2⟩
  rw [look_upd] at hx
  split at hx
  ·rename_i e; subst e; cases hx
   exact ⟨k1, a3 β _ (fun b hb hlt => b2.less b hlt hb) b3⟩
  ·exact hat2.env x y hx
theorem frc_sound {nt : Nat} {keep : List Nat} {ro : Option Nat} {lo : Nat} (hat : At M C nt keep ro lo β s e a w) {t off n : Nat} {s' : HS} (h : evFrc s e t off n = some s') : At M C nt keep ro lo β s' e a w /\ Ext M β s w β s' w := by
 unfold evFrc at h
 split at h
 case h_2 => cases h
 rename_i o k hv
 split at h
 case h_2 => cases h
 rename_i l hcl
 split at h
 case h_2 => cases h
 rename_i l' ts hvw
 cases hk : hasK o ts with
 | true => rw [hk] at h; cases h
 | false =>
 rw [hk, cond_false] at h
 simp only [] at h
 split at h
 case h_2 => cases h
 rename_i tr lo1 hi g hob
 cases h
 have hr := hat.rel
 obtain ⟨k1, k2⟩ := hat.env t _ hv
 obtain ⟨pl, hpl, hob1⟩ := hr.obj o _ (by
  rcases (killObs_spec s ts).2.2.2.1 o with e | e
  ·rw [<- e]; exact hob
  ·rw [e] at hob; cases hob)
 obtain ⟨d1, d2, d3, gg, d4, d5⟩ := hr.cellsAt hpl hcl
 have hrs : HRs β (Live M s β) w l ((List.range n).map gg) := by
  refine ⟨by simp [d2], fun j x y hx hy => ?_⟩
  have hj := (List.getElem?_eq_some_iff.1 hx).1
  rw [d2] at hj
  simp [hj] at hy
  subst hy; exact d5 j x hx
 obtain ⟨a1, a2, a3⟩ := vwL_sound hr hvw hrs
 obtain ⟨b1, b2, b3⟩ := killObs_sound hr a2
 obtain ⟨f1, f2⟩ := vwL_spec hvw
 have hnew := a3 β _ (fun b hb hlt => b2.less b hlt hb) b3
 have halive : ∀ b, Live M { h := tset (some (.cells (setL l' (k + off) tr) lo1 hi g)) o (killObs s ts).h, nx := (killObs s ts).nx, gr := (killObs s ts).gr, ty := (killObs s ts).ty } β b ↔ Live M (killObs s ts) β b := by
  intro b
  constructor
  ·rintro (hm | ⟨x, ob, plx, q1, q2, q3⟩)
   ·exact .inl hm
   ·simp only [tget_tset] at q1
    by_cases e : x = o
    ·subst e; exact .inr ⟨x, _, plx, hob, q2, q3⟩
    ·rw [if_neg e] at q1; exact .inr ⟨x, ob, plx, q1, q2, q3⟩
  ·rintro (hm | ⟨x, ob, plx, q1, q2, q3⟩)
   ·exact .inl hm
   ·by_cases e : x = o
    ·subst e; exact .inr ⟨x, .cells (setL l' (k + off) tr) lo1 hi g, plx, by simp [tget_tset], q2, q3⟩
    ·exact .inr ⟨x, ob, plx, by simp [tget_tset, e, q1], q2, q3⟩
 have hless : Less (Live M { h := tset (some (.cells (setL l' (k + off) tr) lo1 hi g)) o (killObs s ts).h, nx := (killObs s ts).nx, gr := (killObs s ts).gr, ty := (killObs s ts).ty } β) (Live M (killObs s ts) β) w := fun b _ hb => (halive b).1 hb
 have hx2 : Ext M β (killObs s ts) w β { h := tset (some (.cells (setL l' (k + off) tr) lo1 hi g)) o (killObs s ts).h, nx := (killObs s ts).nx, gr := (killObs s ts).gr, ty := (killObs s ts).ty } w :=
  ⟨Bt.le_refl _, Keeps.refl _ _, hless, rfl, rfl, rfl, fun _ r h => ⟨r, h⟩, Nat.le_refl _, fun _ _ => rfl⟩
 have hr2 : Rel M C β { h := tset (some (.cells (setL l' (k + off) tr) lo1 hi g)) o (killObs s ts).h, nx := (killObs s ts).nx, gr := (killObs s ts).gr, ty := (killObs s ts).ty } w := by
  refine ⟨b1.lt, fun x ob hx => ?_, fun x y ob ob' pl pl' hx hy h3 h4 hne hbb => ?_, fun x t' lo' hi' g' hx => ?_, b1.gnx, b1.mlt, fun b hm ha => ?_, b1.tyr⟩
  ·simp only [tget_tset] at hx
   by_cases e : x = o
   ·subst e
    rw [if_pos rfl] at hx; cases hx
    obtain ⟨pl', p1, p2⟩ := b1.obj x _ hob
    rw [hpl] at p1; cases p1
    refine ⟨pl, hpl, ?_⟩
    cases p2 with
    | cells _ _ _ _ cs E fr c1 c2 c3 c4 c5 =>
    refine .cells _ _ _ _ cs E fr c1 c2 c3 c4 fun k' v q1 q2 q3 => ?_
    rw [nget_setL] at q3
    split at q3
    ·rename_i hin
     have hj : k' - (k + off) < n := by rw [f1, d2] at hin; omega
     have hcell := d4 _ hj
     have hv' := hnew.2 (k' - (k + off)) v (gg (k' - (k + off))) q3 (by simp [hj])
     rw [cellAt_of c2] at hcell
     have d1' := d1
     refine ⟨a1 d3 v (List.mem_of_getElem? q3), _, ?_, hv'.keep (Bt.le_refl _) hless (Keeps.refl _ _)⟩
     rw [<- hcell]; congr 1; omega
    ·obtain ⟨r1, u, r2, r3⟩ := c5 k' v q1 q2 q3
     exact ⟨r1, u, r2, r3.keep (Bt.le_refl _) hless (Keeps.refl _ _)⟩
   ·rw [if_neg e] at hx
    obtain ⟨pl', p1, p2⟩ := b1.obj x ob hx
    exact ⟨pl', p1, p2.keep (Bt.le_refl _) hless (Keeps.refl _ _) rfl⟩
  ·have key : ∀ {x ob}, tget (tset (some (.cells (setL l' (k + off) tr) lo1 hi g)) o (killObs s ts).h) x = some ob -> ∃ ob0, tget (killObs s ts).h x = some ob0 /\ ∀ t1 l1 h1 g1, ob0 = .cells t1 l1 h1 g1 -> ∃ t2 l2 h2, ob = .cells t2 l2 h2 g1 := fun {x ob} hx => by
    simp only [tget_tset] at hx
    by_cases e : x = o
    ·subst e; rw [if_pos rfl] at hx; cases hx
     exact ⟨_, hob, fun t1 l1 h1 g1 he => by cases he; exact ⟨_, _, _, rfl⟩⟩
    ·rw [if_neg e] at hx; exact ⟨ob, hx, fun t1 l1 h1 g1 he => ⟨t1, l1, h1, he⟩⟩
   obtain ⟨ob0, p1, p2⟩ := key hx
   obtain ⟨ob0', p1', p2'⟩ := key hy
   obtain ⟨z1, t1, l1, h1, g1, t2, l2, h2, z2, z3⟩ := b1.apart x y ob0 ob0' pl pl' p1 p1' h3 h4 hne hbb
   obtain ⟨t3, l3, h3', z4⟩ := p2 _ _ _ _ z2
   obtain ⟨t4, l4, h4', z5⟩ := p2' _ _ _ _ z3
   exact ⟨z1, t3, l3, h3', g1, t4, l4, h4', z4, z5⟩
  ·simp only [tget_tset] at hx
   by_cases e : x = o
   ·subst e; rw [if_pos rfl] at hx; cases hx
    exact b1.grp _ _ _ _ _ hob
   ·rw [if_neg e] at hx; exact b1.grp _ _ _ _ _ hx
  ·rcases ha with ⟨x, ob, plx, q1, q2, q3⟩
   simp only [tget_tset] at q1
   by_cases e : x = o
   ·subst e; exact b1.mal b hm ⟨x, _, plx, hob, q2, q3⟩
   ·rw [if_neg e] at q1; exact b1.mal b hm ⟨x, ob, plx, q1, q2, q3⟩
 have hx3 := b2.trans hx2
 exact ⟨hat.later hr2 hx3, hx3⟩
end view
section code
variable {fx : Nat -> Option Obj} {P : Program} {nt : Nat} {keep : List Nat} {ih : Task -> Out}
theorem EnvR.toV {β : Bt} {N : Nat -> Prop} {w : World} {e : En} {a : Act} (h : EnvR β N w keep e a.tmps) : EnvV β N w e a := fun t v ht => (h t v ht).2
theorem CodeS.seq {x y : Code} {e : En} {s : HS} {z : Ex} {e1 : En} {s1 : HS} {z2 : Ex} {e2 : En} {s2 : HS} (h : CodeS (CR fx P) P nt keep x e s z e1 s1)
  (hn : z = .normal -> CodeS (CR fx P) P nt keep y e1 s1 z2 e2 s2) (hx : z ≠ .normal -> z = z2 /\ e1 = e2 /\ s1 = s2) : CodeS (CR fx P) P nt keep (.seq x y) e s z2 e2 s2 := by
 intro M ro lo β a w hat
 refine wpIn_seq (h.then hat (fun hz β' a' w' h1 h2 => ?_) fun hz a' w' hp => ?_)
 ·exact wpIn_mono (hn hz M ro lo β' a' w' h1) fun en a2 w2 hen => Post.after h2 hen
 ·obtain ⟨rfl, rfl, rfl⟩ := hx hz; exact hp
theorem LoopS.seq {c : Code} {e : En} {s : HS} {z : Ex} {e1 : En} {s1 : HS} {z2 : Ex} {e2 : En} {s2 : HS} (h : CodeS (CR fx P) P nt keep c e s z e1 s1)
  (hn : z = .normal -> LoopS (CR fx P) P nt keep c e1 s1 z2 e2 s2) (hx : z ≠ .normal -> z = z2 /\ e1 = e2 /\ s1 = s2) : LoopS (CR fx P) P nt keep c e s z2 e2 s2 := by
 intro M ro lo β a w hat
 refine loopIn_step (h.then hat (fun hz β' a' w' h1 h2 => ?_) fun hz a' w' hp => ?_)
 ·exact LoopIn.mono (hn hz M ro lo β' a' w' h1) fun en a2 w2 hen => Post.after h2 hen
 ·obtain ⟨rfl, rfl, rfl⟩ := hx hz; exact hp
theorem LoopS.code {c : Code} {e : En} {s : HS} {z2 : Ex} {e2 : En} {s2 : HS} (h : LoopS (CR fx P) P nt keep c e s z2 e2 s2) : CodeS (CR fx P) P nt keep (.loop c) e s z2 e2 s2 :=
 fun M ro lo β a w hat => wpIn_loopIn (h M ro lo β a w hat)
theorem rf_sound (hi : SoundI (CR fx P) P ih) {x : X} {ps : List Nat} {asg body : HC} {g : Operand} {params : Array Tmp} {assign bd : Code} (hc : chkC P nt keep (.rf x ps asg body) (.rangeFunc g params assign bd) = true) {e : En} {s : HS} {z : Ex} {e' : En} {s' : HS}
  (h : evRf ih x ps asg body e s = .code z e' s') : CodeS (CR fx P) P nt keep (.rangeFunc g params assign bd) e s z e' s' := by
 simp only [chkC, Bool.and_eq_true, beq_iff_eq] at hc
 obtain ⟨⟨⟨⟨⟨hx, hps⟩, hpk⟩, hnd⟩, hasg⟩, hbody⟩ := hc
 have hpk : ∀ p ∈ ps, p ∈ keep /\ p < nt := fun p hp => by
  have := List.all_eq_true.1 hpk p hp
  simpa using this
 unfold evRf at h
 split at h
 case h_2 => cases h
 rename_i f fa fb hox
 split at h
 case h_2 => cases h
 rename_i v2 s2 hcall
 split at h
 case h_2 => cases h
 rename_i st pend tm0 ps0 asg0 body0 hob2
 cases hst : Nat.beq st 2 with
 | true => rw [hst] at h; cases h
 | false =>
 rw [hst, cond_false] at h
 have hpend : ∃ j : Option Code, pendOf pend = some j /\ e' = e /\ s' = s2.kill s.nx /\ (match j with | none => z = .normal | some c => (c = .ret /\ z = .ret) ∨ ∃ i, c = .exit i /\ z = .exit i) := by
  split at h
  ·cases h; exact ⟨none, rfl, rfl, rfl, rfl⟩
  ·cases h; exact ⟨some .ret, rfl, rfl, rfl, .inl ⟨rfl, rfl⟩⟩
  ·rename_i i; cases h; exact ⟨some (.exit i), rfl, rfl, rfl, .inr ⟨i, rfl, rfl⟩⟩
  ·cases h
 obtain ⟨jump, hpo, rfl, rfl, hz⟩ := hpend
 obtain ⟨hcb, hcalls⟩ := hi.call _ _ _ _ _ hcall
 intro M ro lo β a w hat
 have hv := opd_sound hat.env.toV hx hox
 generalize hg : a.eval g = gv at hv
 cases hv with
 | fn _ _ _ fs cps hf1 hf2 hf3 hf4 =>
 refine wpIn_rangeFunc fun fn _ => ?_
 have key : ∀ (wd : World) (mark : List Deferred) (db : Nat), Rel M (CR fx P) β s wd -> Ext M β s w β s wd -> (Instr.enterLoop fn a.tmps params assign bd ro).run P w = .ok (wd.heap.size, mark) { wd with heap := wd.heap.push (.loop { state := .ready, pending := none, fn := fn, tmps := a.tmps, params := params, assign := assign, body := bd, defers := db }) } ->
   Marks lo (Live M s β) wd (mark ++ a.defers) ->
   ∃ (l : Nat) (mark : List Deferred) (w₁ : World) (d : Deferred) (w₁' : World) (f : FuncId) (args : Array Value) (w₂ : World),
   (Instr.enterLoop fn a.tmps params assign bd (FW ro).round).run P w = .ok (l, mark) w₁ /\
   (resolve a.eval (rangeCall g l) 0).run P w₁ = .ok d w₁' /\
   (∀ f', Target.leads P w₁' d.target d.args = some f' -> (FW ro).fn f') /\
   (invoke d.target d.args).run P w₁' = .ok (.enter f args) w₂ /\
   ((FW ro).depth.isSome = true -> 1 <= 0) /\
   CallsIn (FW ro) (0 - 1) P f args w₂ (rangePost (FW ro) 0 P l (fun en a' w' => en = z.to /\ ∃ β', At M (CR fx P) nt keep ro lo β' (s2.kill s.nx) e' a' w' /\ Ext M β s w β' (s2.kill s.nx) w') { a with defers := mark ++ a.defers }) := by
  intro wd mark db hrel hext hent hmarks
  generalize hw1 : ({ wd with heap := wd.heap.push (.loop { state := .ready, pending := none, fn := fn, tmps := a.tmps, params := params, assign := assign, body := bd, defers := db }) } : World) = w1 at hent
  obtain ⟨r1, x1⟩ := hrel.newObj (x := .loop { state := .ready, pending := none, fn := fn, tmps := a.tmps, params := params, assign := assign, body := bd, defers := db }) (ob := .loop 0 none e' ps asg body) (gr := s.gr) (ty := s.ty) (.inl rfl)
   (.loop 0 none e' ps asg body { state := .ready, pending := none, fn := fn, tmps := a.tmps, params := params, assign := assign, body := bd, defers := db } nt keep (by simp) rfl rfl ((hat.env.ext hext).keep (Bt.le_add hrel.fresh) (fun b hb hx => hx.resolve_left (by omega)) (Keeps.push _ _ _)) hat.size hps hpk (nodupB_iff hnd) hasg hbody)
   (.inr ⟨(fun _ _ _ _ h => by cases h), rfl⟩)
  rw [hw1] at r1 x1
  have hcst : ∀ v, a.eval (.const v) = v := fun _ => rfl
  have hres : (resolve a.eval (rangeCall g wd.heap.size) 0).run P w1 = .ok { target := .fn (.func f) cps, args := fs ++ #[Value.func (.yield wd.heap.size) #[] #[]] } w1 := by
   simp [resolve, hg, Deferred.ofValue, hcst]
  refine ⟨wd.heap.size, mark, w1, _, w1, f, fs ++ #[Value.func (.yield wd.heap.size) #[] #[]] ++ cps, w1, hent, hres, fun _ _ => trivial, by simp only [invoke]; exact run_callFunc hcb _ _, fun hx => (by cases hx), ?_⟩
  have hargs : HRs (β.add s.nx ⟨wd.heap.size, 0⟩) (Live M { h := tset (some (.loop 0 none e' ps asg body)) s.nx s.h, nx := s.nx.succ, gr := s.gr, ty := s.ty } (β.add s.nx ⟨wd.heap.size, 0⟩)) w1 (fa ++ [HV.yld s.nx] ++ fb) (fs.toList ++ [Value.func (.yield wd.heap.size) #[] #[]] ++ cps.toList) := by
   have hx2 := hext.trans x1
   refine (HRs.append (HRs.ext hx2 ⟨by simp [hf1], fun j v u hv hu => hf3 j v u hv (by simpa using hu)⟩) (.cons (.yld s.nx ⟨wd.heap.size, 0⟩ (by simp [Bt.add])) .nil)).append (HRs.ext hx2 ⟨by simp [hf2], fun j v u hv hu => hf4 j v u hv (by simpa using hu)⟩)
  have hc := hcalls M _ w1 _ r1 (hat.fix.ext (hext.trans x1)) hargs
  rw [show (fs.toList ++ [Value.func (.yield wd.heap.size) #[] #[]] ++ cps.toList).toArray = fs ++ #[Value.func (.yield wd.heap.size) #[] #[]] ++ cps by simp] at hc
  refine callsIn_fw (hc.mono ?_)
  intro en w3 hen
  obtain ⟨u, β2, rfl, r2, x2, _⟩ := hen
  have hβ2 : β2 s.nx = some ⟨wd.heap.size, 0⟩ := x2.le _ _ (by simp [Bt.add])
  obtain ⟨pl, hpl, hobr⟩ := r2.obj s.nx _ hob2
  rw [hβ2] at hpl; cases hpl
  cases hobr with
  | loop _ _ _ _ _ _ r nt0 keep0 b1 b2 b3 b4 b5 b6 b7 b8 b9 b10 =>
  have hst2 : r.state ≠ .busy := by
   rw [b2]
   intro hb
   have h2 : st ≠ 2 := fun e => by rw [e] at hst; cases hst
   unfold stOf at hb
   split at hb <;> first | (cases hb; done) | exact h2 rfl
  rw [hpo] at b3
  have hpend2 : r.pending = jump := by cases b3; rfl
  have hend : (Instr.endLoop wd.heap.size).run P w3 = .ok jump (setB w3 wd.heap.size (.loop { r with state := .exhausted })) := by
   have h1 : (getObj wd.heap.size).run P w3 = .ok (.loop r) w3 := run_gobj b1 rfl
   have h2 := run_sobj (P := P) (o' := .loop { r with state := .exhausted }) b1 rfl
   rw [hpend2] at h2
   simp [Instr.endLoop, Instr.getLoop, h1, hst2, h2, hpend2]
  have r3 := r2.kill s.nx
  have hall : Ext M β s w β2 (s2.kill s.nx) w3 := (hext.trans x1).trans (x2.trans (Ext.kill s.nx))
  have hdead : ¬ Alive (s2.kill s.nx) β2 wd.heap.size := by
   rintro ⟨o, ob, pl, c1, c2, c3⟩
   have c1 : tget (tset none s.nx s2.h) o = some ob := c1
   rw [tget_tset] at c1
   by_cases ho : o = s.nx
   ·rw [if_pos ho] at c1; cases c1
   ·rw [if_neg ho] at c1
    obtain ⟨_, t, lo, hi', g', t', lo', hi'', c5, _⟩ := r2.apart s.nx o _ _ _ _ hob2 c1 hβ2 c2 (Ne.symm ho) c3.symm
    cases c5
  have hnew : w.heap.size <= wd.heap.size := hext.keeps.size
  have r4 := r3.deadset (o' := .loop { r with state := .exhausted }) b1 rfl hdead
  have x4 := hall.deadset (o' := .loop { r with state := .exhausted }) b1 rfl hnew hat.rel.mlt
  have hm4 : Marks lo (Live M (s2.kill s.nx) β2) (setB w3 wd.heap.size (.loop { r with state := .exhausted })) (mark ++ a.defers) := by
   obtain ⟨rs, m1, m2, m3⟩ := hmarks
   refine ⟨rs, m1, m2, fun y hy => ?_⟩
   obtain ⟨m6, m4, m5⟩ := m3 y hy
   have hyl := lt_of_block m4
   have x5 := x1.trans (x2.trans (Ext.kill s.nx))
   exact ⟨m6, (setB_other w3 _ (by omega)).trans ((x5.keeps.same y hyl m5).trans m4), fun hx => m5 (x5.less y hyl hx)⟩
  have hfin : At M (CR fx P) nt keep ro lo β2 (s2.kill s.nx) e' { a with defers := mark ++ a.defers } (setB w3 wd.heap.size (.loop { r with state := .exhausted })) :=
   ⟨r4, hat.env.ext x4, hat.size, hm4, Nat.le_trans hat.lo_le x4.keeps.size, hat.fix.ext x4, fun l0 hl0 => let ⟨r0, h0⟩ := hat.rec_ l0 hl0; x4.loops l0 r0 h0⟩
  refine ⟨jump, _, hend, ?_⟩
  cases jump with
  | none => rw [hz]; exact ⟨rfl, β2, hfin, x4⟩
  | some c =>
   rcases hz with ⟨rfl, rfl⟩ | ⟨i, rfl, rfl⟩
   ·exact wpIn_ret ⟨rfl, β2, hfin, x4⟩
   ·exact wpIn_exit ⟨rfl, β2, hfin, x4⟩
 cases ro with
 | none =>
  refine key { w with heap := w.heap.push (.deferred (some [])) } [{ target := .collected w.heap.size, args := #[] }] w.heap.size (hat.rel.push _) (Ext.push hat.rel.mlt β s _) ?_ ?_
  ·simp [Instr.enterLoop]
   rfl
  ·obtain ⟨rs, m1, m2, m3⟩ := hat.marks
   refine ⟨w.heap.size :: rs, by simp [m1], List.nodup_cons.2 ⟨fun hmem => ?_, m2⟩, fun y hy => ?_⟩
   ·have := lt_of_block (m3 _ hmem).2.1; omega
   ·rcases List.mem_cons.1 hy with rfl | hy
    ·exact ⟨hat.lo_le, by simp, notLive_push hat.rel⟩
    ·obtain ⟨m6, m4, m5⟩ := m3 y hy
     exact ⟨m6, (heap_push w _ (lt_of_block m4)).trans m4, m5⟩
 | some l0 =>
  obtain ⟨r0, h0⟩ := hat.rec_ l0 rfl
  have hg0 : (getObj l0).run P w = .ok (.loop r0) w := run_gobj h0 rfl
  exact key w [] r0.defers hat.rel (Ext.refl _ _ _) (by simp [Instr.enterLoop, Instr.getLoop, hg0]) hat.marks
theorem ghost_normal {c : HC} {e : En} {s : HS} {x : Ex} {e' : En} {s' : HS} (hg : ghost c = true) (h : ev ih c e s = .code x e' s') : x = .normal := by
 cases c <;> first | (cases hg; done) | skip
 ·rename_i ts
  have h : opt (evFrz s e ts) (fun p => Out.code .normal p.1 p.2) (.bad 50) = .code x e' s' := h
  cases hf : evFrz s e ts with
  | none => rw [hf] at h; cases h
  | some p => rw [hf] at h; cases h; rfl
 ·rename_i t off n
  have h : opt (evFrc s e t off n) (fun s' => Out.code .normal e s') (.bad 51) = .code x e' s' := h
  cases hf : evFrc s e t off n with
  | none => rw [hf] at h; cases h
  | some p => rw [hf] at h; cases h; rfl
 ·cases h
theorem ghost_sound {M : Nat -> Prop} {ro : Option Nat} {lo : Nat} {β : Bt} {a : Act} {w : World} {c : HC} {e : En} {s : HS} {e' : En} {s' : HS} {x : Ex} (hat : At M (CR fx P) nt keep ro lo β s e a w) (hg : ghost c = true) (h : ev ih c e s = .code x e' s') :
  At M (CR fx P) nt keep ro lo β s' e' a w /\ Ext M β s w β s' w := by
 cases c <;> first | (cases hg; done) | skip
 ·rename_i ts
  have h : opt (evFrz s e ts) (fun p => Out.code .normal p.1 p.2) (.bad 50) = .code x e' s' := h
  cases hf : evFrz s e ts with
  | none => rw [hf] at h; cases h
  | some p => obtain ⟨e1, s1⟩ := p; rw [hf] at h; cases h; exact frz_sound hat ts hf
 ·rename_i t off n
  have h : opt (evFrc s e t off n) (fun s' => Out.code .normal e s') (.bad 51) = .code x e' s' := h
  cases hf : evFrc s e t off n with
  | none => rw [hf] at h; cases h
  | some p => rw [hf] at h; cases h; exact frc_sound hat hf
 ·cases h
theorem code_sound (hi : SoundI (CR fx P) P ih) (hm : P.follows .mixedOrders = true) : ∀ (c : HC) (code : Code) (e : En) (s : HS) (x : Ex) (e' : En) (s' : HS), chkC P nt keep c code = true -> ev ih c e s = .code x e' s' -> CodeS (CR fx P) P nt keep code e s x e' s' := by
  intro c
  induction c with
  | skip =>
    intro code e s x e' s' hc h
    cases code <;> first | (simp [chkC] at hc; done) | skip
    cases h
    exact fun M ro lo β a w hat => wpIn_skip ⟨rfl, β, hat, Ext.refl _ _ _⟩
  | ret =>
    intro code e s x e' s' hc h
    cases code <;> first | (simp [chkC] at hc; done) | skip
    cases h
    exact fun M ro lo β a w hat => wpIn_ret ⟨rfl, β, hat, Ext.refl _ _ _⟩
  | exit i =>
    intro code e s x e' s' hc h
    cases code <;> first | (simp [chkC] at hc; done) | skip
    simp only [chkC, beq_iff_eq] at hc
    subst hc
    cases h
    exact fun M ro lo β a w hat => wpIn_exit ⟨rfl, β, hat, Ext.refl _ _ _⟩
  | seq c d ihc ihd =>
    intro code e s x e' s' hc h
    rw [chkC_seq] at hc
    cases hg : ghost c with
    | true =>
      rw [hg, cond_true] at hc
      rcases asNormal_code (o := ev ih c e s) (f := ev ih d) h with ⟨e1, s1, h1, h2⟩ | ⟨h1, h2⟩
      · intro M ro lo β a w hat
        obtain ⟨hat1, hx1⟩ := ghost_sound hat hg h1
        refine wpIn_mono (ihd _ _ _ _ _ _ hc h2 M ro lo β a w hat1) ?_
        rintro en a' w' ⟨r1, β', r2, r3⟩
        exact ⟨r1, β', r2, hx1.trans r3⟩
      · exact absurd (ghost_normal hg h1) h2
    | false =>
      rw [hg, cond_false] at hc
      cases code <;> first | (cases hc; done) | skip
      simp only [Bool.and_eq_true] at hc
      rcases asNormal_code (o := ev ih c e s) (f := ev ih d) h with ⟨e1, s1, h1, h2⟩ | ⟨h1, h2⟩
      · exact (ihc _ _ _ _ _ _ hc.1 h1).seq (fun _ => ihd _ _ _ _ _ _ hc.2 h2) (fun hz => absurd rfl hz)
      · exact (ihc _ _ _ _ _ _ hc.1 h1).seq (fun hz => absurd hz h2) (fun _ => ⟨rfl, rfl, rfl⟩)
  | cond b c d ihc ihd =>
    intro code e s x e' s' hc h
    cases code <;> first | (simp [chkC] at hc; done) | skip
    simp only [chkC, Bool.and_eq_true] at hc
    have h : opt (opd b e) (fun v => v.asBool (ev ih c e s) (ev ih d e s) (.bad 8)) (.bad 8) = .code x e' s' := h
    cases hb : opd b e with
    | none => rw [hb] at h; cases h
    | some v =>
      rw [hb] at h
      cases v <;> first | (cases h; done) | skip
      rename_i q
      intro M ro lo β a w hat
      have hv := opd_sound hat.env.toV hc.1.1 hb
      rename_i bo _ _
      generalize hu : a.eval bo = u at hv
      cases hv
      cases q with
      | true => exact wpIn_cond_true hu (ihc _ _ _ _ _ _ hc.1.2 h M ro lo β a w hat)
      | false => exact wpIn_cond_false hu (ihd _ _ _ _ _ _ hc.2 h M ro lo β a w hat)
  | block i c ihc =>
    intro code e s x e' s' hc h
    cases code <;> first | (simp [chkC] at hc; done) | skip
    simp only [chkC, Bool.and_eq_true, beq_iff_eq] at hc
    obtain ⟨rfl, hc⟩ := hc
    cases hr : ev ih c e s with
    | val v s1 =>
      have h : (.bad 9 : Out) = .code x e' s' := by have h2 := h; simp only [ev] at h2 hr; rw [hr] at h2; exact h2
      cases h
    | bad w => have h : (.bad w : Out) = .code x e' s' := by have h2 := h; simp only [ev] at h2 hr; rw [hr] at h2; exact h2
               cases h
    | code y e1 s1 =>
      have h : (Ex.rec (motive := fun _ => Out) (Out.code .normal e1 s1) (Out.code .ret e1 s1) (fun j => ife (Nat.beq i j) (Out.code .normal e1 s1) (Out.code (.exit j) e1 s1)) y : Out) = .code x e' s' := by
        have h2 := h; simp only [ev] at h2 hr; rw [hr] at h2; exact h2
      intro M ro lo β a w hat
      refine wpIn_block (wpIn_mono (ihc _ _ _ _ _ _ hc hr M ro lo β a w hat) ?_)
      intro en a' w' hen
      obtain ⟨rfl, β', h1, h2⟩ := hen
      cases y with
      | normal => cases h; exact ⟨rfl, β', h1, h2⟩
      | ret => cases h; exact ⟨rfl, β', h1, h2⟩
      | exit j =>
        have h : ife (Nat.beq i j) (Out.code .normal e1 s1) (Out.code (.exit j) e1 s1) = .code x e' s' := h
        cases hij : Nat.beq i j with
        | true =>
          rw [nbeq_iff] at hij; subst hij
          rw [Nat.beq_refl] at h
          cases h
          simp only [Ex.to, Exit.inBlock, if_true]
          exact ⟨trivial, β', h1, h2⟩
        | false =>
          rw [hij] at h
          cases h
          have hne : j ≠ i := fun e => by subst e; rw [Nat.beq_refl] at hij; cases hij
          simp only [Ex.to, Exit.inBlock, if_neg hne]
          exact ⟨trivial, β', h1, h2⟩
  | loop c ihc =>
    intro code e s x e' s' hc h
    cases code <;> first | (simp [chkC] at hc; done) | skip
    simp only [chkC] at hc
    refine LoopS.code ?_
    rcases asNormal_code (o := ev ih c e s) (f := fun e' s' => ih (.loop c e' s')) h with ⟨e1, s1, h1, h2⟩ | ⟨h1, h2⟩
    · exact LoopS.seq (ihc _ _ _ _ _ _ hc h1) (fun _ => hi.loop nt keep c _ hc _ _ _ _ _ h2) (fun hz => absurd rfl hz)
    · exact LoopS.seq (ihc _ _ _ _ _ _ hc h1) (fun hz => absurd hz h2) (fun _ => ⟨rfl, rfl, rfl⟩)
  | rg outs l =>
    intro code e s x e' s' hc h
    cases code <;> first | (simp [chkC] at hc; done) | skip
    rename_i id goops q
    cases q <;> first | (simp [chkC] at hc; done) | skip
    simp only [chkC, Bool.and_eq_true] at hc
    exact rg_sound hi hc.1 hc.2 h
  | rgd outs main trail =>
    intro code e s x e' s' hc h
    cases code <;> first | (simp [chkC] at hc; done) | skip
    rename_i id goops q
    cases q <;> first | (simp [chkC] at hc; done) | skip
    simp only [chkC, Bool.and_eq_true] at hc
    exact rgd_sound hi hm hc.1 hc.2 h
  | rf x ps asg body _ _ =>
    intro code e s x e' s' hc h
    cases code <;> first | (simp [chkC] at hc; done) | skip
    exact rf_sound hi hc h
  | frz ts => intro code e s x e' s' hc h; simp [chkC] at hc
  | frc t off n => intro code e s x e' s' hc h; simp [chkC] at hc
  | gh keep => intro code e s x e' s' hc h; simp [chkC] at hc
end code
def chkR (P : Program) : List Rs -> List ResultVar -> Bool
 | [], [] => true
 | .tmp n :: r, .tmp t :: s => n == t && chkR P r s
 | .cell n none :: r, .cell b t :: s => n == b && isAggT P t == some false && chkR P r s
 | .cell n (some k) :: r, .cell b t :: s => n == b && isAggT P t == some true && sizeT P t == some k && chkR P r s
 | _, _ => false
def chkF (P : Program) (f : FuncId) (F : HF) : Bool := match P.funcs[f]? with
 | some fn => fn.ntmps == F.nt && decide (F.np <= F.nt) && (List.range F.np).all (fun i => F.keep.contains i) && chkR P F.rs fn.results.toList &&
   (match fn.body with | some c => chkC P F.nt F.keep F.c c | none => false) && fn.name != "runtime.NumGoroutine"
 | none => false
def resF (tmps : Array Value) : ResultVar -> Sem Value
 | .tmp t => pure (tmps.getD t undef)
 | .cell b t => do loadVar t (<- asAddr (tmps.getD b undef))
theorem run_mapM_cons {P : Program} {w : World} {γ : Type} (f : ResultVar -> Sem γ) (x : ResultVar) (xs : List ResultVar) {b : γ} {bs : List γ} (h1 : (f x).run P w = .ok b w) (h2 : (xs.mapM f).run P w = .ok bs w) :
  ((x :: xs).mapM f).run P w = .ok (b :: bs) w := by
 simp only [List.mapM_cons, Sem.run_bind, h1, h2, Result.andThen_ok, Sem.run_pure]
theorem mapM_array {γ : Type} (f : ResultVar -> Sem γ) (xs : Array ResultVar) : (xs.mapM f : Sem (Array γ)) = (List.toArray <$> xs.toList.mapM f) := by
 rw [Array.mapM_eq_mapM_toList]
section fn
variable {M : Nat -> Prop} {fx : Nat -> Option Obj} {P : Program} {β : Bt} {s : HS} {w : World} {keep : List Nat}
theorem res_sound {e : En} {tm : Array Value} (hr : Rel M (CR fx P) β s w) (he : EnvR β (Live M s β) w keep e tm) : ∀ (rs : List Rs) (vs : List ResultVar) (l : List HV), chkR P rs vs = true -> resOf e s rs = some l ->
  ∃ us : List Value, (vs.mapM (resF tm)).run P w = .ok us w /\ HRs β (Live M s β) w l us := by
 intro rs
 induction rs with
 | nil =>
  intro vs l hc h
  cases vs <;> simp [chkR] at hc
  cases h
  exact ⟨[], rfl, .nil⟩
 | cons r rs ih =>
  intro vs l hc h
  cases vs with
  | nil => cases r <;> (try rename_i k; cases k) <;> simp [chkR] at hc
  | cons v vs =>
   cases r with
   | tmp n =>
    cases v <;> simp only [chkR, Bool.and_eq_true, beq_iff_eq, Bool.false_eq_true] at hc
    obtain ⟨rfl, hc⟩ := hc
    unfold resOf at h
    split at h
    ·rename_i x l' hx hl
     cases h
     obtain ⟨us, h1, h2⟩ := ih vs l' hc hl
     exact ⟨_, run_mapM_cons _ _ _ rfl h1, .cons (he n x hx).2 h2⟩
    ·cases h
   | cell n sz =>
    have hld : ∃ b t, v = .cell b t /\ n = b /\ ldT P t sz /\ chkR P rs vs = true := by
     cases sz with
     | none =>
      cases v <;> simp only [chkR, Bool.and_eq_true, beq_iff_eq, Bool.false_eq_true] at hc
      exact ⟨_, _, rfl, hc.1.1, hc.1.2, hc.2⟩
     | some k =>
      cases v <;> simp only [chkR, Bool.and_eq_true, beq_iff_eq, Bool.false_eq_true] at hc
      exact ⟨_, _, rfl, hc.1.1.1, ⟨hc.1.1.2, hc.1.2⟩, hc.2⟩
    obtain ⟨b, t, rfl, rfl, hld, hc⟩ := hld
    have key : ∀ (p : HV) (x : HV) (l' : List HV), look e n = some p -> p.asPtr (fun o k => s.load o k sz) (loadP p sz) = some x -> resOf e s rs = some l' -> l = x :: l' ->
      ∃ us : List Value, ((ResultVar.cell n t :: vs).mapM (resF tm)).run P w = .ok us w /\ HRs β (Live M s β) w l us := by
     rintro p x l' hp hx hl rfl
     obtain ⟨us, h1, h2⟩ := ih vs l' hc hl
     obtain ⟨ad, h3, z, h4, h5⟩ := load_sound (P := P) hr hld (he n p hp).2 hx
     refine ⟨z :: us, run_mapM_cons _ _ _ ?_ h1, .cons h5 h2⟩
     simp only [resF, h3]
     simp [asAddr, h4]
    unfold resOf at h
    split at h
    ·rename_i o k hp
     split at h
     ·rename_i x l' hx hl; cases h; exact key _ x l' hp hx hl rfl
     ·cases h
    ·rename_i c hp
     split at h
     ·rename_i x l' hx hl; cases h; exact key _ x l' hp hx hl rfl
     ·cases h
    ·cases h
theorem leave_sound {F : HF} {fn : Func} {e : En} {tm : Array Value} (hr : Rel M (CR fx P) β s w) (he : EnvR β (Live M s β) w keep e tm) (hc : chkR P F.rs fn.results.toList = true) {v : HV} {s' : HS} (h : leave F e s = .val v s') :
  s' = s /\ ∃ u, (results fn tm).run P w = .ok u w /\ HR β (Live M s β) w v u := by
 have hres : ∀ us : List Value, (fn.results.toList.mapM (resF tm)).run P w = .ok us w -> (results fn tm).run P w = .ok (if h : us.toArray.size = 1 then us.toArray[0] else .tuple us.toArray) w := fun us hus => by
  show (do let vs <- fn.results.mapM (resF tm); pure (if h : vs.size = 1 then vs[0] else .tuple vs) : Sem Value).run P w = _
  rw [mapM_array, show (List.toArray <$> fn.results.toList.mapM (resF tm) : Sem (Array Value)) = (do let l <- fn.results.toList.mapM (resF tm); pure l.toArray) from rfl]
  simp only [Sem.run_bind, hus, Result.andThen_ok, Sem.run_pure]
 unfold leave at h
 split at h
 ·rename_i x hx
  cases h
  obtain ⟨us, h1, h2⟩ := res_sound hr he _ _ _ hc hx
  obtain ⟨u, us', rfl, h3, h4⟩ := h2.split
  have : us' = [] := List.eq_nil_of_length_eq_zero h4.1
  subst this
  exact ⟨rfl, u, by rw [hres _ h1]; simp, h3⟩
 ·rename_i l hne hl
  cases h
  obtain ⟨us, h1, h2⟩ := res_sound hr he _ _ _ hc hl
  refine ⟨rfl, .tuple us.toArray, ?_, .tup l us.toArray (by simp [h2.1]) fun i x u hx hu => h2.2 i x u hx (by simpa using hu)⟩
  rw [hres _ h1, dif_neg]
  intro h1'
  have hl1 : l.length = 1 := by rw [<- h2.1]; simpa using h1'
  match l, hl1 with
  | [x], _ => exact hne x rfl
 ·cases h
theorem leaves_sound {fn : Func} {e : En} {tm : Array Value} {β0 : Bt} {s0 : HS} {w0 : World} {R : Ending -> World -> Prop} (hm0 : ∀ b, M b -> b < w0.heap.size)
  (fin : ∀ w', Rel M (CR fx P) β s w' -> Ext M β0 s0 w0 β s w' -> EnvR β (Live M s β) w' keep e tm -> ∃ u, (results fn tm).run P w' = .ok u w' /\ R (.returned u) w') :
  ∀ (rs : List Nat) (w : World), rs.Nodup -> (∀ r ∈ rs, w0.heap.size <= r /\ w.heap[r]? = some (.deferred (some [])) /\ ¬ Live M s β r) -> Rel M (CR fx P) β s w -> Ext M β0 s0 w0 β s w -> EnvR β (Live M s β) w keep e tm ->
   LeavesInM Fence.wide 0 P fn tm R (rs.map fun r => { target := .collected r, args := #[] }) .returning w := by
 intro rs
 induction rs with
 | nil =>
  intro w _ _ hr hx he
  exact fin w hr hx he
 | cons r rs ih =>
  intro w hnd hall hr hx he
  obtain ⟨h1, h2, h3⟩ := hall r List.mem_cons_self
  obtain ⟨hnr, hnd⟩ := List.nodup_cons.1 hnd
  refine ⟨by simp, .inl ⟨r, setB w r (.deferred none), rfl, ?_, ?_⟩⟩
  ·have g1 : (getObj r).run P w = .ok (.deferred (some [])) w := run_gobj h2 rfl
   have g2 := run_sobj (P := P) (o' := .deferred none) h2 rfl
   simp [Instr.takeDeferred, g1, g2]
  ·have hcell := fun x k v => setB_cell (o' := .deferred none) h2 rfl x k v
   have hhas := fun x E n => setB_has' (o' := .deferred none) h2 rfl x E n
   refine ih _ hnd (fun y hy => ?_) (hr.deadset h2 rfl fun ha => h3 (.inr ha)) (hx.deadset h2 rfl h1 hm0) (he.cong hcell hhas (by simp [setB]))
   obtain ⟨a1, a2, a3⟩ := hall y (List.mem_cons_of_mem _ hy)
   have hne : y ≠ r := fun e => hnr (e ▸ hy)
   exact ⟨a1, (setB_other w _ hne).trans a2, a3⟩
theorem look_args0 : ∀ (l : List HV) (i t : Nat), look (args0 l i) t = if i <= t then l[t - i]? else none
 | [], i, t => by simp [args0, look]
 | v :: l, i, t => by
  have : args0 (v :: l) i = .cons i v (args0 l (i + 1)) := rfl
  rw [this, look_cons, look_args0 l (i + 1) t]
  by_cases h : i = t
  ·subst h; simp
  ·rw [if_neg h]
   by_cases h2 : i <= t
   ·rw [if_pos (by omega), if_pos h2, show t - i = (t - (i + 1)) + 1 by omega]; simp
   ·rw [if_neg (by omega), if_neg h2]
theorem call_sound {ih : Task -> Out} (hi : SoundI (CR fx P) P ih) (hm : P.follows .mixedOrders = true) {f : Nat} {F : HF} (hc : chkF P f F = true) {args : List HV} {v : HV} {s s' : HS} (h : stepNorm F ih args s = .val v s') :
  Callable P f /\ ∀ (M : Nat -> Prop) β w (vs : List Value), Rel M (CR fx P) β s w -> Fixed (CR fx P) (Live M s β) w -> HRs β (Live M s β) w args vs -> Calls P f vs.toArray w (Ended M (CR fx P) β s w v s') := by
 unfold stepNorm at h
 unfold chkF at hc
 split at hc
 case h_2 => cases hc
 rename_i fn hfn
 simp only [Bool.and_eq_true, beq_iff_eq, decide_eq_true_eq, List.all_eq_true, List.mem_range, bne_iff_ne, ne_eq] at hc
 obtain ⟨⟨⟨⟨⟨hnt, hnp⟩, hkeep⟩, hres⟩, hb⟩, hname⟩ := hc
 split at hb
 case h_2 => cases hb
 rename_i c hbody
 refine ⟨⟨fn, hfn, by rw [hbody]; rfl, by simpa using hname⟩, fun M β w vs hr hfx hvs => ?_⟩
 cases hl : Nat.beq (lenL args) F.np with
 | false => rw [hl] at h; cases h
 | true =>
 rw [hl] at h
 rw [nbeq_iff, lenL_eq] at hl
 cases hev : ev ih F.c (args0 args 0) s with
 | val x y => rw [hev] at h; cases h
 | bad x => rw [hev] at h; cases h
 | code x e1 s1 =>
 rw [hev] at h
 have hx : (x = .normal ∨ x = .ret) /\ leave F e1 s1 = .val v s' := by
  cases x with
  | normal => exact ⟨.inl rfl, h⟩
  | ret => exact ⟨.inr rfl, h⟩
  | exit i => cases h
 refine callsIn_wide (n := 0).1 (callsIn_of_wp_marks hfn hbody trivial ?_)
 have hvl : vs.length = F.np := hvs.1.trans hl
 have hat : At M (CR fx P) F.nt F.keep none w.heap.size β s (args0 args 0) { tmps := vs.toArray ++ Array.replicate (fn.ntmps - vs.toArray.size) undef, defers := [] } w := by
  refine ⟨hr, fun t x hx => ?_, ?_, .nil, Nat.le_refl _, hfx, fun l hl => by cases hl⟩
  ·rw [look_args0] at hx
   simp only [Nat.zero_le, if_true, Nat.sub_zero] at hx
   have ht : t < args.length := (List.getElem?_eq_some_iff.1 hx).1
   refine ⟨by simpa using hkeep t (by omega), hvs.2 t x _ hx ?_⟩
   have ht' : t < vs.length := by rw [hvs.1]; exact ht
   rw [List.getElem?_eq_getElem ht']
   simp only [Array.getD_eq_getD_getElem?]
   rw [Array.getElem?_append_left (by simpa using ht')]
   simp [ht']
  ·simp; omega
 refine wpIn_mono (code_sound hi hm _ _ _ _ _ _ _ hb hev M none w.heap.size β _ w hat) ?_
 intro en a' w' hen
 obtain ⟨rfl, β', h1, h2⟩ := hen
 obtain ⟨rs, m1, m2, m3⟩ := h1.marks
 have hl := leaves_sound (fn := fn) (e := e1) (tm := a'.tmps) (keep := F.keep) (R := Ended M (CR fx P) β s w v s') (β0 := β) (s0 := s) (w0 := w) hr.mlt (fun w2 r1 x1 he => by
  obtain ⟨rfl, u, q1, q2⟩ := leave_sound r1 he hres hx.2
  exact ⟨u, q1, u, β', rfl, r1, x1, q2⟩) rs w' m2 m3 h1.rel h2 h1.env
 rw [<- m1] at hl
 rcases hx.1 with rfl | rfl
 ·exact hl
 ·exact hl
end fn
end Go.Proofs.YtclepinjnoiakaaGreatDoor.K.Hm
