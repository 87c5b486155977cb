/- PactInside returns true for every arena, number and word. Conditions: the statement's own alone, part 5 of the proof. -/
import Derived.Test.YtclepinjnoiakaaGreatDoorCad
import Derived.Test.YtclepinjnoiakaaGreatDoorCac
import Derived.ReadAgain
import Derived.ChangeArms
import Derived.ChangeShapes
import GoSem.ClaimWide
set_option linter.all false
namespace Go.Proofs.YtclepinjnoiakaaGreatDoor.K.Hm.S
open Go
set_option maxRecDepth 10000
set_option linter.unusedSimpArgs false
theorem R_nils {L : Libs} {prog : Nat -> Option HF} (f : Nat) (F : HF) (v : HV) (s : HS) (hp : prog f = some F) (hl : plain L f = true) (hu : F.pu = true) (h : lim L prog (.call f [.agg [.psl []]] s0) = .val v s0) :
  lim L prog (.call f [.agg [.nils]] s) = .val v s := by
 have h := lim_unstep h trivial
 have h : lib L f [.agg [.psl []]] s0 (stepCall prog (lim L prog) f [.agg [.psl []]] s0) = .val v s0 := h
 rw [lib_plain hl] at h
 unfold stepCall at h
 rw [hp] at h
 have h : (bif F.pu then stepPure F (lim L prog) [.agg [.psl []]] s0 else stepNorm F (lim L prog) [.agg [.psl []]] s0) = .val v s0 := h
 rw [hu, cond_true] at h
 unfold stepPure at h
 have h : opt (runP F (lim L prog) [.agg [.psl []]]) (fun v => Out.val v s0) (Out.bad 40) = Out.val v s0 := h
 have hrun : runP F (lim L prog) [.agg [.psl []]] = some v := by
  cases hr : runP F (lim L prog) [.agg [.psl []]] with
  | none => rw [hr] at h; cases h
  | some v' => rw [hr] at h; cases h; rfl
 refine lim_step ?_ trivial
 show lib L f [.agg [.nils]] s (stepCall prog (lim L prog) f [.agg [.nils]] s) = _
 rw [lib_plain hl]
 unfold stepCall
 rw [hp]
 show (bif F.pu then stepPure F (lim L prog) [.agg [.nils]] s else stepNorm F (lim L prog) [.agg [.nils]] s) = _
 rw [hu, cond_true]
 unfold stepPure
 show opt (runP F (lim L prog) [.agg [.psl []]]) (fun v => Out.val v s) (Out.bad 40) = _
 rw [hrun]; rfl
theorem Cel.get1 {s : HS} {o : Ky} {c : List HV} (h : Cel s o c) (k : Nat) {x : HV} (hx : c[k]? = some x) : obCells (tget s.h o) k 1 = some [x] := by
 have hk := (List.getElem?_eq_some_iff.1 hx).1
 rw [h.1, obCells_c (Nat.zero_le _) (by omega) (by omega), List.take_one, List.head?_drop, hx]
 rfl
def tkL (t : Tk) (v1 v2 v3 v4 v5 : HV) : List HV := [.psl (t.x.a.ids.map Ty.c), .bool t.x.a.root.cell, .int .i64 t.x.a.root.n, .bool t.x.a.jumps, v1, v2, v3, v4, v5, .bool t.force, .bool t.x.lost, .int .i64 t.x.most]
def tkN (t : Tk) (v1 v2 v3 v4 v5 : HV) : List LEnt := [(v1, 4, t.x.w.map Mv.c), (v2, 1, t.x.pt.map iC), (v3, 1, t.x.js.map iC), (v4, 1, t.fo.map bC), (v5, 1, t.x.op.map nC)]
def TkE (s : HS) (o : Ky) (t : Tk) : Prop := ∃ v1 v2 v3 v4 v5 col, MemL s o (tkL t v1 v2 v3 v4 v5) col (tkN t v1 v2 v3 v4 v5)
theorem TkE.vw1 {n : Nat} {s : HS} {o : Ky} {t : Tk} (h : TkE s o t) : Vw s (n + 4) (.ptr o 0) (.pptr t.c) := by
 obtain ⟨v1, v2, v3, v4, v5, col, h⟩ := h
 refine Vw.ptr h.cel.1 rfl ?_
 exact .cons (.data (by simp)) (.cons (.data (by simp)) (.cons (.data (by simp)) (.cons (.data (by simp)) (.cons ((h.own 0 _ _ _ rfl).vw (by simp)) (.cons ((h.own 1 _ _ _ rfl).vw (by simp)) (.cons ((h.own 2 _ _ _ rfl).vw (by simp)) (.cons ((h.own 3 _ _ _ rfl).vw (by simp)) (.cons ((h.own 4 _ _ _ rfl).vw (by simp)) (.cons (.data (by simp)) (.cons (.data (by simp)) (.cons (.data (by simp)) .nil)))))))))))
def topI (x : Wk) : Int := match x.op.getLast? with
 | none => -1
 | some n => n
theorem topN_I (x : Wk) : ∃ b, topN x = [iV (topI x), .bool b] := by
 unfold topN topI
 cases x.op.getLast? with
 | none => exact ⟨_, rfl⟩
 | some n => exact ⟨_, rfl⟩
theorem top171 {t : Tk} (ht : TkOk t) {s : HS} {F : Ky -> Prop} {v : HV} (h : OwnF s v 1 F (t.x.op.map nC)) : R (.call 171 [.agg [v]] s) = .val (.tup (topN t.x)) s := by
 have h171 := w171n t.x ht.1
 have hvw : VwL s 16 [.agg [v]] [.agg [.psl (t.x.op.map nC)]] := .cons (Vw.agg (.cons (h.vw (by simp)) .nil)) .nil
 have hfl : flatR0 (.tup (topN t.x)) = true := by obtain ⟨b, hb⟩ := topN_I t.x; rw [hb]; rfl
 rcases h.2.2 with ⟨rfl, he⟩ | ⟨o, _, _, _, _, rfl, _⟩
 ·rw [he] at h171
  exact R_nils 171 U.f171 _ s rfl rfl rfl (h171 s0)
 ·exact v171 (by rfl) hvw (by simp) hfl h171
def sayT (t : Tk) (m : Mv) : Tk :=
 if tellB m then { x := { t.x with w := t.x.w ++ [m], op := t.x.op.dropLast, pt := t.x.pt.set (t.x.op.getLastD 0) t.x.w.length ++ [((t.x.op.getLastD 0 : Nat) : Int)], js := t.x.js ++ [((t.x.op.getLastD 0 : Nat) : Int)], lost := t.x.lost || (escB m && idB m && !t.force), most := max t.x.most t.x.op.dropLast.length }, fo := t.fo ++ [t.force], force := escB m && paB m }
 else { x := { t.x with w := t.x.w ++ [m], op := t.x.op ++ [t.x.w.length], pt := t.x.pt ++ [-1], js := t.x.js ++ [if idB m then 0 else if paB m then topI t.x else -1], most := max t.x.most (t.x.op.length + 1) }, fo := t.fo ++ [t.force], force := false }
theorem esc_tell {m : Mv} (h : tellB m = false) : escB m = false := by
 unfold tellB at h; unfold escB
 simp at h
 simp [h]
theorem w153a (t : Tk) (ht : TkOk t) (m : Mv) (hq : tellB m = false) (s : HS) (o : Ky) (h : TkE s o t) :
  ∃ s', R (.call 153 [.ptr o 0, .agg m.c] s) = .val (.tup []) s' /\ TkE s' o (sayT t m) := by
 obtain ⟨v1, v2, v3, v4, v5, col, h⟩ := h
 have hl := ht.1.len
 have hol := ht.1.opl
 have hpl := ht.1.ptl
 have hjl := ht.1.jsl
 have hfl := ht.2
 have h171 := top171 ht (h.own 4 _ _ _ rfl)
 obtain ⟨bt, hbt⟩ := topN_I t.x
 rw [hbt] at h171
 have h173 := w173 m
 have h177 := w177 m
 have h178 := w178 m
 have h179 := w179 m
 rw [hq] at h173
 rw [esc_tell hq] at h179
 simp only [Mv.c, iV] at h173 h177 h178 h179 h171
 have g8 := h.cel.get1 8 rfl
 have g4 := h.get 4 rfl
 have l4 := h.len 0 rfl
 have g7 := h.get 7 rfl
 have g9 := h.get 9 rfl
 generalize hj : (if idB m then 0 else if paB m then topI t.x else -1) = j
 have key : ∀ (e : En) (r : Out), ev R U.k153_0 e s = r -> look e 0 = some (.ptr o 0) -> look e 3 = some (.pptr m.c) -> look e 4 = some (iV (topI t.x)) -> look e 8 = some (iV (-1)) -> look e 7 = some (iV (-1)) -> ∃ e', r = .code .normal e' s /\ look e' 8 = some (iV j) /\ look e' 7 = some (iV (-1)) /\ look e' 0 = some (.ptr o 0) /\ look e' 3 = some (.pptr m.c) /\ look e' 6 = look e 6 := by
  intro e r hr e0 e3 e4 e8 e7
  cases hi : idB m <;> rw [hi] at h177
  ·cases hp : paB m <;> rw [hp] at h178
   ·simp -implicitDefEqProofs [U.k153_0, e0, e3, h173, h177, h178] at hr
    subst hr
    exact ⟨_, rfl, by simp [<- hj, hi, hp, e8], by simp [e7], by simp [e0], by simp [e3], by simp⟩
   ·simp -implicitDefEqProofs [U.k153_0, e0, e3, e4, h173, h177, h178] at hr
    subst hr
    exact ⟨_, rfl, by simp [<- hj, hi, hp], by simp [e7], by simp [e0], by simp [e3], by simp⟩
  ·simp -implicitDefEqProofs [U.k153_0, e0, e3, h173, h177] at hr
   subst hr
   exact ⟨_, rfl, by simp [<- hj, hi], by simp [e7], by simp [e0], by simp [e3], by simp⟩
 obtain ⟨v4', s1, col1, a1, c1, h1⟩ := h.append 3 rfl (new := [[.bool t.force]]) (Sz.cons rfl Sz.nil) (by simp) (mxl := 140737488355328) (by simp; omega)
 obtain ⟨s2, b1, h2⟩ := h1.field 7 (by simp [tkL]) c1
 obtain ⟨s3, b2, h3⟩ := h2.field 9 (by simp [tkL]) (x := .bool false) rfl
 have i4 := h3.get 4 rfl
 obtain ⟨v1', s4, col4, a4, c4, h4⟩ := h3.append 0 rfl (new := [m.c]) (Sz.cons rfl Sz.nil) (by simp) (mxl := 4398046511104) (by simp; omega)
 obtain ⟨s5, b5, h5⟩ := h4.field 4 (by simp [tkL]) c4
 have i5 := h5.get 5 rfl
 have i6 := h5.get 6 rfl
 obtain ⟨v2', s6, col6, a6, c6, h6⟩ := h5.append 1 rfl (new := [[iV (-1)]]) (Sz.cons rfl Sz.nil) (by simp) (mxl := 17592186044416) (by simp; omega)
 have j6 := h6.get 6 rfl
 obtain ⟨v3', s7, col7, a7, c7, h7⟩ := h6.append 2 rfl (new := [[iV j]]) (Sz.cons rfl Sz.nil) (by simp) (mxl := 17592186044416) (by simp; omega)
 obtain ⟨s8, b8, h8⟩ := h7.field 5 (by simp [tkL]) c6
 obtain ⟨s9, b9, h9⟩ := h8.field 6 (by simp [tkL]) c7
 have k8 := h9.get 8 rfl
 obtain ⟨v5', s10, col10, a10, c10, h10⟩ := h9.append 4 rfl (new := [[iV t.x.w.length]]) (Sz.cons rfl Sz.nil) (by simp) (mxl := 17592186044416) (by simp; omega)
 obtain ⟨s11, b11, h11⟩ := h10.field 8 (by simp [tkL]) c10
 have m11 := h11.get 11 rfl
 have m8 := h11.get 8 rfl
 have lm := h11.len 4 rfl
 obtain ⟨s12, b12, h12⟩ := h11.field 11 (by simp [tkL]) (x := .int .i64 (max t.x.most (t.x.op.length + 1))) rfl
 simp only [Mv.c] at a4
 simp at a1 a4 a6 a7 a10 l4 lm
 have hE : ∃ e', ev R U.b153 (args0 [.ptr o 0, .agg m.c] 0) s = .code .normal e' s12 := by
  generalize hr : ev R U.b153 (args0 [.ptr o 0, .agg m.c] 0) s = r
  simp -implicitDefEqProofs [U.b153, g8, h171, g4, l4] at hr
  generalize hk : ev R U.k153_0 _ s = r1 at hr
  obtain ⟨e1, k1, k2, k3, k4, k5, k6⟩ := key _ _ hk (by simp) (by simp) (by simp) (by simp) (by simp)
  clear hk
  subst k1
  simp at k6
  simp -implicitDefEqProofs [k2, k3, k4, k5, k6, g7, g9, a1, b1, h179, h173, b2, i4, a4, b5, i5, i6, a6, j6, a7, b8, b9, k8, a10, b11, m11, m8, lm, b12] at hr
  subst hr
  exact ⟨_, rfl⟩
 obtain ⟨e', hE⟩ := hE
 refine ⟨s12, n153 rfl ⟨.normal, _, s12, hE, .inl rfl, by simp⟩, v1', v2', v3', v4', v5', col10, ?_⟩
 unfold sayT
 rw [hq, hj]
 simpa [tkL, tkN] using h12
theorem w153b (t : Tk) (ht : TkOk t) (m : Mv) (hq : tellB m = true) (hop : t.x.op ≠ []) (s : HS) (o : Ky) (h : TkE s o t) :
  ∃ s', R (.call 153 [.ptr o 0, .agg m.c] s) = .val (.tup []) s' /\ TkE s' o (sayT t m) := by
 obtain ⟨v1, v2, v3, v4, v5, col, h⟩ := h
 have hl := ht.1.len
 have hol := ht.1.opl
 have hpl := ht.1.ptl
 have hjl := ht.1.jsl
 have hfl := ht.2
 have h171 := top171 ht (h.own 4 _ _ _ rfl)
 obtain ⟨bt, hbt⟩ := topN_I t.x
 rw [hbt] at h171
 obtain ⟨r, n, hrn⟩ : ∃ k n, t.x.op = k ++ [n] := by
  rcases List.eq_nil_or_concat t.x.op with hn | ⟨k, n, hn⟩
  ·exact absurd hn hop
  ·exact ⟨k, n, by simpa using hn⟩
 have htop : topI t.x = n := by unfold topI; rw [hrn]; simp
 rw [htop] at h171
 have hlen : t.x.op.length = r.length + 1 := by rw [hrn]; simp
 have hn : n < t.x.pt.length := by rw [hpl]; exact ht.1.op n (by rw [hrn]; simp)
 have hw : wrapF .i64 (r.length : Int) = r.length := wrapF_id (by omega) (by omega)
 have h173 := w173 m
 have h177 := w177 m
 have h178 := w178 m
 have h179 := w179 m
 rw [hq] at h173
 simp only [Mv.c, iV] at h173 h177 h178 h179 h171
 have g8 := h.cel.get1 8 rfl
 have g4 := h.get 4 rfl
 have l4 := h.len 0 rfl
 have g5 := h.get 5 rfl
 obtain ⟨o1, s1, i1, b1, h1⟩ := h.set1 1 rfl n (by simpa using hn) (x := iV t.x.w.length) rfl
 have g8' := h1.get 8 rfl
 have l8 := h1.len 4 rfl
 obtain ⟨o2, hv5, h2⟩ := h1.cut 4 rfl r.length (by simp [hlen]) (by simp [hop])
 obtain ⟨s3, b3, h3⟩ := h2.field 8 (x := .sl o2 0 r.length 1) (by simp [tkL]) rfl
 have g7 := h3.get 7 rfl
 have g9 := h3.get 9 rfl
 obtain ⟨v4', s4, col4, a4, c4, h4⟩ := h3.append 3 rfl (new := [[.bool t.force]]) (Sz.cons rfl Sz.nil) (by simp) (mxl := 140737488355328) (by simp; omega)
 obtain ⟨s5, b5, h5⟩ := h4.field 7 (by simp [tkL]) c4
 have g9' := h5.get 9 rfl
 obtain ⟨s5', b5', h5'⟩ := h5.field 10 (by simp [tkL]) (x := .bool true) rfl
 rw [hv5] at g8'
 simp only [Nat.mul_one] at b1 i1
 simp [hrn] at g8' l4 l8 a4
 generalize hlo : (t.x.lost || (escB m && idB m && !t.force)) = lo
 have key : ∀ (e : En) (r1 : Out), (ev R U.r153_13 e s5).asNormal (ev R (.cond (.t 83) U.r153_14 .skip)) = r1 -> look e 0 = some (.ptr o 0) -> look e 3 = some (.pptr m.c) ->
   ∃ e' s', r1 = .code .normal e' s' /\ (∀ k, k < 10 -> look e' k = look e k) /\ MemL s' o (tkL { t with x := { t.x with lost := lo } } v1 v2 v3 v4' (.sl o2 0 r.length 1)) col4 [(v1, 4, t.x.w.map Mv.c), (v2, 1, (t.x.pt.set n t.x.w.length).map iC), (v3, 1, t.x.js.map iC), (v4', 1, (t.fo ++ [t.force]).map bC), (.sl o2 0 r.length 1, 1, r.map nC)] := by
  intro e r1 hr e0 e3
  have hno : (escB m && idB m && !t.force) = false -> MemL s5 o (tkL { t with x := { t.x with lost := lo } } v1 v2 v3 v4' (.sl o2 0 r.length 1)) col4 [(v1, 4, t.x.w.map Mv.c), (v2, 1, (t.x.pt.set n t.x.w.length).map iC), (v3, 1, t.x.js.map iC), (v4', 1, (t.fo ++ [t.force]).map bC), (.sl o2 0 r.length 1, 1, r.map nC)] := by
   intro hno
   rw [hno, Bool.or_false] at hlo
   subst hlo
   simpa [tkL, tkN, hrn] using h5
  have hyes : (escB m && idB m && !t.force) = true -> MemL s5' o (tkL { t with x := { t.x with lost := lo } } v1 v2 v3 v4' (.sl o2 0 r.length 1)) col4 [(v1, 4, t.x.w.map Mv.c), (v2, 1, (t.x.pt.set n t.x.w.length).map iC), (v3, 1, t.x.js.map iC), (v4', 1, (t.fo ++ [t.force]).map bC), (.sl o2 0 r.length 1, 1, r.map nC)] := by
   intro hno
   rw [hno, Bool.or_true] at hlo
   subst hlo
   simpa [tkL, tkN, hrn] using h5'
  cases he : escB m <;> rw [he] at h179
  ·simp -implicitDefEqProofs [e0, e3, h179] at hr
   subst hr
   exact ⟨_, _, rfl, fun k hk => by simp [look_cons, hk]; omega, hno (by simp [he])⟩
  ·cases hi : idB m <;> rw [hi] at h177
   ·simp -implicitDefEqProofs [e0, e3, h179, h177] at hr
    subst hr
    exact ⟨_, _, rfl, fun k hk => by simp [look_cons, hk]; omega, hno (by simp [hi])⟩
   ·rcases Bool.eq_false_or_eq_true t.force with hf | hf
    ·rw [hf] at g9'
     simp -implicitDefEqProofs [e0, e3, h179, h177, g9'] at hr
     subst hr
     exact ⟨_, _, rfl, fun k hk => by simp [look_cons, hk]; omega, hno (by simp [hf])⟩
    ·rw [hf] at g9'
     simp -implicitDefEqProofs [e0, e3, h179, h177, g9', b5'] at hr
     subst hr
     exact ⟨_, _, rfl, fun k hk => by simp [look_cons, hk]; omega, hyes (by simp [he, hi, hf])⟩
 have hE : ∃ e' s', ev R U.b153 (args0 [.ptr o 0, .agg m.c] 0) s = .code .normal e' s' /\ TkE s' o (sayT t m) := by
  generalize hr : ev R U.b153 (args0 [.ptr o 0, .agg m.c] 0) s = r1
  simp -implicitDefEqProofs [-U.r153_13, -U.r153_14, U.b153, U.k153_0, g8, h171, g4, l4, h173, g5, i1, b1, g8', l8, hw, b3, g7, g9, a4, b5] at hr
  generalize hk : (ev R U.r153_13 _ s5).asNormal _ = r2 at hr
  obtain ⟨e1, s6, k1, k2, h6⟩ := key _ _ hk (by simp) (by simp)
  clear hk
  subst k1
  have e0 := k2 0 (by omega)
  have e3 := k2 3 (by omega)
  have e6 := k2 6 (by omega)
  have e7 := k2 7 (by omega)
  have e8 := k2 8 (by omega)
  simp at e0 e3 e6 e7 e8
  obtain ⟨s7, b7, h7⟩ := h6.field 9 (by simp [tkL]) (x := .bool (escB m && paB m)) rfl
  have f4 := h7.get 4 rfl
  obtain ⟨v1', s8, col8, a8, c8, h8⟩ := h7.append 0 rfl (new := [m.c]) (Sz.cons rfl Sz.nil) (by simp) (mxl := 4398046511104) (by simp; omega)
  obtain ⟨s9, b9, h9⟩ := h8.field 4 (by simp [tkL]) c8
  have f5 := h9.get 5 rfl
  have f6a := h9.get 6 rfl
  obtain ⟨v2', s10, col10, a10, c10, h10⟩ := h9.append 1 rfl (new := [[iV n]]) (Sz.cons rfl Sz.nil) (by simp) (mxl := 17592186044416) (by simp; omega)
  have f6 := h10.get 6 rfl
  obtain ⟨v3', s11, col11, a11, c11, h11⟩ := h10.append 2 rfl (new := [[iV n]]) (Sz.cons rfl Sz.nil) (by simp) (mxl := 17592186044416) (by simp; omega)
  obtain ⟨s12, b12, h12⟩ := h11.field 5 (by simp [tkL]) c10
  obtain ⟨s13, b13, h13⟩ := h12.field 6 (by simp [tkL]) c11
  have f11 := h13.get 11 rfl
  have f8 := h13.get 8 rfl
  have l8 := h13.len 4 rfl
  obtain ⟨s14, b14, h14⟩ := h13.field 11 (by simp [tkL]) (x := .int .i64 (max t.x.most r.length)) rfl
  simp only [Mv.c] at a8
  simp at a8 a10 a11 l8
  have hE2 : ∃ e', r1 = .code .normal e' s14 := by
   cases he : escB m <;> rw [he] at h179 b7 <;> simp only [Bool.false_and, Bool.true_and] at b7
   ·simp -implicitDefEqProofs [e0, e3, e6, e7, e8, h179, h173, b7, f4, a8, b9, f5, f6a, a10, f6, a11, b12, b13, f11, f8, l8, b14] at hr
    subst hr
    exact ⟨_, rfl⟩
   ·cases hp : paB m <;> rw [hp] at h178 b7 <;> simp -implicitDefEqProofs [-stV_ptr, e0, e3, e6, e7, e8, h179, h178, h173, b7, f4, a8, b9, f5, f6a, a10, f6, a11, b12, b13, f11, f8, l8, b14] at hr <;> subst hr <;> exact ⟨_, rfl⟩
  obtain ⟨e', hE2⟩ := hE2
  refine ⟨e', s14, hE2, v1', v2', v3', v4', .sl o2 0 r.length 1, col11, ?_⟩
  unfold sayT
  rw [hq, hlo]
  simpa [tkL, tkN, hrn] using h14
 obtain ⟨e', s', hE, hW⟩ := hE
 exact ⟨s', n153 rfl ⟨.normal, _, s', hE, .inl rfl, by simp⟩, hW⟩
theorem canT_op {t : Tk} {m : Mv} (hc : canT t m = true) (hq : tellB m = true) : t.x.op ≠ [] := by
 intro ho
 unfold canT at hc
 have : topM t.x = none := by unfold topM; rw [ho]; rfl
 rw [this, hq] at hc
 simp at hc
theorem w153 (t : Tk) (ht : TkOk t) (m : Mv) (hc : canT t m = true) (s : HS) (o : Ky) (h : TkE s o t) :
  ∃ s', R (.call 153 [.ptr o 0, .agg m.c] s) = .val (.tup []) s' /\ TkE s' o (sayT t m) := by
 cases hq : tellB m with
 | true => exact w153b t ht m hq (canT_op hc hq) s o h
 | false => exact w153a t ht m hq s o h
theorem sayT_w (t : Tk) (m : Mv) : (sayT t m).x.w = t.x.w ++ [m] := by unfold sayT; split <;> rfl
theorem TkOk.say {t : Tk} (ht : TkOk t) {m : Mv} (hl : t.x.w.length < 400) : TkOk (sayT t m) := by
 have h1 := ht.1.opl
 have h2 := ht.1.ptl
 have h3 := ht.1.jsl
 have h4 := ht.2
 cases hq : tellB m with
 | false =>
  unfold sayT
  rw [hq]
  refine ⟨⟨ht.1.ok, ht.1.chk, by simp; omega, fun n hn => ?_, by simp; omega, by simp; omega, by simp; omega⟩, by simp; omega⟩
  simp only [Bool.false_eq_true, if_false, List.mem_append, List.mem_singleton] at hn
  simp only [Bool.false_eq_true, if_false, List.length_append, List.length_singleton]
  rcases hn with hn | rfl
  ·have := ht.1.op n hn; omega
  ·omega
 | true =>
  unfold sayT
  rw [hq]
  refine ⟨⟨ht.1.ok, ht.1.chk, by simp; omega, fun n hn => ?_, by simp; omega, by simp; omega, by simp; omega⟩, by simp; omega⟩
  have := ht.1.op n ((List.dropLast_sublist _).subset hn)
  simp only [if_true, List.length_append, List.length_singleton]
  omega
def walkT (t : Tk) : List Mv -> Tk
 | [] => t
 | m :: r => if hasP t.x.a m && canT t m then walkT (sayT t m) r else t
def tk0 (a : Ar) : Tk := ⟨wk0 a, [], false⟩
theorem TkOk.zero {a : Ar} (ok : ArOk a) (hc : arCheck a = 0) : TkOk (tk0 a) := ⟨WkOk.zero ok hc, rfl⟩
set_option maxRecDepth 10000
set_option linter.unusedSimpArgs false
theorem MemL.frame {s s' : HS} {o : Ky} {cells : List HV} {col : Ky -> Option Nat} {L : List LEnt} (h : MemL s o cells col L) (hf : Frm (fun _ => False) s s') : MemL s' o cells col L :=
 ⟨h.cel.frame hf (fun h => h), h.co, fun i v sz els hi => (h.own i v sz els hi).frame hf (fun _ _ h => h)⟩
theorem TkE.frame {s s' : HS} {o : Ky} {t : Tk} (h : TkE s o t) (hf : Frm (fun _ => False) s s') : TkE s' o t := by
 obtain ⟨v1, v2, v3, v4, v5, col, h⟩ := h
 exact ⟨v1, v2, v3, v4, v5, col, h.frame hf⟩
theorem sayT_a (t : Tk) (m : Mv) : (sayT t m).x.a = t.x.a := by unfold sayT; split <;> rfl
theorem w125 (a : Ar) (ok : ArOk a) (hc : arCheck a = 0) (w : List Mv) (hl : w.length <= 400) (s : HS) : R (.call 125 [.agg a.c, .psl (w.map Mv.c)] s) = .val (.pptr (walkT (tk0 a) w).c) s := by
 refine q125 rfl (by simp) ?_
 simp -implicitDefEqProofs [U.b125, s0]
 generalize ho : evP R (.loop U.c125_0) _ _ = o
 have hq := loop_use ho w.length
  (fun i e s' => ∃ t, look e 2 = some (.pptr a.c) /\ look e 5 = some (.ptr .e 0) /\ look e 13 = some (.psl (w.map Mv.c)) /\ look e 14 = some (iV w.length) /\ look e 15 = some (iV i) /\ TkE s' .e t /\ TkOk t /\ t.x.a = a /\ t.x.w.length = i /\ walkT (tk0 a) w = walkT t (w.drop i))
  (fun o => ∃ e' s', o = .code (.exit 0) e' s' /\ look e' 5 = some (.ptr .e 0) /\ TkE s' .e (walkT (tk0 a) w))
  0 (by omega) ⟨tk0 a, by simp, by simp, by simp, by simp, by simp, by
   exact ⟨.nils, .nils, .nils, .nils, .nils, _, MemL.start ⟨by simp [tkL, tk0, wk0], by simp, by simp [Ky.toNat]⟩ (by simp [tkN, tk0, wk0])⟩, TkOk.zero ok hc, rfl, rfl, by simp⟩
  (fun i e s' r hi ⟨t, h2, h5, h13, h14, h15, hE, hok, hta, hxl, hrun⟩ hr => by
   have hd : w.drop i = w[i] :: w.drop (i + 1) := List.drop_eq_getElem_cons hi
   rw [hd] at hrun
   have hal := Frm.alloc (s := s') (.cells (Lst w[i].c) 0 4 s'.nx) [s'.nx]
   have hE1 := hE.frame (hal.mono fun _ h => h)
   generalize hS : HS.mk (tset (some (.cells (Lst w[i].c) 0 4 s'.nx)) s'.nx s'.h) s'.nx.succ (tset (some [s'.nx]) s'.nx s'.gr) s'.ty = S at *
   have h151 := w151 a ok w[i]
   rw [hc] at h151
   have hcan := v152 (args := [.ptr .e 0, .agg w[i].c]) (l := [.pptr t.c, .agg w[i].c]) (s := S) (v := .bool (canT t w[i])) pureL_ptr (.cons hE1.vw1 (.data (by simp))) (by simp) rfl (fun s => w152 t hok w[i] s)
   have hob : tget S.h s'.nx = some (.cells (Lst w[i].c) 0 4 s'.nx) := by rw [<- hS]; simp
   simp only [Mv.c, Ar.c, iV, decide_true, Bool.true_and] at h151 hcan hS hob
   have hi' : (i : Int) < w.length := by omega
   cases hp : hasP a w[i] with
   | false =>
    rw [hp] at h151
    simp only [walkT, hta, hp, Bool.false_and, Bool.false_eq_true, if_false] at hrun
    simp -implicitDefEqProofs [U.c125_0, h2, h5, h13, h14, h15, hi, hi', h151, obStore_c, storeG_1, obCells_c, hS, hob] at hr
    subst hr
    exact .inr ⟨by simp, _, _, rfl, by simp [h5], by rw [hrun]; exact hE1⟩
   | true =>
    rw [hp] at h151
    cases hcn : canT t w[i] with
    | false =>
     rw [hcn] at hcan
     simp only [walkT, hta, hp, hcn, Bool.and_false, Bool.false_eq_true, if_false] at hrun
     simp -implicitDefEqProofs [U.c125_0, h2, h5, h13, h14, h15, hi, hi', h151, hcan, obStore_c, storeG_1, obCells_c, hS, hob] at hr
     subst hr
     exact .inr ⟨by simp, _, _, rfl, by simp [h5], by rw [hrun]; exact hE1⟩
    | true =>
     rw [hcn] at hcan
     simp only [walkT, hta, hp, hcn, Bool.and_true, if_true] at hrun
     obtain ⟨s'', htake, hE'⟩ := w153 t hok w[i] hcn S .e hE1
     simp only [Mv.c] at htake
     simp -implicitDefEqProofs [U.c125_0, h2, h5, h13, h14, h15, hi, hi', h151, hcan, htake, obStore_c, storeG_1, obCells_c, hS, hob, wrap1 (n := 400) (show i < 400 by omega) (by omega)] at hr
     subst hr
     exact .inl ⟨_, _, rfl, sayT t w[i], by simp [h2], by simp [h5], by simp [h13], by simp [h14], by simp, hE', hok.say (by omega), by rw [sayT_a]; exact hta, by rw [sayT_w]; simp [hxl], hrun⟩)
  (fun e s' r ⟨t, h2, h5, h13, h14, h15, hE, hok, hta, hxl, hrun⟩ hr => by
   rw [List.drop_length] at hrun
   simp only [walkT] at hrun
   simp -implicitDefEqProofs [U.c125_0, h2, h5, h13, h14, h15] at hr
   subst hr
   exact ⟨by simp, _, _, rfl, by simp [h5], by rw [hrun]; exact hE⟩)
 clear ho
 obtain ⟨e', s', rfl, h5, hE⟩ := hq
 have hv : Vw s' 16 (.ptr .e 0) (.pptr (walkT (tk0 a) w).c) := hE.vw1
 simp [h5]
 exact dataV_of hv
theorem walkT_len : ∀ (w : List Mv) (t : Tk), (walkT t w).x.w.length <= t.x.w.length + w.length
 | [], t => by simp [walkT]
 | m :: r, t => by
  simp only [walkT]
  split
  ·have := walkT_len r (sayT t m)
   rw [sayT_w] at this
   simp at this ⊢
   omega
  ·simp
theorem w86 (a : Ar) (ok : ArOk a) (w : List Mv) (s : HS) : R (.call 86 [.agg a.c, .psl (w.map Mv.c)] s) = .val (.tup (if arCheck a = 0 then (if w.length <= 400 then [.pptr (walkT (tk0 a) w).c, iV 0] else [.nilp, iV 5]) else [.nilp, iV (arCheck a)])) s := by
 refine q86 rfl (by simp) ?_
 have h82 := w82 a ok
 simp only [Ar.c, iV] at h82
 by_cases hc : arCheck a = 0
 ·rw [hc] at h82
  by_cases hl : w.length <= 400
  ·have hl' : ¬ (400 : Int) < w.length := by omega
   have h125 := w125 a ok hc w hl
   simp only [Ar.c] at h125
   have hd : isDL (walkT (tk0 a) w).c = true := by simp
   generalize (walkT (tk0 a) w).c = wc at h125 hd
   simp -implicitDefEqProofs [U.b86, h82, hl', h125, hc, hl]
   exact dataV_of (.tup (.data (by simp [hd])))
  ·have hl' : (400 : Int) < w.length := by omega
   simp -implicitDefEqProofs [U.b86, h82, hl', hc, hl]
   exact dataV_of (.tup (.data (by simp)))
 ·simp -implicitDefEqProofs [U.b86, h82, hc]
  exact dataV_of (.tup (.data (by simp)))
def playE (a : Ar) (w : List Mv) : Int := if arCheck a = 0 then (if w.length <= 400 then (if (walkT (tk0 a) w).x.w.length < w.length then 13 else 0) else 5) else arCheck a
def playN (a : Ar) (w : List Mv) : Int := if arCheck a = 0 /\ w.length <= 400 /\ (walkT (tk0 a) w).x.w.length < w.length then (walkT (tk0 a) w).x.w.length else 0
theorem w45 (a : Ar) (ok : ArOk a) (w : List Mv) (s : HS) : R (.call 45 [.agg a.c, .psl (w.map Mv.c)] s) = .val (.tup [iV (playN a w), iV (playE a w)]) s := by
 refine q45 rfl (by simp) ?_
 have h86 := w86 a ok w
 simp only [Ar.c, iV] at h86
 unfold playN playE
 by_cases hc : arCheck a = 0
 ·by_cases hl : w.length <= 400
  ·simp only [hc, hl, if_true, Tk.c] at h86
   by_cases hw : (walkT (tk0 a) w).x.w.length < w.length
   ·have hw' : ((walkT (tk0 a) w).x.w.length : Int) < w.length := by omega
    simp -implicitDefEqProofs [U.b45, h86, hc, hl, hw, hw']
    exact dataV_of (.tup (.data (by simp)))
   ·have hw' : ¬ ((walkT (tk0 a) w).x.w.length : Int) < w.length := by omega
    simp -implicitDefEqProofs [U.b45, h86, hc, hl, hw, hw']
    exact dataV_of (.tup (.data (by simp)))
  ·simp only [hc, hl, if_true, if_false] at h86
   simp -implicitDefEqProofs [U.b45, h86, hc, hl]
   exact dataV_of (.tup (.data (by simp)))
 ·simp only [hc, if_false] at h86
  simp -implicitDefEqProofs [U.b45, h86, hc]
  exact dataV_of (.tup (.data (by simp)))
def lookE (a : Ar) (id : Int) (w : List Mv) : Int := if playE a w = 0 then (if id < 1 ∨ a.ids.length < id then 7 else 0) else playE a w
theorem w56 (a : Ar) (ok : ArOk a) (id : Int) (w : List Mv) (s : HS) : R (.call 56 [.agg a.c, iV id, .psl (w.map Mv.c)] s) = .val (iV (lookE a id w)) s := by
 refine q56 rfl (by simp) ?_
 have h45 := w45 a ok w
 simp only [Ar.c, iV] at h45
 unfold lookE
 by_cases hp : playE a w = 0
 ·rw [hp] at h45
  by_cases h1 : id < 1
  ·simp -implicitDefEqProofs [U.b56, h45, hp, h1, dataV_data]
  ·by_cases h2 : (a.ids.length : Int) < id
   ·simp -implicitDefEqProofs [U.b56, h45, hp, h1, h2, dataV_data]
   ·simp -implicitDefEqProofs [U.b56, h45, hp, h1, h2, dataV_data]
 ·simp -implicitDefEqProofs [U.b56, h45, hp, dataV_data]
def legalB (a : Ar) (w : List Mv) : Bool := decide (arCheck a = 0) && (decide (w.length <= 400) && decide ((walkT (tk0 a) w).x.w.length = w.length))
theorem playE_legal {a : Ar} {w : List Mv} (h : playE a w = 0) : arCheck a = 0 /\ w.length <= 400 /\ (walkT (tk0 a) w).x.w.length = w.length := by
 unfold playE at h
 split at h
 ·rename_i hc
  split at h
  ·rename_i hl
   split at h
   ·cases h
   ·have := walkT_len w (tk0 a)
    rw [show (tk0 a).x.w.length = 0 from rfl] at this
    exact ⟨hc, hl, by omega⟩
  ·cases h
 ·rename_i hc; exact absurd h hc
theorem w127 (t : Tk) (s : HS) : R (.call 127 [.pptr t.c] s) = .val (.tup [.psl (t.x.js.map iC), iV 0]) s := by
 refine q127 rfl (by simp) ?_
 simp -implicitDefEqProofs [U.b127]
 exact dataV_of (.tup (.data (by simp)))
theorem w126 (a : Ar) (ok : ArOk a) (w : List Mv) (hp : playE a w = 0) (s : HS) : R (.call 126 [.agg a.c, .psl (w.map Mv.c), .fn 127 [] []] s) = .val (.tup [.psl ((walkT (tk0 a) w).x.js.map iC), iV 0]) s := by
 refine q126 rfl (by simp) ?_
 obtain ⟨hc, hl, hw⟩ := playE_legal hp
 have h86 := w86 a ok w
 have h127 := w127 (walkT (tk0 a) w)
 simp only [hc, hl, if_true, Tk.c, Ar.c, iV] at h86 h127
 have hw' : ¬ ((walkT (tk0 a) w).x.w.length : Int) < w.length := by omega
 simp -implicitDefEqProofs [U.b126, h86, h127, hw']
 exact dataV_of (.tup (.data (by simp)))
theorem w87 (a : Ar) (ok : ArOk a) (w : List Mv) (hp : playE a w = 0) (s : HS) : R (.call 87 [.agg a.c, .psl (w.map Mv.c)] s) = .val (.tup [.psl ((walkT (tk0 a) w).x.js.map iC), iV 0]) s := by
 refine q87 rfl (by simp) ?_
 have h126 := w126 a ok w hp
 simp only [Ar.c, iV] at h126
 simp -implicitDefEqProofs [U.b87, h126]
 exact dataV_of (.tup (.data (by simp)))
theorem w89 (w : List Mv) (hl : w.length <= 400) (i : Nat) (hi : i < w.length) (s : HS) : R (.call 89 [.psl (w.map Mv.c), iV i] s) = .val (.bool (forcedAt w i)) s := by
 refine q89 rfl (by simp) ?_
 cases i with
 | zero => simp -implicitDefEqProofs [U.b89, dataV_data, forcedAt]
 | succ i =>
  have h88 := w88
  have hm : w[i]? = some w[i] := List.getElem?_eq_getElem (by omega)
  unfold forcedAt
  simp only [hm]
  have h1 : (0 : Int) < (i : Int) + 1 := by omega
  have h2 : wrapF .i64 (i : Int) = i := wrapF_id (by omega) (by omega)
  have hil : i < w.length := by omega
  have h88 := h88 w[i]
  generalize hmm : w[i] = m at *
  simp only [Mv.c] at h88
  cases he : escB m <;> rw [he] at h88 <;> simp -implicitDefEqProofs [U.b89, dataV_data, h1, h2, hil, h88, hmm]
set_option maxRecDepth 10000
set_option linter.unusedSimpArgs false
abbrev KI : Kd := ⟨false, [0]⟩
theorem eqK_int (a b : Int) : eqK KI (iV a) (iV b) = some (decide (a = b)) := by
 show (bif typL [0] [iV a] && typL [0] [iV b] then (iV a).eq0 (iV b) else none) = _
 have h1 : typL [0] [iV a] = true := rfl
 have h2 : typL [0] [iV b] = true := rfl
 rw [h1, h2]
 show (iV a).eq0 (iV b) = _
 exact eq0_int _ _ _
def mpOf : List Int -> Nat -> List (HV × HV)
 | [], _ => []
 | k :: r, i => if k < 0 then mpOf r (i + 1) else (iV i, iV k) :: mpOf r (i + 1)
theorem mpOf_snoc (k : Int) : ∀ (l : List Int) (i : Nat), mpOf (l ++ [k]) i = mpOf l i ++ (if k < 0 then [] else [(iV (i + l.length : Nat), iV k)])
 | [], i => by simp [mpOf]
 | x :: r, i => by
  have h := mpOf_snoc k r (i + 1)
  simp only [List.cons_append, mpOf, List.length_cons]
  rw [h]
  have e : i + 1 + r.length = i + (r.length + 1) := by omega
  rw [e]
  split <;> rfl
theorem findI_none : ∀ (l : List Int) (i j n : Nat), i + l.length <= j -> ∃ m, findI KI (mpOf l i) (iV j) n = some (m, none)
 | [], i, j, n, _ => ⟨n, by rw [mpOf, findI]⟩
 | x :: r, i, j, n, h => by
  simp only [List.length_cons] at h
  rw [mpOf]
  split
  ·exact findI_none r (i + 1) j n (by omega)
  ·rw [findI, eqK_int, decide_eq_false (by omega)]
   exact findI_none r (i + 1) j (n + 1) (by omega)
theorem findI_some : ∀ (l : List Int) (i j n : Nat) (k : Int), l[j]? = some k -> 0 <= k -> ∃ m, findI KI (mpOf l i) (iV (i + j : Nat)) n = some (m, some (iV k))
 | [], i, j, n, k, h, _ => by cases h
 | x :: r, i, 0, n, k, h, hk => by
  simp at h; subst h
  rw [mpOf, if_neg (by omega), findI, eqK_int, decide_eq_true (by simp)]
  exact ⟨n, rfl⟩
 | x :: r, i, j + 1, n, k, h, hk => by
  have e : i + (j + 1) = i + 1 + j := by omega
  rw [e, mpOf]
  split
  ·exact findI_some r (i + 1) j n k (by simpa using h) hk
  ·rw [findI, eqK_int, decide_eq_false (by omega)]
   exact findI_some r (i + 1) j (n + 1) k (by simpa using h) hk
section
variable {e : En} {s : HS}
noncomputable def lkR (K : Kd) (m k : Option HV) (z : HV) (ok : Bool) (s : HS) : Res := match m, k with
  | some .nilm, some key => bif okK K key then .v (bif ok then .tup [z, .bool false] else z) s else .bad
  | some (.mp o), some key => bif okK K key then (match tget s.h o with
   | some (.mp es) => (match findI K es key 0 with
    | some (_, some v) => .v (bif ok then .tup [v, .bool true] else v) s
    | some (_, none) => .v (bif ok then .tup [z, .bool false] else z) s
    | none => .bad)
   | _ => .bad) else .bad
  | _, _ => .bad
noncomputable def muR (K : Kd) (m k v : Option HV) (s : HS) : Res := match m, k, v with
  | some (.mp o), some key, some v => bif okK K key then (match tget s.h o with
   | some (.mp es) => (match findI K es key 0 with
    | some (i, some _) => .v .undef (s.setOb o (.mp (setI es i v)))
    | some (_, none) => .v .undef (s.setOb o (.mp (es ++ [(key, v)])))
    | none => .bad)
   | _ => .bad) else .bad
  | _, _, _ => .bad
@[simp] theorem hop_mkm : hop .mkm e s = .v (.mp s.nx) { h := tset (some (.mp [])) s.nx s.h, nx := s.nx.succ, gr := s.gr, ty := s.ty } := rfl
@[simp] theorem hop_lkp {K : Kd} {m k : X} {z : HV} {ok : Bool} : hop (.lkp K m k z ok) e s = lkR K (opd m e) (opd k e) z ok s := rfl
@[simp] theorem hop_mup {K : Kd} {m k v : X} : hop (.mup K m k v) e s = muR K (opd m e) (opd k e) (opd v e) s := rfl
theorem lkR_v {o : Ky} {l : List Int} {j : Nat} {k : Int} (h : tget s.h o = some (.mp (mpOf l 0))) (hj : l[j]? = some k) (hk : 0 <= k) : lkR KI (some (.mp o)) (some (iV j)) (iV 0) false s = .v (iV k) s := by
 obtain ⟨m, hm⟩ := findI_some l 0 j 0 k hj hk
 rw [Nat.zero_add] at hm
 show (match tget s.h o with
   | some (.mp es) => (match findI KI es (iV j) 0 with
    | some (_, some v) => Res.v (bif false then .tup [v, .bool true] else v) s
    | some (_, none) => .v (bif false then .tup [iV 0, .bool false] else iV 0) s
    | none => .bad)
   | _ => .bad) = _
 rw [h]
 simp only [hm]
 rfl
theorem muR_v {o : Ky} {l : List Int} {k : Int} (h : tget s.h o = some (.mp (mpOf l 0))) (hk : 0 <= k) : muR KI (some (.mp o)) (some (iV l.length)) (some (iV k)) s = .v .undef (s.setOb o (.mp (mpOf (l ++ [k]) 0))) := by
 obtain ⟨m, hm⟩ := findI_none l 0 l.length 0 (by omega)
 show (match tget s.h o with
   | some (.mp es) => (match findI KI es (iV l.length) 0 with
    | some (i, some _) => Res.v .undef (s.setOb o (.mp (setI es i (iV k))))
    | some (_, none) => .v .undef (s.setOb o (.mp (es ++ [(iV l.length, iV k)])))
    | none => .bad)
   | _ => .bad) = _
 rw [h]
 simp only [hm]
 rw [mpOf_snoc, if_neg (by omega), Nat.zero_add]
end
structure MemM (s : HS) (o : Ky) (es : List (HV × HV)) (col : Ky -> Option Nat) (L : List LEnt) : Prop where
 mp : tget s.h o = some (.mp es)
 lt : o.toNat < s.nx.toNat
 co : col o = none
 mem : MemC s col L
section
variable {s : HS} {o : Ky} {es : List (HV × HV)} {col : Ky -> Option Nat} {L : List LEnt}
theorem MemM.append (h : MemM s o es col L) (i : Nat) {v : HV} {sz : Nat} {els : List (List HV)} (hi : L[i]? = some (v, sz, els)) {new : List (List HV)} (hn : Sz sz new) (h0 : new ≠ []) {mxl : Nat} (hm : els.length + new.length <= mxl) :
  ∃ v' s' col', appR sz mxl none (some v) (some (.psl new)) s = .v v' s' /\ cellsOf v' = some [v'] /\ MemM s' o es col' (L.set i (v', sz, els ++ new)) := by
 have hil := (List.getElem?_eq_some_iff.1 hi).1
 obtain ⟨v', s', ha, how, hfr, hnx⟩ := (h.mem.own i v sz els hi).append hn h0 hm
 have hsucc := Ky.toNat_succ s.nx
 have hlt := h.lt
 refine ⟨v', s', fun k => if k = s.nx then some i else col k, ha, how.one, ?_, by rw [hnx]; omega, ?_, fun k j hk => ?_, fun k j hk => ?_, fun j w sz' els' hj => ?_⟩
 ·rw [hfr.2.2.1 o hlt (by show ¬ col o = some i; rw [h.co]; simp)]; exact h.mp
 ·show (if o = s.nx then some i else col o) = none
  rw [if_neg fun e => by subst e; omega]; exact h.co
 ·rw [hnx]
  split at hk
  ·rename_i e; subst e; omega
  ·have := h.mem.bd k j hk; omega
 ·rw [List.length_set]
  split at hk
  ·cases hk; exact hil
  ·exact h.mem.top k j hk
 ·rw [List.getElem?_set] at hj
  by_cases hij : i = j
  ·subst hij
   rw [if_pos rfl, if_pos hil] at hj
   cases hj
   refine how.mono (fun k hk => ?_) (fun k hk => ?_)
   ·rcases hk with hk | rfl
    ·show (if k = s.nx then some i else col k) = some i
     split
     ·rfl
     ·exact hk
    ·show (if s.nx = s.nx then some i else col s.nx) = some i
     rw [if_pos rfl]
   ·have hk : (if k = s.nx then some i else col k) = some i := hk
    rw [hnx]
    split at hk
    ·rename_i e; subst e; omega
    ·have := h.mem.bd k i hk; omega
  ·rw [if_neg hij] at hj
   have hw := h.mem.own j w sz' els' hj
   refine (hw.frame hfr (fun k hk hk' => by have hk' : col k = some i := hk'; have hk : col k = some j := hk; rw [hk] at hk'; cases hk'; exact hij rfl)).mono (fun k hk => ?_) (fun k hk => ?_)
   ·have hb := hw.2.1 k hk
    show (if k = s.nx then some i else col k) = some j
    rw [if_neg fun e => by subst e; omega]; exact hk
   ·have hk : (if k = s.nx then some i else col k) = some j := hk
    rw [hnx]
    split at hk
    ·cases hk; exact absurd rfl hij
    ·have := h.mem.bd k j hk; omega
theorem MemM.set1 (h : MemM s o es col L) (i : Nat) {v : HV} {els : List (List HV)} (hi : L[i]? = some (v, 1, els)) (j : Nat) (hj : j < els.length) {x : HV} (hx : cellsOf x = some [x]) :
  ∃ o1 s', iaV (some v) (some (.int .i64 (j : Int))) 1 s = .v (.ptr o1 (j * 1)) s /\ stV 1 (some (.ptr o1 (j * 1))) (some x) s = .v .undef s' /\ MemM s' o es col (L.set i (v, 1, els.set j [x])) := by
 have hil := (List.getElem?_eq_some_iff.1 hi).1
 obtain ⟨o1, s', h1, h2, h3, h4, h5⟩ := (h.mem.own i v 1 els hi).set1 j hj x hx
 refine ⟨o1, s', h1, h2, ?_, by rw [h5]; exact h.lt, h.co, fun k i hk => by rw [h5]; exact h.mem.bd k i hk, fun k i hk => by rw [List.length_set]; exact h.mem.top k i hk, fun k w sz' els' hk => ?_⟩
 ·rw [h4.2.2.1 o h.lt (by show ¬ col o = some i; rw [h.co]; simp)]; exact h.mp
 rw [List.getElem?_set] at hk
 by_cases hik : i = k
 ·subst hik
  rw [if_pos rfl, if_pos hil] at hk
  cases hk
  exact h3
 ·rw [if_neg hik] at hk
  exact (h.mem.own k w sz' els' hk).frame h4 (fun p hp hp' => by have hp' : col p = some i := hp'; have hp : col p = some k := hp; rw [hp] at hp'; cases hp'; exact hik rfl)
theorem MemM.frame {s' : HS} (h : MemM s o es col L) (hf : Frm (fun _ => False) s s') : MemM s' o es col L :=
 ⟨(hf.2.2.1 o h.lt (fun h => h)).trans h.mp, Nat.lt_of_lt_of_le h.lt hf.1, h.co, h.mem.frame hf⟩
theorem MemM.put (h : MemM s o es col L) (es' : List (HV × HV)) : MemM (s.setOb o (.mp es')) o es' col L := by
 have hf : Frm (fun k => k = o) s (s.setOb o (.mp es')) := Frm.setOb rfl
 refine ⟨by rw [setOb_get, if_pos rfl], Nat.lt_of_lt_of_le h.lt hf.1, h.co, fun k i hk => Nat.lt_of_lt_of_le (h.mem.bd k i hk) hf.1, h.mem.top, fun i v sz els hi => (h.mem.own i v sz els hi).frame hf (fun k hk e => ?_)⟩
 have hk : col k = some i := hk
 subst e
 rw [h.co] at hk; cases hk
theorem MemM.one (h : MemM s o es col L) (x : HV) : ∃ col', MemM (HS.mk (tset (some (.cells (Lst [x]) 0 1 s.nx)) s.nx s.h) s.nx.succ (tset (some [s.nx]) s.nx s.gr) s.ty) o es col' (L ++ [(.sl s.nx 0 1 1, 1, [[x]])]) := by
 have hsucc := Ky.toNat_succ s.nx
 have hf := Frm.alloc (s := s) (.cells (Lst [x]) 0 1 s.nx) [s.nx]
 have ho : OwnF (HS.mk (tset (some (.cells (Lst [x]) 0 1 s.nx)) s.nx s.h) s.nx.succ (tset (some [s.nx]) s.nx s.gr) s.ty) (.sl s.nx 0 1 1) 1 (fun k => k = s.nx) [[x]] := by
  refine ⟨Sz.cons rfl Sz.nil, fun k hk => by subst hk; simp only; omega, .inr ⟨s.nx, Lst [x], 1, s.nx, [], rfl, by simp, by simp, fun j hj => ?_, by simp, by simp, by simp, rfl⟩⟩
  simp at hj
  subst hj
  rfl
 refine ⟨_, (hf.2.2.1 o h.lt (fun h => h)).trans h.mp, Nat.lt_of_lt_of_le h.lt hf.1, ?_, h.mem.join hf ho (fun k hk => by subst hk; exact Nat.le_refl _)⟩
 have := h.lt
 rw [if_neg fun e => by subst e; omega]; exact h.co
end
set_option maxRecDepth 10000
set_option linter.unusedSimpArgs false
theorem mpOf_skip (l : List Int) : mpOf (l ++ [-1]) 0 = mpOf l 0 := by rw [mpOf_snoc]; simp
theorem g47_13 {s : HS} {l : List Int} {col : Ky -> Option Nat} {v2 : HV} {inner : List LEnt} {i : Nat} (h : MemM s .e (mpOf l 0) col ((v2, 1, inner.map hdr) :: inner)) {k : Nat} (hk : l[i]? = some (k : Int)) (hkl : k < inner.length) (hin : inner.length <= 400)
  {vk : HV} {ek : List (List HV)} (hik : inner[k]? = some (vk, 1, ek)) (hel : ek.length <= 400) :
  ∃ s' col' v', (∀ e, look e 9 = some (.mp .e) -> look e 6 = some v2 -> look e 10 = some (iV i) -> evP R U.r47_13 e s = .code .normal e s') /\ MemM s' .e (mpOf l 0) col' ((v2, 1, (inner.set k (v', 1, ek ++ [[iV i]])).map hdr) :: inner.set k (v', 1, ek ++ [[iV i]])) := by
 have ho2 := h.mem.own 0 _ _ _ rfl
 obtain ⟨ob, rfl⟩ := ho2.hdr (by intro hn; simp at hn; subst hn; simp at hkl)
 have hkv : inner[k] = (vk, 1, ek) := by rw [List.getElem?_eq_getElem hkl] at hik; exact Option.some.inj hik
 have cb := ho2.cell k (by simpa using hkl)
 have q1 := lkR_v h.mp hk (by omega)
 obtain ⟨v', s1, col1, a1, c1, h1⟩ := h.append (k + 1) (by simpa using hik) (new := [[iV i]]) (Sz.cons rfl Sz.nil) (by simp) (mxl := 17592186044416) (by simp; omega)
 have q2 := lkR_v h1.mp hk (by omega)
 obtain ⟨ob', s2, b1, b2, h2⟩ := h1.set1 0 rfl k (by simpa using hkl) c1
 simp [hkv] at cb a1
 simp only [Nat.mul_one] at b1 b2
 simp [hkl] at b1
 obtain rfl := b1
 simp only [iV] at q1 q2
 refine ⟨s2, col1, v', ?_, ?_⟩
 ·intro e h9 h6 h10
  simp -implicitDefEqProofs [h9, h6, h10, q1, q2, cb, a1, hkl, b2]
 ·have hmap : (inner.set k (v', 1, ek ++ [[iV i]])).map hdr = (inner.map hdr).set k [v'] := by rw [List.map_set]
  rw [hmap]
  simpa using h2
theorem c47 (js : List Int) (id : Int) (w : List Mv) (hl : w.length <= 400) (hc : CallsOk js id w) (i : Nat) (m : Mv) (hm : w[i]? = some m) (e : En) (s : HS) (r : Out) (v : HV) (inner : List LEnt) (col : Ky -> Option Nat)
  (h1 : look e 1 = some (iV id)) (h2 : look e 2 = some (.psl (w.map Mv.c))) (h7 : look e 7 = some (.psl (js.map iC))) (h9 : look e 9 = some (.mp .e)) (h6 : look e 6 = some v) (h20 : look e 20 = some (.psl (w.map Mv.c))) (h21 : look e 21 = some (iV w.length)) (h22 : look e 22 = some (iV i))
  (hM : MemM s .e (mpOf (cst js id w i).1 0) col ((v, 1, inner.map hdr) :: inner)) (hin : inner.map (·.2) = (cst js id w i).2.map (fun c => (1, c.map nC))) (hr : evP R U.c47_0 e s = r) :
  ∃ e' s' v' inner' col', r = .code .normal e' s' /\ look e' 1 = some (iV id) /\ look e' 2 = some (.psl (w.map Mv.c)) /\ look e' 7 = some (.psl (js.map iC)) /\ look e' 9 = some (.mp .e) /\ look e' 6 = some v' /\ look e' 20 = some (.psl (w.map Mv.c)) /\ look e' 21 = some (iV w.length) /\ look e' 22 = some (iV (i + 1 : Nat)) /\
   MemM s' .e (mpOf (cst js id w (i + 1)).1 0) col' ((v', 1, inner'.map hdr) :: inner') /\ inner'.map (·.2) = (cst js id w (i + 1)).2.map (fun c => (1, c.map nC)) := by
 have hi : i < w.length := (List.getElem?_eq_some_iff.1 hm).1
 obtain ⟨k1, k2, k3⟩ := cst_len js id w i (by omega)
 have hilen : inner.length = (cst js id w i).2.length := by have := congrArg List.length hin; simpa using this
 have hw1 := wrap1 (n := w.length) hi (by omega)
 have h88 := w88 m
 have h89 := w89 w hl i hi
 have hM1 := hM.frame (Frm.alloc (.cells (Lst m.c) 0 4 s.nx) [s.nx])
 obtain ⟨mi, ma, mk, mn⟩ := m
 have hme : w[i] = ⟨mi, ma, mk, mn⟩ := by rw [List.getElem?_eq_getElem hi] at hm; exact Option.some.inj hm
 rw [cst]
 unfold cstep
 rw [hm]
 have hob : tget (HS.mk (tset (some (.cells (Lst (Mv.mk mi ma mk mn).c) 0 4 s.nx)) s.nx s.h) s.nx.succ (tset (some [s.nx]) s.nx s.gr) s.ty).h s.nx = some (.cells (Lst (Mv.mk mi ma mk mn).c) 0 4 s.nx) := by simp
 generalize hS1 : HS.mk (tset (some (.cells (Lst (Mv.mk mi ma mk mn).c) 0 4 s.nx)) s.nx s.h) s.nx.succ (tset (some [s.nx]) s.nx s.gr) s.ty = S1 at hM1 hob
 simp only [Mv.c, iV] at h88 h89 hob hS1
 dsimp only
 have hi' : (i : Int) < w.length := by omega
 by_cases hid : mi = id
 case neg =>
  simp -implicitDefEqProofs [U.c47_0, U.k47_1, U.k47_2, h1, h2, h6, h9, h20, h21, h22, hi, hi', hme, hl, obStore_c, storeG_1, obCells_c, hS1, hob, hid, hw1] at hr
  subst hr
  refine ⟨_, _, v, inner, col, rfl, by simp [h1], by simp [h2], by simp [h7], by simp [h9], by simp [h6], by simp [h20], by simp [h21], by simp, ?_, ?_⟩
  ·rw [if_pos hid, mpOf_skip]
   exact hM1
  ·rw [if_pos hid]; exact hin
 subst hid
 have hcs := hc i _ hm rfl
 simp only at hcs
 by_cases hq : ma = 0 /\ mk ≠ 3
 ·obtain ⟨rfl, hk3⟩ := hq
  rw [if_neg (by simp), if_pos ⟨rfl, hk3⟩]
  have l2 := hM1.mem.len 0 rfl
  have hmu := muR_v (l := (cst js mi w i).1) (k := inner.length) hM1.mp (by omega)
  rw [k1] at hmu
  have hM2 := hM1.put (mpOf ((cst js mi w i).1 ++ [(inner.length : Int)]) 0)
  generalize hS2 : S1.setOb .e (.mp (mpOf ((cst js mi w i).1 ++ [(inner.length : Int)]) 0)) = S2 at hM2 hmu
  obtain ⟨col3, hM3⟩ := hM2.one (iV i)
  generalize hS3 : HS.mk (tset (some (.cells (Lst [iV i]) 0 1 S2.nx)) S2.nx S2.h) S2.nx.succ (tset (some [S2.nx]) S2.nx S2.gr) S2.ty = S3 at hM3
  obtain ⟨v', s4, col4, a4, c4, hM4⟩ := hM3.append 0 rfl (new := [[HV.sl S2.nx 0 1 1]]) (Sz.cons rfl Sz.nil) (by simp) (mxl := 5864062014805) (by simp; omega)
  simp only [iV] at l2 a4 hmu hS3
  simp at l2
  simp -implicitDefEqProofs [U.c47_0, U.k47_1, U.k47_2, h1, h2, h6, h9, h20, h21, h22, hi, hi', hme, hl, obStore_c, storeG_1, obCells_c, hS1, hob, hw1, hk3, l2, hmu, hS3, a4] at hr
  subst hr
  refine ⟨_, _, v', inner ++ [(HV.sl S2.nx 0 1 1, 1, [[iV i]])], col4, rfl, by simp [h1], by simp [h2], by simp [h7], by simp [h9], by simp, by simp [h20], by simp [h21], by simp, by rw [<- hilen]; simpa using hM4, ?_⟩
  simp [hin]
 rw [if_neg (by simp), if_neg hq]
 by_cases hfree : ma = 0 /\ escB ⟨mi, ma, mk, mn⟩ = true /\ forcedAt w i = false
 ·rw [if_pos hfree, mpOf_skip]
  obtain ⟨rfl, he, hf⟩ := hfree
  have hk3 : mk = 3 := by by_cases h : mk = 3; exact h; exact absurd ⟨rfl, h⟩ hq
  subst hk3
  rw [he] at h88
  rw [hf] at h89
  simp -implicitDefEqProofs [U.c47_0, U.k47_1, U.k47_2, h1, h2, h6, h9, h20, h21, h22, hi, hi', hme, hl, obStore_c, storeG_1, obCells_c, hS1, hob, hw1, h88, h89] at hr
  subst hr
  exact ⟨_, _, v, inner, col, rfl, by simp [h1], by simp [h2], by simp [h7], by simp [h9], by simp [h6], by simp [h20], by simp [h21], by simp, hM1, hin⟩
 rw [if_neg hfree]
 obtain ⟨j, k, hj, hjk, hkl⟩ := hcs hq hfree
 have hlk := lkR_v hM1.mp hjk (by omega)
 have hmu := muR_v (l := (cst js mi w i).1) (k := k) hM1.mp (by omega)
 rw [k1] at hmu
 have hM2 := hM1.put (mpOf ((cst js mi w i).1 ++ [(k : Int)]) 0)
 generalize hS2 : S1.setOb .e (.mp (mpOf ((cst js mi w i).1 ++ [(k : Int)]) 0)) = S2 at hM2 hmu
 have hkin : k < inner.length := by omega
 have hik : inner[k]? = some (inner[k].1, 1, ((cst js mi w i).2[k]).map nC) := by
  rw [List.getElem?_eq_getElem hkin]
  have := congrArg (fun l => l[k]?) hin
  simp [hkin, hkl] at this
  rw [<- this]
 obtain ⟨s6, col6, v', hg, hM6⟩ := g47_13 hM2 (i := i) (k := k) (by simp [k1]) hkin (by omega) hik (by have := k3 _ (List.getElem_mem hkl); simp; omega)
 have hjg : js.getD i 0 = (j : Int) := by rw [List.getD_eq_getElem?_getD, hj]; rfl
 have hkg : ((cst js mi w i).1.getD j 0) = (k : Int) := by rw [List.getD_eq_getElem?_getD, hjk]; rfl
 have hcg : (cst js mi w i).2.getD k [] = (cst js mi w i).2[k] := by rw [List.getD_eq_getElem?_getD, List.getElem?_eq_getElem hkl]; rfl
 simp only [iV] at hlk hmu
 have key : ∃ e', r = .code .normal e' s6 /\ look e' 1 = some (iV mi) /\ look e' 2 = some (.psl (w.map Mv.c)) /\ look e' 7 = some (.psl (js.map iC)) /\ look e' 9 = some (.mp .e) /\ look e' 6 = some v /\ look e' 20 = some (.psl (w.map Mv.c)) /\ look e' 21 = some (iV w.length) /\ look e' 22 = some (iV (i + 1 : Nat)) := by
  by_cases hma : ma = 0
  ·have hk3 : mk = 3 := by by_cases h : mk = 3; exact h; exact absurd ⟨hma, h⟩ hq
   subst hma; subst hk3
   cases he : escB ⟨mi, 0, 3, mn⟩
   ·rw [he] at h88
    simp -implicitDefEqProofs [-U.r47_13, U.c47_0, U.k47_1, U.k47_2, h1, h2, h6, h7, h9, h20, h21, h22, hi, hi', hme, hl, obStore_c, storeG_1, obCells_c, hS1, hob, hw1, h88, hj, hlk, hmu, hg] at hr
    subst hr
    exact ⟨_, rfl, by simp [h1], by simp [h2], by simp [h7], by simp [h9], by simp [h6], by simp [h20], by simp [h21], by simp⟩
   ·rw [he] at h88
    have hf : forcedAt w i = true := by cases h : forcedAt w i; exact absurd ⟨rfl, he, h⟩ hfree; rfl
    rw [hf] at h89
    simp -implicitDefEqProofs [-U.r47_13, U.c47_0, U.k47_1, U.k47_2, h1, h2, h6, h7, h9, h20, h21, h22, hi, hi', hme, hl, obStore_c, storeG_1, obCells_c, hS1, hob, hw1, h88, h89, hj, hlk, hmu, hg] at hr
    subst hr
    exact ⟨_, rfl, by simp [h1], by simp [h2], by simp [h7], by simp [h9], by simp [h6], by simp [h20], by simp [h21], by simp⟩
  ·by_cases hk3 : mk = 3
   ·subst hk3
    simp -implicitDefEqProofs [-U.r47_13, U.c47_0, U.k47_1, U.k47_2, h1, h2, h6, h7, h9, h20, h21, h22, hi, hi', hme, hl, obStore_c, storeG_1, obCells_c, hS1, hob, hw1, hma, hj, hlk, hmu, hg] at hr
    subst hr
    exact ⟨_, rfl, by simp [h1], by simp [h2], by simp [h7], by simp [h9], by simp [h6], by simp [h20], by simp [h21], by simp⟩
   ·simp -implicitDefEqProofs [-U.r47_13, U.c47_0, U.k47_1, U.k47_2, h1, h2, h6, h7, h9, h20, h21, h22, hi, hi', hme, hl, obStore_c, storeG_1, obCells_c, hS1, hob, hw1, hma, hk3, hj, hlk, hmu, hg] at hr
    subst hr
    exact ⟨_, rfl, by simp [h1], by simp [h2], by simp [h7], by simp [h9], by simp [h6], by simp [h20], by simp [h21], by simp⟩
 obtain ⟨e', rfl, e1, e2, e7, e9, e6, e20, e21, e22⟩ := key
 rw [hjg, Int.toNat_natCast, hkg, Int.toNat_natCast, hcg]
 refine ⟨_, _, v, inner.set k (v', 1, List.map nC (cst js mi w i).2[k] ++ [[iV i]]), col6, rfl, e1, e2, e7, e9, e6, e20, e21, e22, hM6, ?_⟩
 rw [List.map_set, List.map_set, hin]
 simp
theorem w47 (a : Ar) (ok : ArOk a) (id : Int) (w : List Mv) (hp : playE a w = 0) (hc : CallsOk (walkT (tk0 a) w).x.js id w) (s : HS) :
  R (.call 47 [.agg a.c, iV id, .psl (w.map Mv.c)] s) = .val (.psl ((callsOf (walkT (tk0 a) w).x.js id w).map calC)) s := by
 refine q47 rfl (by simp) ?_
 have h87 := w87 a ok w hp
 have hl := (playE_legal hp).2.1
 simp only [Ar.c, iV] at h87
 generalize (walkT (tk0 a) w).x.js = js at *
 simp -implicitDefEqProofs [U.b47, U.k47_0, h87, s0]
 generalize ho : evP R (.loop U.c47_0) _ _ = o
 have hq := loop_use ho w.length
  (fun i e s => ∃ v inner col, look e 1 = some (iV id) /\ look e 2 = some (.psl (w.map Mv.c)) /\ look e 7 = some (.psl (js.map iC)) /\ look e 9 = some (.mp .e) /\ look e 6 = some v /\ look e 20 = some (.psl (w.map Mv.c)) /\ look e 21 = some (iV w.length) /\ look e 22 = some (iV i) /\
   MemM s .e (mpOf (cst js id w i).1 0) col ((v, 1, inner.map hdr) :: inner) /\ inner.map (·.2) = (cst js id w i).2.map (fun c => (1, c.map nC)))
  (fun o => ∃ e s v inner col, o = .code (.exit 0) e s /\ look e 6 = some v /\ MemC s col ((v, 1, inner.map hdr) :: inner) /\ inner.map (·.2) = (cst js id w w.length).2.map (fun c => (1, c.map nC)))
  0 (by omega) ⟨.nils, [], _, by simp, by simp, by simp, by simp, by simp, by simp, by simp, by simp, ⟨by simp [cst, mpOf], by simp [Ky.toNat], rfl, MemC.start (by simp)⟩, rfl⟩
  (fun i e s r hi ⟨v, inner, col, h1, h2, h7, h9, h6, h20, h21, h22, hM, hin⟩ hr => by
   obtain ⟨e', s', v', inner', col', rfl, g1, g2, g7, g9, g6, g20, g21, g22, hM', hin'⟩ := c47 js id w hl hc i w[i] (List.getElem?_eq_getElem hi) e s r v inner col h1 h2 h7 h9 h6 h20 h21 h22 hM hin hr
   exact .inl ⟨_, _, rfl, v', inner', col', g1, g2, g7, g9, g6, g20, g21, g22, hM', hin'⟩)
  (fun e s r ⟨v, inner, col, h1, h2, h7, h9, h6, h20, h21, h22, hM, hin⟩ hr => by
   simp -implicitDefEqProofs [U.c47_0, h21, h22] at hr
   subst hr
   exact ⟨by simp, _, _, v, inner, col, rfl, by simp [h6], hM.mem, hin⟩)
 clear ho
 obtain ⟨e, s, v, inner, col, rfl, h6, hM, hin⟩ := hq
 simp [h6]
 refine dataV_of ?_
 have hv := (hM.own 0 _ _ _ rfl).vwH (f := fun e : LEnt => e.1) (g := fun e : LEnt => HV.psl e.2.2) (n := 15) (fun x hx => ?_)
 ·have : inner.map (fun x => [HV.psl x.2.2]) = (callsOf js id w).map calC := by
   have h := congrArg (List.map fun (p : Nat × List (List HV)) => [HV.psl p.2]) hin
   have hcal : calC = fun x : List Nat => [HV.psl (List.map nC x)] := rfl
   rw [hcal]
   simpa [callsOf, Function.comp_def] using h
  rw [<- this]
  exact hv
 ·obtain ⟨k, hk, rfl⟩ := List.mem_iff_getElem.1 hx
  have h2 := congrArg (fun l => l[k]?) hin
  simp [hk] at h2
  obtain ⟨h3, h4⟩ : ∃ h : k < (cst js id w w.length).2.length, inner[k].2 = (1, ((cst js id w w.length).2[k]).map nC) := by
   have hlen : inner.length = (cst js id w w.length).2.length := by have := congrArg List.length hin; simpa using this
   refine ⟨by omega, ?_⟩
   simp [show k < (cst js id w w.length).2.length by omega] at h2
   exact h2.symm ▸ rfl
  have hown := hM.own (k + 1) inner[k].1 1 (((cst js id w w.length).2[k]).map nC) (by simp [hk]; rw [<- h4])
  rw [h4]
  exact hown.vw (by simp)
set_option maxRecDepth 10000
set_option linter.unusedSimpArgs false
theorem w49 (w : List Mv) (c : List Nat) (hcb : ∀ n ∈ c, n < w.length) (hcl : c.length <= 400) (s : HS) : R (.call 49 [.psl (c.map nC), .psl (w.map Mv.c)] s) = .val (.psl ((insideW w c).map Mv.c)) s := by
 refine q49 rfl (by simp) ?_
 simp -implicitDefEqProofs [U.b49, s0]
 generalize ho : evP R (.loop U.c49_0) _ _ = o
 have hq := loop_use ho c.length
  (fun k e s' => ∃ v F, look e 1 = some (.psl (w.map Mv.c)) /\ look e 7 = some (.psl (c.map nC)) /\ look e 8 = some (iV c.length) /\ look e 9 = some (iV k) /\ look e 4 = some v /\ OwnF s' v 4 F ((insideW w (c.take k)).map Mv.c))
  (fun r => ∃ e' s' v F, r = .code (.exit 0) e' s' /\ look e' 4 = some v /\ OwnF s' v 4 F ((insideW w c).map Mv.c))
  0 (by omega) ⟨.nils, _, by simp, by simp, by simp, by simp, by simp, OwnF.nils⟩
  (fun k e s' r hk ⟨v, F, h1, h7, h8, h9, h4, hO⟩ hr => by
   have hn : c[k] < w.length := hcb _ (List.getElem_mem hk)
   have hm := List.getElem?_eq_getElem hn
   have h91 := w91 w[c[k]]
   simp only [Mv.c] at h91
   have hk' : (k : Int) < c.length := by omega
   obtain ⟨v', s'', ha, how, hfr, hnx⟩ := hO.append (mxl := 4398046511104) (new := [(turned w[c[k]]).c]) (Sz.cons rfl Sz.nil) (by simp) (by simp [insideW]; omega)
   simp only [Mv.c] at ha
   simp -implicitDefEqProofs [U.c49_0, h1, h7, h8, h9, h4, hk, hk', hn, h91, ha, wrap1 (n := 400) (show k < 400 by omega) (by omega)] at hr
   subst hr
   refine .inl ⟨_, _, rfl, v', fun x => F x ∨ x = s'.nx, by simp [h1], by simp [h7], by simp [h8], by simp, by simp, ?_⟩
   have : insideW w (c.take (k + 1)) = insideW w (c.take k) ++ [turned w[c[k]]] := by
    unfold insideW
    rw [List.take_succ_eq_append_getElem hk, List.map_append]
    simp [hn]
   rw [this, List.map_append]
   exact how)
  (fun e s' r ⟨v, F, h1, h7, h8, h9, h4, hO⟩ hr => by
   simp -implicitDefEqProofs [U.c49_0, h8, h9] at hr
   subst hr
   rw [List.take_length] at hO
   exact ⟨by simp, _, _, v, F, rfl, by simp [h4], hO⟩)
 clear ho
 obtain ⟨e', s', v, F, rfl, h4, hO⟩ := hq
 simp [h4]
 exact dataV_of (hO.vw (by simp))
theorem lookE_legal {a : Ar} {id : Int} {w : List Mv} (h : lookE a id w = 0) : playE a w = 0 := by
 unfold lookE at h
 by_cases hp : playE a w = 0
 ·exact hp
 ·rw [if_neg hp] at h; exact absurd h hp
def AllOkP : Prop := ∀ (a : Ar) (id : Int) (w : List Mv), lookE a id w = 0 -> CallsOk (walkT (tk0 a) w).x.js id w
def callsP (a : Ar) (id : Int) (w : List Mv) : List (List Nat) := if lookE a id w = 0 then callsOf (walkT (tk0 a) w).x.js id w else []
theorem callsOf_bound (js : List Int) (id : Int) (w : List Mv) (hl : w.length <= 400) : (callsOf js id w).length <= 400 /\ (∀ c ∈ callsOf js id w, c.length <= 400) /\ ∀ c ∈ callsOf js id w, ∀ n ∈ c, n < w.length := by
 obtain ⟨_, hcl, hcl2⟩ := cst_len js id w w.length (Nat.le_refl _)
 exact ⟨Nat.le_trans hcl hl, fun c hc => Nat.le_trans (hcl2 c hc) hl, fun c hc n hn => cst_bound js id w _ (Nat.le_refl _) c hc n hn⟩
theorem w17 (hall : AllOkP) (a : Ar) (ok : ArOk a) (id : Int) (w : List Mv) (s : HS) : R (.call 17 [.agg a.c, iV id, .psl (w.map Mv.c)] s) = .val (.tup [.psl ((callsP a id w).map calC), iV (lookE a id w)]) s := by
 refine q17 rfl (by simp) ?_
 have h56 := w56 a ok id w
 simp only [Ar.c, iV] at h56
 unfold callsP
 by_cases he : lookE a id w = 0
 case neg =>
  simp -implicitDefEqProofs [U.b17, h56, he]
  exact dataV_of (.tup (.cons .nils (.data (by simp))))
 rw [he] at h56
 have hp := lookE_legal he
 have h47 := w47 a ok id w hp (hall a id w he)
 obtain ⟨b1, b2, b3⟩ := callsOf_bound (walkT (tk0 a) w).x.js id w (playE_legal hp).2.1
 generalize callsOf (walkT (tk0 a) w).x.js id w = l at *
 simp only [Ar.c, iV] at h47
 simp -implicitDefEqProofs [U.b17, h56, he, h47, s0]
 generalize ho : evP R (.loop U.c17_0) _ _ = o
 have hq := loop_use ho l.length
  (fun k e s' => ∃ v F, look e 21 = some (.psl (l.map calC)) /\ look e 22 = some (iV l.length) /\ look e 23 = some (iV k) /\ look e 6 = some v /\ OwnF s' v 1 F ((l.take k).map calC))
  (fun r => ∃ e' s' v F, r = .code (.exit 0) e' s' /\ look e' 6 = some v /\ OwnF s' v 1 F (l.map calC))
  0 (by omega) ⟨.nils, _, by simp, by simp, by simp, by simp, OwnF.nils⟩
  (fun k e s' r hk ⟨v, F, h1, h2, h3, h6, hO⟩ hr => by
   have hk' : (k : Int) < l.length := by omega
   obtain ⟨v', s'', ha, how, hfr, hnx⟩ := hO.append (mxl := 5864062014805) (new := [calC l[k]]) (Sz.cons rfl Sz.nil) (by simp) (by simp; omega)
   simp only [calC] at ha
   have hlk : (l.map calC)[k]? = some (calC l[k]) := by simp [hk]
   simp -implicitDefEqProofs [U.c17_0, h1, h2, h3, h6, hk, hk', calC, ha, wrap1 (n := 400) (show k < 400 by omega) (by omega)] at hr
   subst hr
   refine .inl ⟨_, _, rfl, v', fun x => F x ∨ x = s'.nx, by simp [h1, calC], by simp [h2], by simp, by simp, ?_⟩
   rw [List.take_succ_eq_append_getElem hk, List.map_append]
   exact how)
  (fun e s' r ⟨v, F, h1, h2, h3, h6, hO⟩ hr => by
   simp -implicitDefEqProofs [U.c17_0, h2, h3] at hr
   subst hr
   rw [List.take_length] at hO
   exact ⟨by simp, _, _, v, F, rfl, by simp [h6], hO⟩)
 clear ho
 obtain ⟨e', s', v, F, rfl, h6, hO⟩ := hq
 simp [h6]
 exact dataV_of (.tup (.cons (hO.vw (isDL_calC l)) (.data (by simp))))
theorem w19 (hall : AllOkP) (a : Ar) (ok : ArOk a) (id : Int) (w : List Mv) (s : HS) : R (.call 19 [.agg a.c, iV id, .psl (w.map Mv.c)] s) = .val (.tup [.psl (((callsP a id w).map (insideW w)).map wordC), iV (lookE a id w)]) s := by
 refine q19 rfl (by simp) ?_
 have h56 := w56 a ok id w
 simp only [Ar.c, iV] at h56
 unfold callsP
 by_cases he : lookE a id w = 0
 case neg =>
  simp -implicitDefEqProofs [U.b19, h56, he]
  exact dataV_of (.tup (.cons .nils (.data (by simp))))
 rw [he] at h56
 have hp := lookE_legal he
 have h47 := w47 a ok id w hp (hall a id w he)
 obtain ⟨b1, b2, b3⟩ := callsOf_bound (walkT (tk0 a) w).x.js id w (playE_legal hp).2.1
 generalize callsOf (walkT (tk0 a) w).x.js id w = l at *
 simp only [Ar.c, iV] at h47
 simp -implicitDefEqProofs [U.b19, h56, he, h47, s0]
 generalize ho : evP R (.loop U.c19_0) _ _ = o
 have hq := loop_use ho l.length
  (fun k e s' => ∃ v F, look e 2 = some (.psl (w.map Mv.c)) /\ look e 21 = some (.psl (l.map calC)) /\ look e 22 = some (iV l.length) /\ look e 23 = some (iV k) /\ look e 6 = some v /\ OwnF s' v 1 F (((l.take k).map (insideW w)).map wordC))
  (fun r => ∃ e' s' v F, r = .code (.exit 0) e' s' /\ look e' 6 = some v /\ OwnF s' v 1 F ((l.map (insideW w)).map wordC))
  0 (by omega) ⟨.nils, _, by simp, by simp, by simp, by simp, by simp, OwnF.nils⟩
  (fun k e s' r hk ⟨v, F, h0, h1, h2, h3, h6, hO⟩ hr => by
   have hk' : (k : Int) < l.length := by omega
   have h49 := w49 w l[k] (b3 _ (List.getElem_mem hk)) (b2 _ (List.getElem_mem hk))
   obtain ⟨v', s'', ha, how, hfr, hnx⟩ := hO.append (mxl := 5864062014805) (new := [wordC (insideW w l[k])]) (Sz.cons rfl Sz.nil) (by simp) (by simp; omega)
   simp only [wordC] at ha
   simp -implicitDefEqProofs [U.c19_0, h0, h1, h2, h3, h6, hk, hk', calC, h49, ha, wrap1 (n := 400) (show k < 400 by omega) (by omega)] at hr
   subst hr
   refine .inl ⟨_, _, rfl, v', fun x => F x ∨ x = s'.nx, by simp [h0], by simp [h1, calC], by simp [h2], by simp, by simp, ?_⟩
   rw [List.take_succ_eq_append_getElem hk, List.map_append, List.map_append]
   exact how)
  (fun e s' r ⟨v, F, h0, h1, h2, h3, h6, hO⟩ hr => by
   simp -implicitDefEqProofs [U.c19_0, h2, h3] at hr
   subst hr
   rw [List.take_length] at hO
   exact ⟨by simp, _, _, v, F, rfl, by simp [h6], hO⟩)
 clear ho
 obtain ⟨e', s', v, F, rfl, h6, hO⟩ := hq
 simp [h6]
 have hv := hO.vw (n := 13) (isDL_wordC (l.map (insideW w)))
 exact dataV_of (.tup (.cons (by simpa using hv) (.data (by simp))))
set_option maxRecDepth 10000
set_option linter.unusedSimpArgs false
theorem w9a (a : Ar) (i : Nat) (t : Ty) (ht : a.ids[i]? = some t) (hl : t.ps.length <= 6) (e : En) (r : Out)
  (h1 : look e 1 = some (.pptr a.c)) (h3 : look e 3 = some (iV i)) (h5 : look e 5 = some (iV 0)) (hr : evP R (.loop U.c9_0) e s0 = r) :
  (∃ e', r = .code .ret e' s0 /\ look e' 2 = some (.bool false)) ∨ ∃ e', r = .code (.exit 2) e' s0 /\ look e' 1 = some (.pptr a.c) /\ look e' 3 = some (iV i) := by
 obtain ⟨hil, hit⟩ := List.getElem?_eq_some_iff.1 ht
 refine loop_use hr t.ps.length
  (fun k e s' => s' = s0 /\ look e 1 = some (.pptr a.c) /\ look e 3 = some (iV i) /\ look e 5 = some (iV k))
  (fun r => (∃ e', r = .code .ret e' s0 /\ look e' 2 = some (.bool false)) ∨ ∃ e', r = .code (.exit 2) e' s0 /\ look e' 1 = some (.pptr a.c) /\ look e' 3 = some (iV i))
  0 (by omega) ⟨rfl, h1, h3, h5⟩
  (fun k e s' r hk ⟨hs, h1, h3, h5⟩ hr => by
   subst hs
   have hk' : (k : Int) < t.ps.length := by omega
   by_cases h8 : 8 < t.ps[k].n
   ·by_cases h64 : t.ps[k].n <= 64
    ·simp -implicitDefEqProofs [U.c9_0, h1, h3, h5, hil, hit, hk, hk', h8, h64] at hr
     subst hr
     exact .inr ⟨by simp, .inl ⟨_, rfl, by simp⟩⟩
    ·simp -implicitDefEqProofs [U.c9_0, h1, h3, h5, hil, hit, hk, hk', h8, h64, wrap1 (n := 6) (show k < 6 by omega) (by omega)] at hr
     subst hr
     exact .inl ⟨_, _, rfl, rfl, by simp [h1], by simp [h3], by simp⟩
   ·simp -implicitDefEqProofs [U.c9_0, h1, h3, h5, hil, hit, hk, hk', h8, wrap1 (n := 6) (show k < 6 by omega) (by omega)] at hr
    subst hr
    exact .inl ⟨_, _, rfl, rfl, by simp [h1], by simp [h3], by simp⟩)
  (fun e s' r ⟨hs, h1, h3, h5⟩ hr => by
   subst hs
   simp -implicitDefEqProofs [U.c9_0, h1, h3, h5, hil, hit] at hr
   subst hr
   exact ⟨by simp, .inr ⟨_, rfl, by simp [h1], by simp [h3]⟩⟩)
theorem w9b (a : Ar) (hl : a.ids.length <= 9) (e : En) (o : Out) (h1 : look e 1 = some (.pptr a.c)) (h3 : look e 3 = some (iV 0)) (ho : evP R (.loop U.c9_1) e s0 = o) :
  (∃ e', o = .code .ret e' s0 /\ look e' 2 = some (.bool false)) ∨ ∃ e', o = .code (.exit 0) e' s0 /\ ∀ t ∈ a.ids, t.ps.length <= 6 :=
 loop_use ho a.ids.length
  (fun i e s' => s' = s0 /\ look e 1 = some (.pptr a.c) /\ look e 3 = some (iV i) /\ ∀ j (hj : j < a.ids.length), j < i -> a.ids[j].ps.length <= 6)
  (fun o => (∃ e', o = .code .ret e' s0 /\ look e' 2 = some (.bool false)) ∨ ∃ e', o = .code (.exit 0) e' s0 /\ ∀ t ∈ a.ids, t.ps.length <= 6)
  0 (by omega) ⟨rfl, h1, h3, by simp⟩
  (fun i e s' r hi ⟨hs, h1, h3, hp⟩ hr => by
   subst hs
   have hi' : (i : Int) < a.ids.length := by omega
   have hcont : ∀ (e : En) (r : Out), look e 1 = some (.pptr a.c) -> look e 3 = some (iV i) -> look e 5 = some (iV 0) -> a.ids[i].ps.length <= 6 -> evP R (.loop U.c9_0) e s0 = r -> _ := fun e r h1 h3 h5 h6 hr => w9a a i a.ids[i] (List.getElem?_eq_getElem hi) h6 e r h1 h3 h5 hr
   by_cases h8 : 8 < a.ids[i].res.n
   ·by_cases h64 : a.ids[i].res.n <= 64
    ·simp -implicitDefEqProofs [U.c9_1, h1, h3, hi, hi', h8, h64] at hr
     subst hr
     exact .inr ⟨by simp, .inl ⟨_, rfl, by simp⟩⟩
    ·by_cases h6 : 6 < a.ids[i].ps.length
     ·have h6' : (6 : Int) < a.ids[i].ps.length := by omega
      simp -implicitDefEqProofs [U.c9_1, h1, h3, hi, hi', h8, h64, h6'] at hr
      subst hr
      exact .inr ⟨by simp, .inl ⟨_, rfl, by simp⟩⟩
     ·have h6' : ¬ (6 : Int) < a.ids[i].ps.length := by omega
      simp -implicitDefEqProofs [U.c9_1, h1, h3, hi, hi', h8, h64, h6'] at hr
      generalize hr1 : evP R (.loop U.c9_0) _ _ = r1 at hr
      rcases hcont _ _ (by simp [h1]) (by simp [h3]) (by simp) (by omega) hr1 with ⟨e1, rfl, k2⟩ | ⟨e1, rfl, k1, k3⟩
      ·clear hr1
       simp -implicitDefEqProofs [k2] at hr
       subst hr
       exact .inr ⟨by simp, .inl ⟨_, rfl, by simp [k2]⟩⟩
      ·clear hr1
       simp -implicitDefEqProofs [k1, k3, wrap1 (n := 9) (show i < 9 by omega) (by omega)] at hr
       subst hr
       refine .inl ⟨_, _, rfl, rfl, by simp [k1], by simp, fun j hj hji => ?_⟩
       by_cases h : j = i
       ·subst h; omega
       ·exact hp j hj (by omega)
   ·by_cases h6 : 6 < a.ids[i].ps.length
    ·have h6' : (6 : Int) < a.ids[i].ps.length := by omega
     simp -implicitDefEqProofs [U.c9_1, h1, h3, hi, hi', h8, h6'] at hr
     subst hr
     exact .inr ⟨by simp, .inl ⟨_, rfl, by simp⟩⟩
    ·have h6' : ¬ (6 : Int) < a.ids[i].ps.length := by omega
     simp -implicitDefEqProofs [U.c9_1, h1, h3, hi, hi', h8, h6'] at hr
     generalize hr1 : evP R (.loop U.c9_0) _ _ = r1 at hr
     rcases hcont _ _ (by simp [h1]) (by simp [h3]) (by simp) (by omega) hr1 with ⟨e1, rfl, k2⟩ | ⟨e1, rfl, k1, k3⟩
     ·clear hr1
      simp -implicitDefEqProofs [k2] at hr
      subst hr
      exact .inr ⟨by simp, .inl ⟨_, rfl, by simp [k2]⟩⟩
     ·clear hr1
      simp -implicitDefEqProofs [k1, k3, wrap1 (n := 9) (show i < 9 by omega) (by omega)] at hr
      subst hr
      refine .inl ⟨_, _, rfl, rfl, by simp [k1], by simp, fun j hj hji => ?_⟩
      by_cases h : j = i
      ·subst h; omega
      ·exact hp j hj (by omega))
  (fun e s' r ⟨hs, h1, h3, hp⟩ hr => by
   subst hs
   simp -implicitDefEqProofs [U.c9_1, h1, h3] at hr
   subst hr
   refine ⟨by simp, .inr ⟨_, rfl, fun t ht => ?_⟩⟩
   obtain ⟨j, hj, rfl⟩ := List.mem_iff_getElem.1 ht
   exact hp j hj hj)
theorem w9 (a : Ar) : ∃ b, (∀ s, R (.call 9 [.agg a.c] s) = .val (.bool b) s) /\ (b = true -> a.ids.length <= 9 /\ ∀ t ∈ a.ids, t.ps.length <= 6) := by
 suffices h : ∃ b, outP [.tmp 2] (evP R U.b9 (args0 [.agg a.c] 0) s0) = some (.bool b) /\ (b = true -> a.ids.length <= 9 /\ ∀ t ∈ a.ids, t.ps.length <= 6) by
  obtain ⟨b, h1, h2⟩ := h
  exact ⟨b, fun s => q9 rfl (by simp) h1, h2⟩
 by_cases h9 : 9 < a.ids.length
 ·have h9' : (9 : Int) < a.ids.length := by omega
  by_cases h8 : 8 < a.root.n
  ·by_cases h64 : a.root.n <= 64
   ·exact ⟨false, by simp -implicitDefEqProofs [U.b9, h8, h64, dataV_data], by simp⟩
   ·exact ⟨false, by simp -implicitDefEqProofs [U.b9, h8, h64, h9', dataV_data], by simp⟩
  ·exact ⟨false, by simp -implicitDefEqProofs [U.b9, h8, h9', dataV_data], by simp⟩
 ·have h9' : ¬ (9 : Int) < a.ids.length := by omega
  have use : ∀ (e : En), look e 1 = some (.pptr a.c) -> look e 3 = some (iV 0) -> ∃ b, (b = true -> a.ids.length <= 9 /\ ∀ t ∈ a.ids, t.ps.length <= 6) /\ ((∃ e', evP R (.loop U.c9_1) e s0 = .code .ret e' s0 /\ look e' 2 = some (.bool false) /\ b = false) ∨ (∃ e', evP R (.loop U.c9_1) e s0 = .code (.exit 0) e' s0 /\ b = true)) := by
   intro e h1 h3
   rcases w9b a (by omega) e _ h1 h3 rfl with ⟨e', he, h2⟩ | ⟨e', he, hp⟩
   ·exact ⟨false, by simp, .inl ⟨e', he, h2, rfl⟩⟩
   ·exact ⟨true, fun _ => ⟨by omega, hp⟩, .inr ⟨e', he, rfl⟩⟩
  by_cases h8 : 8 < a.root.n
  ·by_cases h64 : a.root.n <= 64
   ·exact ⟨false, by simp -implicitDefEqProofs [U.b9, h8, h64, dataV_data], by simp⟩
   ·simp -implicitDefEqProofs [U.b9, h8, h64, h9']
    generalize he : (En.cons 0 _ _ : En) = e
    obtain ⟨b, hb, h⟩ := use e (by subst he; simp) (by subst he; simp)
    rcases h with ⟨e', he, h2, rfl⟩ | ⟨e', he, rfl⟩
    ·exact .inl (by rw [he]; simp [h2, dataV_data])
    ·exact .inr ⟨by rw [he]; simp [dataV_data], hb rfl⟩
  ·simp -implicitDefEqProofs [U.b9, h8, h9']
   generalize he : (En.cons 0 _ _ : En) = e
   obtain ⟨b, hb, h⟩ := use e (by subst he; simp) (by subst he; simp)
   rcases h with ⟨e', he, h2, rfl⟩ | ⟨e', he, rfl⟩
   ·exact .inl (by rw [he]; simp [h2, dataV_data])
   ·exact .inr ⟨by rw [he]; simp [dataV_data], hb rfl⟩
set_option maxRecDepth 10000
set_option linter.unusedSimpArgs false
theorem OwnF.copy {S : HS} {v : HV} {sz mxl : Nat} {F : Ky -> Prop} (h : OwnF S v sz F []) {els : List (List HV)} (hs : Sz sz els) (hm : els.length <= mxl) :
  ∃ v' s' F', appR sz mxl none (some v) (some (.psl els)) S = .v v' s' /\ OwnF s' v' sz F' els /\ Frm F S s' /\ cellsOf v' = some [v'] /\ ∀ k, F' k -> F k ∨ k = S.nx := by
 by_cases h0 : els = []
 ·subst h0
  exact ⟨v, S, F, appR_psl0 h.isSl, h, ⟨Nat.le_refl _, rfl, fun _ _ _ => rfl, fun _ _ _ => rfl⟩, h.one, fun k hk => .inl hk⟩
 ·obtain ⟨v', s', ha, how, hfr, hnx⟩ := h.append hs h0 (mxl := mxl) (by simpa using hm)
  exact ⟨v', s', _, ha, by simpa using how, hfr, how.one, fun k hk => hk⟩
noncomputable abbrev S57 : HS := { h := .nd (some (.cells (Lst [.nils, .bool false, .int .i64 0]) 0 3 .e)) (.nd (some (.cells (Lst []) 0 0 (.z .e))) .lf .lf) .lf, nx := .o .e, gr := .nd (some [.e]) (.nd (some [.z .e]) .lf .lf) .lf, ty := .lf }
noncomputable abbrev S15 : HS := { h := .nd (some (.cells (Lst []) 0 0 .e)) .lf .lf, nx := .z .e, gr := .nd (some [.e]) .lf .lf, ty := .lf }
theorem own57 : OwnF S57 (.sl (.z .e) 0 0 2) 2 (fun k => k = .z .e) [] := by
 refine ⟨Sz.nil, fun k hk => by subst hk; decide, .inr ⟨.z .e, Lst [], 0, .z .e, [], rfl, rfl, by simp, fun j hj => by simp at hj, rfl, by simp, by simp, rfl⟩⟩
theorem own15 : OwnF S15 (.sl .e 0 0 4) 4 (fun k => k = .e) [] := by
 refine ⟨Sz.nil, fun k hk => by subst hk; decide, .inr ⟨.e, Lst [], 0, .e, [], rfl, rfl, by simp, fun j hj => by simp at hj, rfl, by simp, by simp, rfl⟩⟩
theorem w57 (t : Ty) (hl : t.ps.length <= 400) (s : HS) : R (.call 57 [.agg t.c] s) = .val (.agg t.c) s := by
 refine q57 rfl (by simp) ?_
 obtain ⟨v', s', F', ha, how, hfr, hc, hF⟩ := own57.copy (els := t.ps.map Bs.c) (Sz.map (f := Bs.c) (fun x => rfl) _) (mxl := 8796093022208) (by simp; omega)
 have hcel : Cel S57 .e [.nils, .bool false, .int .i64 0] := ⟨rfl, rfl, by decide⟩
 obtain ⟨s2, st, hcel2, hfr2, _⟩ := (hcel.frame hfr (fun e => by cases e)).put (v := .agg [v', .bool t.res.cell, .int .i64 t.res.n]) rfl rfl
 have hld := hcel2.load
 have how2 := how.frame hfr2 (fun k hk e => by subst e; rcases hF _ hk with hk | hk <;> cases hk)
 have st : stV 3 (some (.ptr .e 0)) (some (.agg [v', .bool t.res.cell, .int .i64 t.res.n])) s' = .v .undef s2 := st
 simp only [List.length_cons, List.length_nil] at hld
 simp -implicitDefEqProofs [U.b57, s0, obStore_c, storeG_1, obCells_c, ha, hc, -stV_ptr, st, hld]
 exact dataV_of (.agg (.cons (how2.vw (by simp)) (.data (by simp))))
theorem w15 (w : List Mv) (hl : w.length <= 4000) (s : HS) : R (.call 15 [.psl (w.map Mv.c)] s) = .val (.psl (w.map Mv.c)) s := by
 refine q15 rfl (by simp) ?_
 obtain ⟨v', s', F', ha, how, hfr, hc, hF⟩ := own15.copy (els := w.map Mv.c) (Sz.map (f := Mv.c) (fun x => rfl) _) (mxl := 4398046511104) (by simp; omega)
 simp -implicitDefEqProofs [U.b15, s0, ha]
 exact dataV_of (how.vw (by simp))
theorem w18 (a : Ar) (hl : a.ids.length <= 9) (hp : ∀ t ∈ a.ids, t.ps.length <= 6) (s : HS) : R (.call 18 [.agg a.c] s) = .val (.agg a.c) s := by
 refine q18 rfl (by simp) ?_
 simp -implicitDefEqProofs [U.b18, s0, obStore_c, storeG_1, obCells_c]
 generalize ho : evP R (.loop U.c18_0) _ _ = o
 have hq := loop_use ho a.ids.length
  (fun i e s => ∃ v F, look e 1 = some (.pptr a.c) /\ look e 2 = some (.ptr .e 0) /\ look e 3 = some (.ptr (.z .e) 0) /\ look e 4 = some (iV i) /\ Cel s .e [.nils, .bool false, .int .i64 0, .bool false] /\ Cel s (.z .e) [v, .bool a.root.cell, .int .i64 a.root.n, .bool a.jumps] /\ OwnF s v 3 F ((a.ids.take i).map Ty.c) /\ ∀ k, F k -> 2 <= k.toNat)
  (fun o => ∃ e s v F, o = .code (.exit 0) e s /\ look e 2 = some (.ptr .e 0) /\ look e 3 = some (.ptr (.z .e) 0) /\ Cel s .e [.nils, .bool false, .int .i64 0, .bool false] /\ Cel s (.z .e) [v, .bool a.root.cell, .int .i64 a.root.n, .bool a.jumps] /\ OwnF s v 3 F (a.ids.map Ty.c) /\ ∀ k, F k -> 2 <= k.toNat)
  0 (by omega) ⟨.nils, _, by simp, by simp, by simp, by simp, ⟨by simp, by simp, by simp [Ky.toNat]⟩, ⟨by simp, by simp, by simp [Ky.toNat]⟩, OwnF.nils, fun k hk => hk.elim⟩
  (fun i e s r hi ⟨v, F, h1, h2, h3, h4, hc1, hc2, hO, hF⟩ hr => by
   have hi' : (i : Int) < a.ids.length := by omega
   have h57 := w57 a.ids[i] (by have := hp _ (List.getElem_mem hi); omega)
   have g0 := hc2.get 0 (by simp)
   obtain ⟨v', s1, ha, how, hfr, hnx⟩ := hO.append (mxl := 3518437208883) (new := [a.ids[i].c]) (Sz.cons rfl Sz.nil) (by simp) (by simp; omega)
   have hc1' := hc1.frame hfr (fun h => by have := hF _ h; simp [Ky.toNat] at this)
   have hc2' := hc2.frame hfr (fun h => by have := hF _ h; simp [Ky.toNat] at this)
   obtain ⟨s2, b2, hc3, hfr2, hn2⟩ := hc2'.set 0 (by simp) v' how.one
   have hlt := hc2.2.2
   have hF' : ∀ k, (F k ∨ k = s.nx) -> 2 <= k.toNat := by
    rintro k (hk | rfl)
    ·exact hF k hk
    ·have : (Ky.z Ky.e).toNat < s.nx.toNat := hlt
     simp [Ky.toNat] at this
     omega
   have how2 := how.frame hfr2 (fun k hk e => by subst e; have := hF' _ hk; simp [Ky.toNat] at this)
   have hc1'' := hc1'.frame hfr2 (fun e => by cases e)
   simp only [Ty.c] at h57 ha
   simp at g0
   simp -implicitDefEqProofs [U.c18_0, h1, h2, h3, h4, hi, hi', h57, g0, ha, b2, wrap1 (n := 9) (show i < 9 by omega) (by omega)] at hr
   subst hr
   refine .inl ⟨_, _, rfl, v', fun k => F k ∨ k = s.nx, by simp [h1], by simp [h2], by simp [h3], by simp, hc1'', by simpa using hc3, ?_, hF'⟩
   rw [List.take_succ_eq_append_getElem hi, List.map_append]
   exact how2)
  (fun e s r ⟨v, F, h1, h2, h3, h4, hc1, hc2, hO, hF⟩ hr => by
   simp -implicitDefEqProofs [U.c18_0, h1, h4] at hr
   subst hr
   rw [List.take_length] at hO
   exact ⟨by simp, _, _, v, F, rfl, by simp [h2], by simp [h3], hc1, hc2, hO, hF⟩)
 clear ho
 obtain ⟨e, s, v, F, rfl, h2, h3, hc1, hc2, hO, hF⟩ := hq
 have hld := hc2.load
 obtain ⟨s2, st, hc3, hfr2, _⟩ := hc1.put (v := .agg [v, .bool a.root.cell, .int .i64 a.root.n, .bool a.jumps]) rfl rfl
 have hld2 := hc3.load
 have hO2 := hO.frame hfr2 (fun k hk e => by subst e; have := hF _ hk; simp [Ky.toNat] at this)
 have st : stV 4 (some (.ptr .e 0)) (some (.agg [v, .bool a.root.cell, .int .i64 a.root.n, .bool a.jumps])) s = .v .undef s2 := st
 simp only [List.length_cons, List.length_nil] at hld hld2
 simp -implicitDefEqProofs [h2, h3, hld, -stV_ptr, st, hld2]
 exact dataV_of (.agg (.cons (hO2.vw (by simp)) (.data (by simp))))
set_option maxRecDepth 10000
set_option linter.unusedSimpArgs false
theorem awake (s : HS) : R (.call 12 [] s) = .val (.bool true) s := R_true 12 s rfl rfl rfl rfl
set_option maxRecDepth 10000
set_option linter.unusedSimpArgs false
theorem psSp_find (i : Nat) (id arg : Int) : ∀ (ps : List Bs) (j : Nat), (psSp i j ps).find? (matchSp id arg) = if id = i + 1 /\ (j : Int) + 1 <= arg /\ arg <= j + ps.length then (ps[(arg - 1 - j).toNat]?).map (fun b => ⟨id, arg, b, true⟩) else none
 | [], j => by
  rw [psSp, if_neg (by simp; omega)]; rfl
 | b :: r, j => by
  have ih := psSp_find i id arg r (j + 1)
  rw [psSp, List.find?_cons, ih]
  by_cases h : matchSp id arg ⟨(i : Int) + 1, (j : Int) + 1, b, true⟩ = true
  ·rw [h]
   simp [matchSp] at h
   obtain ⟨h1, h2⟩ := h
   simp only [List.length_cons]
   rw [if_pos (by omega), show (arg - 1 - (j : Int)).toNat = 0 by omega]
   simp [h1, h2]
  ·have h' : matchSp id arg ⟨(i : Int) + 1, (j : Int) + 1, b, true⟩ = false := by simpa using h
   rw [h']
   simp [matchSp] at h
   simp only [List.length_cons]
   by_cases hc : id = (i : Int) + 1 /\ ((j + 1 : Nat) : Int) + 1 <= arg /\ arg <= ((j + 1 : Nat) : Int) + r.length
   ·rw [if_pos hc, if_pos (by omega), show (arg - 1 - (j : Int)).toNat = (arg - 1 - ((j + 1 : Nat) : Int)).toNat + 1 by omega]
    simp
   ·rw [if_neg hc, if_neg (by omega)]
theorem idSp_find (jumps : Bool) (id arg : Int) : ∀ (ids : List Ty) (i : Nat), (idSp jumps i ids).find? (matchSp id arg) = if (i : Int) + 1 <= id /\ id <= i + ids.length then
      match ids[(id - 1 - i).toNat]? with
      | none => none
      | some t => if arg = 0 then some ⟨id, 0, t.res, jumps || decide (0 < t.ps.length)⟩ else if 1 <= arg /\ arg <= t.ps.length then (t.ps[(arg - 1).toNat]?).map (fun b => ⟨id, arg, b, true⟩) else none
    else none
  | [], i => by
    rw [idSp, if_neg (by simp; omega)]; rfl
  | t :: r, i => by
    have ih := idSp_find jumps id arg r (i + 1)
    rw [idSp, List.find?_cons, List.find?_append, psSp_find, ih]
    simp only [List.length_cons]
    by_cases hid : id = i + 1
    · rw [if_pos (show (i : Int) + 1 <= id /\ id <= i + ((r.length + 1 : Nat) : Int) by omega), show (id - 1 - (i : Int)).toNat = 0 by omega]
      rw [if_neg (show ¬ (((i + 1 : Nat) : Int) + 1 <= id /\ id <= ((i + 1 : Nat) : Int) + r.length) by omega)]
      simp only [List.getElem?_cons_zero, Option.or_none]
      by_cases ha : arg = 0
      · subst ha
        simp [matchSp, hid]
      · have h' : matchSp id arg ⟨(i : Int) + 1, 0, t.res, jumps || decide (0 < t.ps.length)⟩ = false := by simp [matchSp]; omega
        rw [h', if_neg ha]
        simp only [hid, true_and, Int.natCast_zero, Int.zero_add, Int.sub_zero]
    · have h' : matchSp id arg ⟨(i : Int) + 1, 0, t.res, jumps || decide (0 < t.ps.length)⟩ = false := by simp [matchSp]; omega
      rw [h', if_neg (show ¬ (id = (i : Int) + 1 /\ ((0 : Nat) : Int) + 1 <= arg /\ arg <= ((0 : Nat) : Int) + t.ps.length) by omega)]
      simp only [Option.none_or]
      by_cases hc : ((i + 1 : Nat) : Int) + 1 <= id /\ id <= ((i + 1 : Nat) : Int) + r.length
      · rw [if_pos hc, if_pos (by omega), show (id - 1 - (i : Int)).toNat = (id - 1 - ((i + 1 : Nat) : Int)).toNat + 1 by omega]
        simp
      · rw [if_neg hc, if_neg (by omega)]
theorem findSp_place (a : Ar) (id arg : Int) : findSp a id arg = (placeO a id arg).map (fun be => ⟨id, arg, be.1, be.2⟩) := by
 unfold findSp spots placeO
 rw [List.find?_cons, idSp_find]
 by_cases h : id = 0 /\ arg = 0
 ·rw [if_pos h]
  obtain ⟨rfl, rfl⟩ := h
  simp [matchSp]
 ·have h' : matchSp id arg ⟨0, 0, a.root, a.jumps⟩ = false := by simp [matchSp]; omega
  rw [h', if_neg h]
  simp only [Int.natCast_zero, Int.zero_add, Int.sub_zero]
  by_cases hc : 1 <= id /\ id <= (a.ids.length : Int)
  ·rw [if_pos hc, if_pos hc]
   cases a.ids[(id - 1).toNat]? with
   | none => rfl
   | some t =>
    simp only
    by_cases ha : arg = 0
    ·subst ha
     simp
     cases t.ps <;> simp
    ·rw [if_neg ha, if_neg ha]
     by_cases hb : 1 <= arg /\ arg <= (t.ps.length : Int)
     ·rw [if_pos hb, if_pos hb, Option.map_map]; rfl
     ·rw [if_neg hb, if_neg hb]; rfl
  ·rw [if_neg hc, if_neg hc]; rfl
theorem hasP_hasB (a : Ar) (m : Mv) : hasP a m = hasB a m := by
 unfold hasP hasB questionsO toldO
 rw [findSp_place]
 cases placeO a m.id m.arg with
 | none => simp
 | some be => simp [movesL]
set_option maxRecDepth 10000
set_option linter.unusedSimpArgs false
theorem placeO_nums {a : Ar} {id arg : Int} {be : Bs × Bool} (h : placeO a id arg = some be) : 0 <= id /\ 0 <= arg /\ (0 < arg -> 0 < id) := by
 unfold placeO at h
 split at h
 ·rename_i h0; omega
 ·split at h
  ·rename_i h1
   split at h
   ·cases h
   ·split at h
    ·omega
    ·split at h
     ·omega
     ·cases h
  ·cases h
theorem hasB_facts {a : Ar} {m : Mv} (h : hasB a m = true) : 0 <= m.id /\ 0 <= m.arg /\ (0 < m.arg -> 0 < m.id) /\ (m.kind = 1 ∨ m.kind = 2 ∨ m.kind = 3) /\ (m.kind = 3 -> -1 <= m.n) := by
 obtain ⟨b, e, hp⟩ := hasB_place h
 obtain ⟨h1, h2, h3⟩ := placeO_nums hp
 unfold hasB questionsO toldO at h
 rw [hp] at h
 simp only [questionsL, toldL, decide_eq_true_eq, List.mem_cons, List.mem_append, List.mem_map] at h
 refine ⟨h1, h2, h3, ?_⟩
 rcases h with (h | ⟨k, _, h⟩) | (h | ⟨k, _, h⟩)
 ·rw [h]; simp
 ·rw [<- h]; simp [putM]
 ·split at h
  ·simp at h; rw [h]; simp
  ·cases h
 ·rw [<- h]; simp [tellM]; try omega
theorem ask_tell {a : Ar} {m : Mv} (h : hasB a m = true) : askB m = !tellB m := by
 obtain ⟨_, _, _, hk, _⟩ := hasB_facts h
 unfold askB tellB
 rcases hk with hk | hk | hk <;> simp [hk]
structure RelW (t : Tk) (x : Wk) : Prop where
 e : t.x = x
 f : t.force = lastForced x.w
 has : ∀ m ∈ x.w, hasB x.a m = true
 most : (x.op.length : Int) <= x.most
theorem topM_mem {x : Wk} {q : Mv} (h : topM x = some q) : q ∈ x.w := by
 unfold topM at h
 split at h
 ·cases h
 ·exact List.mem_of_getElem? h
theorem RelW.can {t : Tk} {x : Wk} (h : RelW t x) (hx : WkOk x) {m : Mv} (hm : hasB x.a m = true) : canT t m = canB x m := by
 obtain ⟨x', fo, force⟩ := t
 obtain ⟨rfl, hf, hhas, _⟩ := h
 simp only at hf hx hm hhas ⊢
 obtain ⟨m1, m2, m3, m4, m5⟩ := hasB_facts hm
 have hat := ask_tell hm
 unfold canT canB
 simp only [hm, Bool.true_and]
 by_cases hw : x'.w = []
 ·have hop : x'.op = [] := List.eq_nil_of_length_eq_zero (by have := hx.opl; rw [hw] at this; simpa using this)
  have ht : topM x' = none := by unfold topM; rw [hop]; rfl
  rw [ht, if_pos hw, hat]
  simp only [hw, atB, decide_true, Bool.true_and]
  by_cases h0 : m.id = 0
  ·have : m.arg = 0 := by omega
   simp [h0, this]
  ·simp [h0]
 ·rw [if_neg hw]
  cases ht : topM x' with
  | none => simp [hw]
  | some q =>
   obtain ⟨q1, q2, q3, q4, q5⟩ := hasB_facts (hhas q (topM_mem ht))
   have hn : tellB m = true -> escB m = false -> (m.n <= 0 ↔ m.n = 0) := by
    simp only [tellB, escB, decide_eq_true_eq, decide_eq_false_iff_not]
    intro h1 h2
    have := m5 h1
    have h4 : m.n ≠ -1 := fun h4 => h2 ⟨h1, h4⟩
    omega
   simp only [hat, <- hf]
   cases hk : tellB m
   ·have hna : ansB q m = false := by
     unfold ansB
     simp only [tellB, decide_eq_false_iff_not] at hk
     simp [hk]
    simp only [hna, Bool.false_and, Bool.not_false, Bool.false_eq_true, if_false, if_true]
    rw [Bool.or_comm force]
    cases hl : (x'.lost || force)
    ·simp only [Bool.false_eq_true, if_false, idB, paB]
     by_cases h1 : 0 < q.id <;> by_cases h2 : q.arg = 0 <;> simp [h1, h2]
     rw [Bool.eq_iff_iff]; simp
     constructor
     ·rintro ⟨⟨h3, h4⟩, h5⟩; exact ⟨h5, h4⟩
     ·rintro ⟨h5, h4⟩; exact ⟨⟨by omega, h4⟩, h5⟩
    ·simp
   ·have hk3 : m.kind = 3 := by simpa [tellB] using hk
    have hans : ansB q m = (atB m q.id q.arg && (decide (q.kind = 1) || decide (m.n <= 0))) := by
     unfold ansB atB
     rw [Bool.eq_iff_iff]; simp [hk3, and_assoc]
    simp only [if_true, Bool.not_true, Bool.false_eq_true, if_false, hans]
    cases ha : atB m q.id q.arg
    ·simp
    unfold ansT
    simp only [Bool.true_and]
    rw [Bool.or_comm force]
    cases hl : (x'.lost || force)
    ·simp only [Bool.false_eq_true, if_false]
     cases he : escB m
     ·have := hn hk he
      simp only [Bool.false_eq_true, false_and, if_false]
      rw [Bool.eq_iff_iff]; simp [this]
     ·have hn1 : m.n = -1 := by simp [escB] at he; exact he.2
      simp only [hn1, true_and, if_true, idB, paB]
      by_cases h2 : q.arg = 0
      ·simp [h2]
      ·have h3 : 0 < q.arg := by omega
       have h4 := q3 h3
       simp [h2, h3, h4]
    ·simp only [if_true]
     cases he : escB m
     ·simp
     ·have hn1 : m.n = -1 := by simp [escB] at he; exact he.2
      simp [hn1]
set_option maxRecDepth 10000
set_option linter.unusedSimpArgs false
theorem lastForced_snoc (w : List Mv) (m : Mv) : lastForced (w ++ [m]) = (escB m && decide (0 < m.arg)) := by
 unfold lastForced; simp
theorem RelW.step {t : Tk} {x : Wk} (h : RelW t x) (hx : WkOk x) {m : Mv} (hc : canB x m = true) : RelW (sayT t m) (takeW x m) := by
 have hm := canB_has hc
 have hat := ask_tell hm
 obtain ⟨m1, m2, m3, m4, m5⟩ := hasB_facts hm
 obtain ⟨x', fo, force⟩ := t
 obtain ⟨rfl, hf, hhas, hmost⟩ := h
 simp only at hf hhas hmost hm hc hx
 have hh : ∀ m' ∈ x'.w ++ [m], hasB x'.a m' = true := by
  intro m' hm'
  rcases List.mem_append.1 hm' with hm' | hm'
  ·exact hhas m' hm'
  ·simp at hm'; subst hm'; exact hm
 cases hk : tellB m
 ·have hask : askB m = true := by rw [hat, hk]; rfl
  have he := esc_tell hk
  have hjs : (if idB m then (0 : Int) else if paB m then topI x' else -1) = if 0 < m.arg then ((x'.op.getLastD 0 : Nat) : Int) else if 0 < m.id then 0 else -1 := by
   by_cases ha : 0 < m.arg
   ·have hi := m3 ha
    have ha' : ¬ m.arg = 0 := by omega
    have hop : x'.op ≠ [] := by
     by_cases hw : x'.w = []
     ·have := (canB_first hc hw).1; omega
     ·exact canB_op hc hw
    simp only [idB, paB, ha, hi, ha', decide_true, decide_false, Bool.and_false, Bool.and_true, if_true, Bool.false_eq_true, if_false]
    unfold topI
    rcases List.eq_nil_or_concat x'.op with hn | ⟨k, n, hn⟩
    ·exact absurd hn hop
    ·rw [hn]; simp
   ·have ha0 : m.arg = 0 := by omega
    by_cases hi : 0 < m.id <;> simp [idB, paB, ha, ha0, hi]
  unfold sayT takeW
  simp only [hk, hask, Bool.false_eq_true, if_false, if_true, hjs]
  refine ⟨rfl, ?_, hh, ?_⟩
  ·simp only [lastForced_snoc, he, Bool.false_and]
  ·simp only [List.length_append, List.length_singleton]; omega
 ·have hask : askB m = false := by rw [hat, hk]; rfl
  have hlo : (x'.lost || escB m && idB m && !force) = (x'.lost || escB m && decide (0 < m.id) && decide (m.arg = 0) && !lastForced x'.w) := by
   rw [<- hf]; unfold idB; simp only [Bool.and_assoc]
  have hmx : max x'.most (x'.op.dropLast.length : Int) = x'.most := by
   rw [List.length_dropLast]; omega
  unfold sayT takeW
  simp only [hk, hask, Bool.false_eq_true, if_false, if_true, hlo, hmx]
  refine ⟨rfl, ?_, hh, ?_⟩
  ·simp only [lastForced_snoc]
   unfold paB
   by_cases ha : 0 < m.arg
   ·simp [ha, m3 ha]
   ·simp [ha]
  ·simp only [List.length_dropLast]; omega
theorem run_walk : ∀ (w : List Mv) (t : Tk) (x : Wk), RelW t x -> WkOk x -> x.w.length + w.length <= 400 -> (walkT t w).x = (runW x w).1 /\ (walkT t w).x.w.length = x.w.length + (runW x w).2
 | [], t, x, h, _, _ => ⟨h.e, by simp only [walkT, runW, h.e, Nat.add_zero]⟩
 | m :: r, t, x, h, hx, hl => by
  simp only [List.length_cons] at hl
  simp only [walkT, runW, hasP_hasB, h.e]
  by_cases hm : hasB x.a m = true
  ·rw [hm, h.can hx hm, Bool.true_and]
   by_cases hc : canB x m = true
   ·rw [hc]
    simp only [if_true]
    have hop : askB m = false -> x.op ≠ [] := fun hq => by
     by_cases hw : x.w = []
     ·have := (canB_first hc hw).2
      rw [hq] at this; cases this
     ·exact canB_op hc hw
    have ih := run_walk r (sayT t m) (takeW x m) (h.step hx hc) (hx.take (by omega) hop) (by rw [takeW_w]; simp; omega)
    rw [takeW_w, List.length_append, List.length_singleton] at ih
    exact ⟨ih.1, by rw [ih.2]; omega⟩
   ·have hc' : canB x m = false := by simpa using hc
    rw [hc']
    exact ⟨h.e, by simp [h.e]⟩
  ·have hm' : hasB x.a m = false := by simpa using hm
   have hc' : canB x m = false := by unfold canB; rw [hm']; rfl
   rw [hm', hc']
   exact ⟨h.e, by simp [h.e]⟩
theorem RelW.zero (a : Ar) : RelW (tk0 a) (wk0 a) := ⟨rfl, rfl, by simp [wk0], by simp [wk0]⟩
theorem playE_wordE (a : Ar) (ok : ArOk a) (w : List Mv) : playE a w = (wordE a w).2 := by
 unfold playE wordE
 by_cases hc : arCheck a = 0
 ·by_cases hl : w.length <= 400
  ·have h := run_walk w (tk0 a) (wk0 a) (RelW.zero a) (WkOk.zero ok hc) (by simp [wk0]; omega)
   have h2 := h.2
   rw [show (wk0 a).w.length = 0 from rfl, Nat.zero_add] at h2
   rw [h2]
   by_cases hr : (runW (wk0 a) w).2 < w.length <;> simp [hc, hl, hr, show ¬ 400 < w.length by omega]
  ·rw [if_pos hc, if_neg hl, if_neg (by simp [hc]), if_pos (by omega)]
 ·rw [if_neg hc, if_pos hc]
theorem lookE_callE (a : Ar) (id : Int) (w : List Mv) (ok : ArOk a) : lookE a id w = callE a id w := by
 unfold lookE callE
 rw [playE_wordE a ok w]
 by_cases hc : arCheck a = 0
 ·rw [if_neg (show ¬ arCheck a ≠ 0 by simp [hc])]
  by_cases hw : (wordE a w).2 = 0
  ·rw [if_pos hw, if_neg (show ¬ (wordE a w).2 ≠ 0 by simp [hw])]
   by_cases hi : 1 <= id /\ id <= (a.ids.length : Int)
   ·rw [if_pos hi, if_neg (by omega)]
   ·rw [if_neg hi, if_pos (by omega)]
  ·rw [if_neg hw, if_pos hw]
 ·have hw : (wordE a w).2 = arCheck a := by unfold wordE; rw [if_pos hc]
  rw [if_pos hc, hw, if_neg hc]
theorem walk_run (a : Ar) (ok : ArOk a) (hc : arCheck a = 0) (w : List Mv) (hl : w.length <= 400) : (walkT (tk0 a) w).x = (runW (wk0 a) w).1 :=
 (run_walk w (tk0 a) (wk0 a) (RelW.zero a) (WkOk.zero ok hc) (by simp [wk0]; omega)).1
theorem callsP_callsR (a : Ar) (id : Int) (w : List Mv) (ok : ArOk a) : callsP a id w = callsR a id w := by
 unfold callsP callsR
 rw [lookE_callE a id w ok]
 by_cases h : callE a id w = 0
 ·obtain ⟨e1, e2, _⟩ := callE_word h
  rw [if_pos h, if_pos h, walk_run a ok e1 w (wordE_len e1 e2)]
 ·rw [if_neg h, if_neg h]
set_option maxRecDepth 10000
set_option linter.unusedSimpArgs false
def JsOk (w : List Mv) (js : List Int) : Prop := ∀ i m, w[i]? = some m -> 0 < m.id -> ¬ (m.arg = 0 /\ m.kind ≠ 3) -> ∃ (j : Nat) (q : Mv), js[i]? = some (j : Int) /\ j < i /\ w[j]? = some q /\ q.id = m.id /\ q.kind ≠ 3
structure Inv (x : Wk) : Prop where
 js : JsOk x.w x.js
 op : ∀ n ∈ x.op, ∃ q, x.w[n]? = some q /\ q.kind ≠ 3
theorem snoc_get {α : Type} {l : List α} {y : α} {i : Nat} {z : α} (h : (l ++ [y])[i]? = some z) : (i < l.length /\ l[i]? = some z) ∨ (i = l.length /\ z = y) := by
 rw [List.getElem?_append] at h
 split at h
 ·rename_i hi; exact .inl ⟨hi, h⟩
 ·rename_i hi
  obtain ⟨h1, h2⟩ := List.getElem?_eq_some_iff.1 h
  simp only [List.length_singleton] at h1
  have h0 : i - l.length = 0 := by omega
  simp [h0] at h2
  exact .inr ⟨by omega, h2.symm⟩
theorem get_snoc {α : Type} {l : List α} {y z : α} {i : Nat} (h : l[i]? = some z) : (l ++ [y])[i]? = some z := by
 rw [List.getElem?_append_left (List.getElem?_eq_some_iff.1 h).1]; exact h
theorem Inv.step {x : Wk} (h : Inv x) (hx : WkOk x) (hhas : ∀ m ∈ x.w, hasB x.a m = true) {m : Mv} (hc : canB x m = true) : Inv (takeW x m) := by
 have hm := canB_has hc
 have hat := ask_tell hm
 obtain ⟨m1, m2, m3, m4, m5⟩ := hasB_facts hm
 have hjl := hx.jsl
 have hold : ∀ (y : Int), ∀ i m', i < x.w.length -> x.w[i]? = some m' -> 0 < m'.id -> ¬ (m'.arg = 0 /\ m'.kind ≠ 3) -> ∃ (j : Nat) (q : Mv), (x.js ++ [y])[i]? = some (j : Int) /\ j < i /\ (x.w ++ [m])[j]? = some q /\ q.id = m'.id /\ q.kind ≠ 3 := by
  intro y i m' hi h1 h2 h3
  obtain ⟨j, q, g1, g2, g3, g4, g5⟩ := h.js i m' h1 h2 h3
  exact ⟨j, q, get_snoc g1, g2, get_snoc g3, g4, g5⟩
 have htop : x.op ≠ [] -> ∃ n q, x.op.getLastD 0 = n /\ x.w[n]? = some q /\ q.kind ≠ 3 /\ topM x = some q /\ n < x.w.length := by
  intro ho
  rcases List.eq_nil_or_concat x.op with hn | ⟨k, n, hn⟩
  ·exact absurd hn ho
  ·obtain ⟨q, hq, hk⟩ := h.op n (by rw [hn]; simp)
   exact ⟨n, q, by rw [hn]; simp, hq, hk, by unfold topM; rw [hn]; simpa using hq, hx.op n (by rw [hn]; simp)⟩
 cases hk : tellB m
 ·have hask : askB m = true := by rw [hat, hk]; rfl
  have hk3 : m.kind ≠ 3 := by simpa [tellB] using hk
  unfold takeW
  rw [if_pos hask]
  refine ⟨?_, ?_⟩
  ·intro i m' hg h2 h3
   rcases snoc_get hg with ⟨hi, hg⟩ | ⟨rfl, rfl⟩
   ·exact hold _ i m' hi hg h2 h3
   ·have ha : 0 < m'.arg := by
     have : m'.arg ≠ 0 := fun h0 => h3 ⟨h0, hk3⟩
     omega
    have hw : x.w ≠ [] := fun hw => by have := (canB_first hc hw).1; omega
    obtain ⟨n, q, t1, t2, t3, t4, t5⟩ := htop (canB_op hc hw)
    refine ⟨n, q, ?_, t5, get_snoc t2, ?_, t3⟩
    ·simp only [if_pos ha, t1]
     rw [List.getElem?_append_right (by omega), hjl]; simp
    ·unfold canB at hc
     rw [if_neg hw, t4, hm] at hc
     simp only [Bool.true_and] at hc
     split at hc
     ·simp [ansB, hk3] at hc
     ·split at hc
      ·simp at hc; exact hc.1.symm
      ·simp at hc; omega
  ·intro n hn
   rcases List.mem_append.1 hn with hn | hn
   ·obtain ⟨q, hq, hk⟩ := h.op n hn
    exact ⟨q, get_snoc hq, hk⟩
   ·simp at hn; subst hn
    exact ⟨m, by simp, hk3⟩
 ·have hask : askB m = false := by rw [hat, hk]; rfl
  have hk3 : m.kind = 3 := by simpa [tellB] using hk
  have hw : x.w ≠ [] := fun hw => by have := (canB_first hc hw).2; rw [hask] at this; cases this
  obtain ⟨n, q, t1, t2, t3, t4, t5⟩ := htop (canB_op hc hw)
  have hid : q.id = m.id := by
   unfold canB at hc
   rw [if_neg hw, t4, hm] at hc
   simp only [Bool.true_and, hask, Bool.false_eq_true, if_false] at hc
   split at hc
   ·simp [ansB] at hc; exact hc.1.1.symm
   ·split at hc
    ·simp [ansB] at hc; exact hc.1.1.1.symm
    ·simp [ansB] at hc; exact hc.1.symm
  unfold takeW
  rw [hask]
  simp only [Bool.false_eq_true, if_false]
  refine ⟨?_, ?_⟩
  ·intro i m' hg h2 h3
   rcases snoc_get hg with ⟨hi, hg⟩ | ⟨rfl, rfl⟩
   ·exact hold _ i m' hi hg h2 h3
   ·refine ⟨n, q, ?_, t5, get_snoc t2, hid, t3⟩
    rw [t1]
    simp only
    rw [List.getElem?_append_right (by omega), hjl]; simp
  ·intro k hn
   obtain ⟨q, hq, hk⟩ := h.op k ((List.dropLast_sublist _).subset hn)
   exact ⟨q, get_snoc hq, hk⟩
theorem run_inv : ∀ (w : List Mv) (x : Wk), Inv x -> WkOk x -> (∀ m ∈ x.w, hasB x.a m = true) -> x.w.length + w.length <= 400 -> Inv (runW x w).1 /\ (runW x w).1.w = x.w ++ w.take (runW x w).2
 | [], x, h, _, _, _ => ⟨h, by simp [runW]⟩
 | m :: r, x, h, hx, hh, hl => by
  simp only [List.length_cons] at hl
  rw [runW]
  by_cases hc : canB x m = true
  ·rw [if_pos hc]
   have hop : askB m = false -> x.op ≠ [] := fun hq => by
    by_cases hw : x.w = []
    ·have := (canB_first hc hw).2
     rw [hq] at this; cases this
    ·exact canB_op hc hw
   obtain ⟨i1, i2⟩ := run_inv r (takeW x m) (h.step hx hh hc) (hx.take (by omega) hop) (by
    rw [takeW_w, takeW_a]
    intro m' hm'
    rcases List.mem_append.1 hm' with hm' | hm'
    ·exact hh m' hm'
    ·simp at hm'; subst hm'; exact canB_has hc) (by rw [takeW_w]; simp; omega)
   refine ⟨i1, ?_⟩
   rw [takeW_w] at i2
   simp only [i2, List.append_assoc]
   simp
  ·rw [if_neg hc]
   exact ⟨h, by simp⟩
theorem cst_mono (js : List Int) (id : Int) (w : List Mv) {j : Nat} {k : Int} : ∀ (d i : Nat), i + d <= w.length -> (cst js id w i).1[j]? = some k -> (cst js id w (i + d)).1[j]? = some k /\ (cst js id w i).2.length <= (cst js id w (i + d)).2.length
 | 0, i, _, h => ⟨h, Nat.le_refl _⟩
 | d + 1, i, hi, h => by
  obtain ⟨h1, h2⟩ := cst_mono js id w d i (by omega) h
  have hm := List.getElem?_eq_getElem (show i + d < w.length by omega)
  rw [<- Nat.add_assoc, cst]
  unfold cstep
  rw [hm]
  simp only
  split
  ·exact ⟨get_snoc h1, h2⟩
  ·split
   ·exact ⟨get_snoc h1, by simp only [List.length_append]; omega⟩
   ·split
    ·exact ⟨get_snoc h1, h2⟩
    ·exact ⟨get_snoc h1, by simp only [List.length_set]; exact h2⟩
theorem jsOk_callsOk {js : List Int} {id : Int} {w : List Mv} (hid : 0 < id) (h : JsOk w js) : CallsOk js id w := by
 have main : ∀ (i : Nat) (m : Mv), w[i]? = some m -> m.id = id -> m.kind ≠ 3 -> ∃ k : Nat, (cst js id w (i + 1)).1[i]? = some (k : Int) /\ k < (cst js id w (i + 1)).2.length := by
  intro i
  induction i using Nat.strongRecOn with
  | _ i ih =>
   intro m hm hmi hk
   have hi := (List.getElem?_eq_some_iff.1 hm).1
   obtain ⟨c1, c2, _⟩ := cst_len js id w i (by omega)
   rw [cst]
   unfold cstep
   rw [hm]
   simp only
   rw [if_neg (by simp [hmi])]
   by_cases ha : m.arg = 0
   ·rw [if_pos ⟨ha, hk⟩]
    exact ⟨(cst js id w i).2.length, by simp [c1], by simp⟩
   ·rw [if_neg (by simp [ha]), if_neg (by simp [ha])]
    obtain ⟨j, q, g1, g2, g3, g4, g5⟩ := h i m hm (by omega) (by simp [ha])
    obtain ⟨k, k1, k2⟩ := ih j g2 q g3 (by omega) g5
    obtain ⟨k3, k4⟩ := cst_mono js id w (i - (j + 1)) (j + 1) (by omega) k1
    rw [show j + 1 + (i - (j + 1)) = i by omega] at k3 k4
    have e1 : js.getD i 0 = (j : Int) := by rw [List.getD_eq_getElem?_getD, g1]; rfl
    have e2 : (cst js id w i).1.getD j 0 = (k : Int) := by rw [List.getD_eq_getElem?_getD, k3]; rfl
    refine ⟨k, ?_, ?_⟩
    ·simp only [e1, Int.toNat_natCast, e2]
     rw [List.getElem?_append_right (by omega)]; simp [c1]
    ·simp only [List.length_set]; omega
 intro i m hm hmi hn1 hn2
 have hi := (List.getElem?_eq_some_iff.1 hm).1
 obtain ⟨j, q, g1, g2, g3, g4, g5⟩ := h i m hm (by omega) hn1
 obtain ⟨k, k1, k2⟩ := main j q g3 (by omega) g5
 obtain ⟨k3, k4⟩ := cst_mono js id w (i - (j + 1)) (j + 1) (by omega) k1
 rw [show j + 1 + (i - (j + 1)) = i by omega] at k3 k4
 exact ⟨j, k, g1, k3, by omega⟩
theorem arCheck_ok {a : Ar} (h : arCheck a = 0) : ArOk a := by
 unfold arCheck at h
 split at h
 ·cases h
 ·rename_i h1
  refine ⟨by omega, fun t ht => ?_⟩
  have : ¬ (a.ids.any longB = true) := fun hb => h1 (.inr hb)
  simp only [List.any_eq_true, not_exists, not_and] at this
  have := this t ht
  simp only [longB, decide_eq_true_eq] at this
  omega
theorem allOk : AllOk := by
 intro a id w h
 obtain ⟨e1, e2, e3, _⟩ := callE_word h
 have ok := arCheck_ok e1
 have hl := wordE_len e1 e2
 obtain ⟨i1, i2⟩ := run_inv w (wk0 a) ⟨fun i m h => by simp [wk0] at h, fun n hn => by simp [wk0] at hn⟩ (WkOk.zero ok e1) (by simp [wk0]) (by simp [wk0]; omega)
 have hr : ¬ (runW (wk0 a) w).2 < w.length := by
  intro hr
  unfold wordE at e2
  simp [e1, hr, show ¬ 400 < w.length by omega] at e2
 have hw : (runW (wk0 a) w).1.w = w := by
  rw [i2]; show [] ++ w.take _ = w
  rw [List.nil_append, List.take_of_length_le (by omega)]
 have hj := i1.js
 rw [hw] at hj
 exact jsOk_callsOk (by omega) hj
theorem allOkP : AllOkP := by
 intro a id w h
 have hc := (playE_legal (lookE_legal h)).1
 have hl := (playE_legal (lookE_legal h)).2.1
 have ok := arCheck_ok hc
 rw [walk_run a ok hc w hl]
 rw [lookE_callE a id w ok] at h
 exact allOk a id w h
set_option maxRecDepth 10000
set_option linter.unusedSimpArgs false
def innA (a : Ar) (id : Int) : Ar := match a.ids[(id - 1).toNat]? with
 | none => ⟨[], ⟨false, 0⟩, false⟩
 | some t => ⟨t.ps.map (fun b => ⟨[], b⟩), t.res, a.jumps || !t.ps.isEmpty⟩
theorem place_inn (a : Ar) {id : Int} (h1 : 1 <= id) (h2 : id <= a.ids.length) (arg : Int) : placeO (innA a id) arg 0 = placeO a id arg := by
 have hi : (id - 1).toNat < a.ids.length := by omega
 obtain ⟨t, ht⟩ : ∃ t, a.ids[(id - 1).toNat]? = some t := ⟨_, List.getElem?_eq_getElem hi⟩
 unfold placeO innA
 rw [ht]
 have h0 : ¬ (id = 0 /\ arg = 0) := by omega
 by_cases ha : arg = 0
 ·subst ha
  simp [h1, h2, show ¬ id = 0 by omega]
 by_cases hr : 1 <= arg /\ arg <= (t.ps.length : Int)
 ·have hj : (arg - 1).toNat < t.ps.length := by omega
  have hne : t.ps.isEmpty = false := by
   cases hp : t.ps with
   | nil => rw [hp] at hj; simp at hj
   | cons => rfl
  have hg := List.getElem?_eq_getElem hj
  rw [if_neg (by omega), if_pos (by simpa using hr), if_neg h0, if_pos ⟨h1, h2⟩]
  simp only [List.getElem?_map, hg, Option.map_some, if_neg ha, if_pos hr, hne]
  simp
 ·rw [if_neg (by omega), if_neg (by simpa using hr), if_neg h0, if_pos ⟨h1, h2⟩]
  simp only [if_neg ha, if_neg hr]
theorem mem_questions (b : Bs) (id arg : Int) (m : Mv) (h1 : m.id = id) (h2 : m.arg = arg) : m ∈ questionsL b id arg ↔ turned m ∈ questionsL b arg 0 := by
 obtain ⟨mi, ma, mk, mn⟩ := m
 simp only at h1 h2
 subst h1; subst h2
 simp [questionsL, turned, putM]
theorem mem_told (b : Bs) (e : Bool) (id arg : Int) (m : Mv) (h1 : m.id = id) (h2 : m.arg = arg) : m ∈ toldL b e id arg ↔ turned m ∈ toldL b e arg 0 := by
 obtain ⟨mi, ma, mk, mn⟩ := m
 simp only at h1 h2
 subst h1; subst h2
 cases e <;> simp [toldL, turned, tellM]
theorem has_inn (a : Ar) {id : Int} (h1 : 1 <= id) (h2 : id <= a.ids.length) {m : Mv} (hm : m.id = id) : hasB (innA a id) (turned m) = hasB a m := by
 unfold hasB questionsO toldO
 have hp : placeO (innA a id) (turned m).id (turned m).arg = placeO a m.id m.arg := by
  rw [hm]; exact place_inn a h1 h2 m.arg
 rw [hp]
 cases placeO a m.id m.arg with
 | none => simp
 | some be =>
  simp only [mem_questions be.1 m.id m.arg m rfl rfl, mem_told be.1 be.2 m.id m.arg m rfl rfl]
  rfl
theorem inn_jumps (a : Ar) {id : Int} (h1 : 1 <= id) (h2 : id <= a.ids.length) {m : Mv} (hm : m.id = id) (ha : 0 < m.arg) (hh : hasB a m = true) : (innA a id).jumps = true := by
 obtain ⟨b, e, hp⟩ := hasB_place hh
 have hi : (id - 1).toNat < a.ids.length := by omega
 obtain ⟨t, ht⟩ : ∃ t, a.ids[(id - 1).toNat]? = some t := ⟨_, List.getElem?_eq_getElem hi⟩
 rw [hm] at hp
 unfold placeO at hp
 rw [if_neg (by omega), if_pos ⟨h1, h2⟩, ht] at hp
 simp only at hp
 rw [if_neg (by omega)] at hp
 split at hp
 ·rename_i hr
  unfold innA
  rw [ht]
  have : t.ps.isEmpty = false := by
   cases hps : t.ps with
   | nil => rw [hps] at hr; simp at hr; omega
   | cons => rfl
  simp only [this, Bool.not_false, Bool.or_true]
 ·cases hp
theorem runW_snoc : ∀ (v : List Mv) (x y : Wk) (m : Mv), runW x v = (y, v.length) -> canB y m = true -> runW x (v ++ [m]) = (takeW y m, v.length + 1)
 | [], x, y, m, h, hc => by
  simp only [runW, Prod.mk.injEq] at h
  obtain ⟨rfl, _⟩ := h
  simp [runW, hc]
 | n :: v, x, y, m, h, hc => by
  simp only [runW, List.length_cons] at h
  by_cases hn : canB x n = true
  ·rw [if_pos hn, Prod.mk.injEq] at h
   have ih := runW_snoc v (takeW x n) y m (by rw [<- h.1]; exact Prod.ext rfl (by have := h.2; simp only; omega)) hc
   simp only [List.cons_append, runW, if_pos hn, ih, List.length_cons]
  ·rw [if_neg hn, Prod.mk.injEq] at h
   omega
def Leg (a : Ar) (v : List Mv) (y : Wk) : Prop := runW (wk0 a) v = (y, v.length)
theorem Leg.snoc {a : Ar} {v : List Mv} {y : Wk} {m : Mv} (h : Leg a v y) (hc : canB y m = true) : Leg a (v ++ [m]) (takeW y m) := by
 unfold Leg
 rw [runW_snoc v _ y m h hc]; simp
theorem Leg.nil (a : Ar) : Leg a [] (wk0 a) := rfl
theorem run_wa : ∀ (v : List Mv) (x : Wk), (runW x v).1.w = x.w ++ v.take (runW x v).2 /\ (runW x v).1.a = x.a
 | [], x => by simp [runW]
 | m :: r, x => by
  rw [runW]
  split
  ·obtain ⟨h1, h2⟩ := run_wa r (takeW x m)
   rw [takeW_w] at h1
   rw [takeW_a] at h2
   simp [h1, h2]
  ·simp
theorem Leg.w {a : Ar} {v : List Mv} {y : Wk} (h : Leg a v y) : y.w = v /\ y.a = a := by
 obtain ⟨h1, h2⟩ := run_wa v (wk0 a)
 rw [h] at h1 h2
 simpa [wk0] using And.intro h1 h2
set_option maxRecDepth 10000
set_option linter.unusedSimpArgs false
theorem lastForced_take {W : List Mv} {i : Nat} (hi : i <= W.length) : lastForced (W.take i) = forcedAt W i := by
 cases i with
 | zero => rfl
 | succ j =>
  have hj : j < W.length := by omega
  rw [List.take_succ_eq_append_getElem hj, lastForced_snoc]
  simp [forcedAt, List.getElem?_eq_getElem hj]
theorem cst_else {J : List Int} {id : Int} {W : List Mv} {i : Nat} {m : Mv} (hm : W[i]? = some m) (h1 : m.id = id) (h2 : ¬ (m.arg = 0 /\ m.kind ≠ 3)) (h3 : ¬ (m.arg = 0 /\ escB m = true /\ forcedAt W i = false)) {j k : Nat} (hj : J[i]? = some (j : Int)) (hk : (cst J id W i).1[j]? = some (k : Int)) :
  cst J id W (i + 1) = ((cst J id W i).1 ++ [(k : Int)], (cst J id W i).2.set k ((cst J id W i).2.getD k [] ++ [i])) := by
 have e1 : J.getD i 0 = (j : Int) := by rw [List.getD_eq_getElem?_getD, hj]; rfl
 have e2 : (cst J id W i).1.getD j 0 = (k : Int) := by rw [List.getD_eq_getElem?_getD, hk]; rfl
 rw [cst]
 unfold cstep
 rw [hm]
 simp only
 rw [if_neg (by simp [h1]), if_neg h2, if_neg h3, e1, Int.toNat_natCast, e2, Int.toNat_natCast]
theorem cst_skip {J : List Int} {id : Int} {W : List Mv} {i : Nat} {m : Mv} (hm : W[i]? = some m) (h : m.id ≠ id ∨ (m.id = id /\ m.arg = 0 /\ escB m = true /\ forcedAt W i = false)) :
  cst J id W (i + 1) = ((cst J id W i).1 ++ [-1], (cst J id W i).2) := by
 rw [cst]
 unfold cstep
 rw [hm]
 simp only
 rcases h with h | ⟨h1, h2, h3, h4⟩
 ·rw [if_pos h]
 ·have hk : m.kind = 3 := by simp [escB] at h3; exact h3.1
  rw [if_neg (by simp [h1]), if_neg (by simp [hk]), if_pos ⟨h2, h3, h4⟩]
theorem cst_new {J : List Int} {id : Int} {W : List Mv} {i : Nat} {m : Mv} (hm : W[i]? = some m) (h1 : m.id = id) (h2 : m.arg = 0) (h3 : m.kind ≠ 3) :
  cst J id W (i + 1) = ((cst J id W i).1 ++ [((cst J id W i).2.length : Int)], (cst J id W i).2 ++ [[i]]) := by
 rw [cst]
 unfold cstep
 rw [hm]
 simp only
 rw [if_neg (by simp [h1]), if_pos ⟨h2, h3⟩]
section
variable (a : Ar) (id : Int) (W : List Mv)
def CallAt (cs : List (List Nat)) (k q : Nat) (y : Wk) : Prop := ∃ c, cs[k]? = some c /\ c.head? = some q /\ Leg (innA a id) (insideW W c) y
def InP (y : Wk) (mq mp : Mv) : Prop := ∃ j, y.op = [0, j] /\ y.w[0]? = some (turned mq) /\ y.w[j]? = some (turned mp) /\ y.lost = false
def InQ (y : Wk) (mq : Mv) (f : Bool) : Prop := y.op = [0] /\ y.w[0]? = some (turned mq) /\ y.lost = f
def FrOk (of : List Int) (cs : List (List Nat)) (f : Nat × Nat) : Prop := ∃ mq mp, W[f.1]? = some mq /\ W[f.2]? = some mp /\ mp.id = mq.id /\ 0 < mq.id /\ mq.arg = 0 /\ 0 < mp.arg /\
 (mq.id = id -> ∃ (k : Nat) (y : Wk), of[f.1]? = some (k : Int) /\ of[f.2]? = some (k : Int) /\ CallAt a id W cs k f.1 y /\ InP y mq mp)
def TopOk (of : List Int) (cs : List (List Nat)) (fo : Bool) (q : Nat) : Prop := ∃ mq, W[q]? = some mq /\ 0 < mq.id /\ mq.arg = 0 /\
 (mq.id = id -> ∃ (k : Nat) (y : Wk), of[q]? = some (k : Int) /\ CallAt a id W cs k q y /\ InQ y mq fo)
def opOf (F : List (Nat × Nat)) (t : Option Nat) : List Nat := 0 :: F.flatMap (fun f => [f.1, f.2]) ++ t.toList
structure PI (x : Wk) (of : List Int) (cs : List (List Nat)) (F : List (Nat × Nat)) (t : Option Nat) : Prop where
 op : x.op = opOf F t
 srt : x.op.Pairwise (· < ·)
 root : ∃ m, W[0]? = some m /\ m.id = 0
 fr : ∀ f ∈ F, FrOk a id W of cs f
 top : ∀ q, t = some q -> TopOk a id W of cs (lastForced x.w) q
def AllLeg (cs : List (List Nat)) : Prop := ∀ c ∈ cs, c ≠ [] /\ ∃ y, Leg (innA a id) (insideW W c) y
end
section
variable {a : Ar} {id : Int} {W : List Mv}
theorem insideW_snoc (c : List Nat) (i : Nat) {m : Mv} (hm : W[i]? = some m) : insideW W (c ++ [i]) = insideW W c ++ [turned m] := by
 unfold insideW
 rw [List.map_append, List.map_singleton, List.getD_eq_getElem?_getD, hm]; rfl
theorem CallAt.snoc {cs : List (List Nat)} {k q : Nat} {y : Wk} (h : CallAt a id W cs k q y) (c2 : List Nat) : CallAt a id W (cs ++ [c2]) k q y := by
 obtain ⟨c, h1, h2⟩ := h
 exact ⟨c, get_snoc h1, h2⟩
theorem CallAt.other {cs : List (List Nat)} {k q k' q' : Nat} {y y' : Wk} (h : CallAt a id W cs k q y) (h' : CallAt a id W cs k' q' y') (hq : q ≠ q') (c2 : List Nat) : CallAt a id W (cs.set k c2) k' q' y' := by
 obtain ⟨c, h1, h2, h3⟩ := h
 obtain ⟨c', h1', h2', h3'⟩ := h'
 refine ⟨c', ?_, h2', h3'⟩
 rw [List.getElem?_set]
 split
 ·rename_i hk
  subst hk
  rw [h1] at h1'
  cases h1'
  rw [h2] at h2'
  exact absurd (Option.some.inj h2') hq
 ·exact h1'
theorem CallAt.take {cs : List (List Nat)} {k q i : Nat} {y : Wk} {m : Mv} (h : CallAt a id W cs k q y) (hm : W[i]? = some m) (hc : canB y (turned m) = true) : CallAt a id W (cs.set k (cs.getD k [] ++ [i])) k q (takeW y (turned m)) := by
 obtain ⟨c, h1, h2, h3⟩ := h
 have hk := (List.getElem?_eq_some_iff.1 h1).1
 refine ⟨c ++ [i], ?_, ?_, ?_⟩
 ·rw [List.getElem?_set_self hk, List.getD_eq_getElem?_getD, h1]; rfl
 ·cases c with
  | nil => cases h2
  | cons => exact h2
 ·rw [insideW_snoc c i hm]; exact h3.snoc hc
theorem AllLeg.set {cs : List (List Nat)} (h : AllLeg a id W cs) {k q : Nat} {y : Wk} {c2 : List Nat} (hc : CallAt a id W (cs.set k c2) k q y) : AllLeg a id W (cs.set k c2) := by
 obtain ⟨c, h1, h2, h3⟩ := hc
 have hk : k < cs.length := by have := (List.getElem?_eq_some_iff.1 h1).1; simpa using this
 rw [List.getElem?_set_self hk] at h1
 cases h1
 intro c' hc'
 rcases List.mem_or_eq_of_mem_set hc' with hc' | rfl
 ·exact h c' hc'
 ·refine ⟨?_, y, h3⟩
  intro h0
  rw [h0] at h2
  cases h2
theorem FrOk.mono {of of' : List Int} {cs cs' : List (List Nat)} {f : Nat × Nat} (h : FrOk a id W of cs f) (h1 : ∀ (n : Nat) (k : Int), of[n]? = some k -> of'[n]? = some k) (h2 : ∀ k y, CallAt a id W cs k f.1 y -> CallAt a id W cs' k f.1 y) : FrOk a id W of' cs' f := by
 obtain ⟨mq, mp, g1, g2, g3, g4, g0, g5, g6⟩ := h
 refine ⟨mq, mp, g1, g2, g3, g4, g0, g5, fun hid => ?_⟩
 obtain ⟨k, y, e1, e2, e3, e4⟩ := g6 hid
 exact ⟨k, y, h1 _ _ e1, h1 _ _ e2, h2 _ _ e3, e4⟩
theorem opOf_snoc (F : List (Nat × Nat)) (q p : Nat) : opOf (F ++ [(q, p)]) none = opOf F (some q) ++ [p] := by
 simp [opOf]
theorem opOf_some (F : List (Nat × Nat)) (q : Nat) : opOf F (some q) = opOf F none ++ [q] := by
 simp [opOf]
theorem mem_opOf {F : List (Nat × Nat)} {t : Option Nat} {f : Nat × Nat} (h : f ∈ F) : f.1 ∈ opOf F t := by
 simp only [opOf, List.mem_append, List.mem_cons, List.mem_flatMap]
 exact .inl (.inr ⟨f, h, by simp⟩)
end
set_option maxRecDepth 10000
set_option linter.unusedSimpArgs false
theorem leg_lf {a : Ar} {v : List Mv} {y : Wk} (h : Leg a v y) (hv : ∀ m ∈ v, m.arg = 0) : lastForced y.w = false := by
 rw [h.w.1]
 unfold lastForced
 cases hl : v.getLast? with
 | none => rfl
 | some m => simp [hv m (List.mem_of_getLast? hl)]
theorem insideW_arg (W : List Mv) (c : List Nat) : ∀ m ∈ insideW W c, m.arg = 0 := by
 intro m hm
 unfold insideW at hm
 obtain ⟨i, _, rfl⟩ := List.mem_map.1 hm
 rfl
section
variable {a : Ar} {id : Int} {W : List Mv}
theorem CallAt.lf {cs : List (List Nat)} {k q : Nat} {y : Wk} (h : CallAt a id W cs k q y) : lastForced y.w = false /\ y.a = innA a id /\ y.w ≠ [] := by
 obtain ⟨c, h1, h2, h3⟩ := h
 refine ⟨leg_lf h3 (insideW_arg W c), h3.w.2, ?_⟩
 rw [h3.w.1]
 cases c with
 | nil => cases h2
 | cons x l => simp [insideW]
theorem ans_turned {t m : Mv} (h : ansB t m = true) : ansB (turned t) (turned m) = true := by
 simp only [ansB, turned, decide_eq_true_eq] at h ⊢
 exact ⟨h.2.1, trivial, h.2.2⟩
theorem can_param {y : Wk} {mq mp m : Mv} (hy : InP y mq mp) (hl : lastForced y.w = false) (hw : y.w ≠ []) (hj : y.a.jumps = true) (hh : hasB y.a (turned m) = true) (ha : ansB mp m = true) (hp : 0 < mp.arg) : canB y (turned m) = true := by
 obtain ⟨j, h1, h2, h3, h4⟩ := hy
 have ht : topM y = some (turned mp) := by unfold topM; rw [h1]; exact h3
 have hk : askB (turned m) = false := by
  simp only [ansB, decide_eq_true_eq] at ha
  simp [askB, turned, ha.2.2.1]
 unfold canB
 rw [if_neg hw, ht]
 simp only [hh, h4, hl, hk, Bool.or_self, Bool.false_eq_true, if_false, Bool.true_and, ans_turned ha, hj, Bool.and_true]
 split
 ·simp [turned, hp]
 ·rfl
theorem can_ask {y : Wk} {mq m : Mv} (hy : InQ y mq false) (hl : lastForced y.w = false) (hw : y.w ≠ []) (hh : hasB y.a (turned m) = true) (hk : askB m = true) (hp : 0 < m.arg) (hq : mq.arg = 0) : canB y (turned m) = true := by
 obtain ⟨h1, h2, h3⟩ := hy
 have ht : topM y = some (turned mq) := by unfold topM; rw [h1]; exact h2
 have hk' : askB (turned m) = true := hk
 unfold canB
 rw [if_neg hw, ht]
 rw [hh, h3, hl, hk']
 simp [turned, hq, hp]
theorem can_root {y : Wk} {mq m : Mv} {fo : Bool} (hy : InQ y mq fo) (hl : lastForced y.w = false) (hw : y.w ≠ []) (hh : hasB y.a (turned m) = true) (ha : ansB mq m = true) (hf : fo = true ↔ escB m = true) : canB y (turned m) = true := by
 obtain ⟨h1, h2, h3⟩ := hy
 have ht : topM y = some (turned mq) := by unfold topM; rw [h1]; exact h2
 have hk : askB (turned m) = false := by
  simp only [ansB, decide_eq_true_eq] at ha
  simp [askB, turned, ha.2.2.1]
 have he : escB (turned m) = escB m := rfl
 have hans := ans_turned ha
 unfold canB
 rw [if_neg hw, ht]
 simp only [hh, h3, hl, hk, Bool.or_false, Bool.true_and, hans, he]
 cases hfo : fo
 ·have : escB m = false := by cases h : escB m; rfl; rw [hfo] at hf; exact absurd (hf.2 h) (by simp)
  simp [this]
 ·have : escB m = true := hf.1 hfo
  simp [this]
theorem can_first (m : Mv) {b : Ar} (hh : hasB b (turned m) = true) (hk : askB m = true) (ha : m.arg = 0) : canB (wk0 b) (turned m) = true := by
 have hk' : askB (turned m) = true := hk
 unfold canB
 simp [wk0, hh, hk']
 simp [turned, ha]
theorem can_tell {x : Wk} {m t : Mv} (hc : canB x m = true) (hw : x.w ≠ []) (ht : topM x = some t) (hk : askB m = false) : ansB t m = true /\ ((x.lost || lastForced x.w) = true -> escB m = true) := by
 unfold canB at hc
 rw [if_neg hw, ht] at hc
 simp only [hk, Bool.and_eq_true] at hc
 obtain ⟨_, hc⟩ := hc
 split at hc
 ·rename_i hl
  simp at hc
  exact ⟨hc.1, fun _ => hc.2⟩
 ·rename_i hl
  refine ⟨?_, fun h => absurd h hl⟩
  split at hc
  ·rename_i h; exact absurd h (by simp)
  ·split at hc
   ·simp at hc; exact hc.1.1
   ·exact hc
theorem can_quest {x : Wk} {m t : Mv} (hc : canB x m = true) (hw : x.w ≠ []) (ht : topM x = some t) (hk : askB m = true) : lastForced x.w = false /\ (if 0 < t.id /\ t.arg = 0 then m.id = t.id /\ 0 < m.arg else 0 < m.id /\ m.arg = 0) := by
 unfold canB at hc
 rw [if_neg hw, ht] at hc
 simp only [hk, Bool.and_eq_true, if_true] at hc
 obtain ⟨_, hc⟩ := hc
 split at hc
 ·rename_i hl
  simp [ansB, escB] at hc
  simp [askB] at hk
  omega
 ·rename_i hl
  refine ⟨by cases h : lastForced x.w; rfl; rw [h] at hl; simp at hl, ?_⟩
  split at hc
  ·rename_i h; rw [if_pos h]; simpa using hc
  ·rename_i h; rw [if_neg h]; simpa using hc
end
set_option maxRecDepth 10000
set_option linter.unusedSimpArgs false
structure Stp (a : Ar) (id : Int) (W : List Mv) (J : List Int) (x : Wk) (i : Nat) (m : Mv) : Prop where
 id1 : 1 <= id
 id2 : id <= a.ids.length
 ok : WkOk x
 xa : x.a = a
 xw : x.w = W.take i
 hm : W[i]? = some m
 can : canB x m = true
 js : J[i]? = (takeW x m).js[i]?
section
variable {a : Ar} {id : Int} {W : List Mv} {J : List Int} {x : Wk} {i : Nat} {m : Mv}
theorem Stp.len (h : Stp a id W J x i m) : x.w.length = i := by
 have := (List.getElem?_eq_some_iff.1 h.hm).1
 rw [h.xw, List.length_take]; omega
theorem Stp.lk (h : Stp a id W J x i m) {n : Nat} (hn : n < i) : x.w[n]? = W[n]? := by
 rw [h.xw, List.getElem?_take_of_lt hn]
theorem Stp.has (h : Stp a id W J x i m) : hasB a m = true := by rw [<- h.xa]; exact canB_has h.can
theorem Stp.opi (h : Stp a id W J x i m) {n : Nat} (hn : n ∈ x.op) : n < i := by rw [<- h.len]; exact h.ok.op n hn
theorem Stp.lf (h : Stp a id W J x i m) : lastForced x.w = forcedAt W i := by
 rw [h.xw]; exact lastForced_take (by have := (List.getElem?_eq_some_iff.1 h.hm).1; omega)
theorem Stp.lf' (h : Stp a id W J x i m) : lastForced (takeW x m).w = (escB m && decide (0 < m.arg)) := by
 rw [takeW_w, lastForced_snoc]
theorem Stp.jt (h : Stp a id W J x i m) (hk : askB m = false) {r : List Nat} {n : Nat} (ho : x.op = r ++ [n]) : J[i]? = some (n : Int) := by
 rw [h.js]
 unfold takeW
 rw [hk]
 simp only [Bool.false_eq_true, if_false]
 rw [List.getElem?_append_right (by rw [h.ok.jsl, h.len]; omega), h.ok.jsl, h.len, ho]
 simp
theorem Stp.ja (h : Stp a id W J x i m) (hk : askB m = true) (hp : 0 < m.arg) {r : List Nat} {n : Nat} (ho : x.op = r ++ [n]) : J[i]? = some (n : Int) := by
 rw [h.js]
 unfold takeW
 rw [hk]
 simp only [if_true, if_pos hp]
 rw [List.getElem?_append_right (by rw [h.ok.jsl, h.len]; omega), h.ok.jsl, h.len, ho]
 simp
theorem Stp.top (h : Stp a id W J x i m) {r : List Nat} {n : Nat} (ho : x.op = r ++ [n]) : topM x = W[n]? := by
 unfold topM
 rw [ho]
 simp only [List.getLast?_append, List.getLast?_singleton, Option.some_or]
 exact h.lk (h.opi (by rw [ho]; simp))
theorem Stp.ofl (h : Stp a id W J x i m) : (cst J id W i).1.length = i := (cst_len J id W i (by have := (List.getElem?_eq_some_iff.1 h.hm).1; omega)).1
theorem Stp.ofl' (h : Stp a id W J x i m) (k : Int) : ((cst J id W i).1 ++ [k])[i]? = some k := by
 rw [List.getElem?_append_right (by rw [h.ofl]; omega), h.ofl]; simp
theorem Stp.push (h : Stp a id W J x i m) (hk : askB m = true) (hs : x.op.Pairwise (· < ·)) : (takeW x m).op = x.op ++ [i] /\ (takeW x m).op.Pairwise (· < ·) := by
 have e : (takeW x m).op = x.op ++ [i] := by
  unfold takeW
  rw [if_pos hk]
  simp only [h.len]
 refine ⟨e, ?_⟩
 rw [e, List.pairwise_append]
 exact ⟨hs, by simp, fun n hn k hk => by simp at hk; subst hk; exact h.opi hn⟩
theorem Stp.pop (h : Stp a id W J x i m) (hk : askB m = false) (hs : x.op.Pairwise (· < ·)) {r : List Nat} {n : Nat} (ho : x.op = r ++ [n]) : (takeW x m).op = r /\ (takeW x m).op.Pairwise (· < ·) := by
 have e : (takeW x m).op = x.op.dropLast := by
  unfold takeW
  rw [hk]
  rfl
 rw [e]
 exact ⟨by rw [ho]; simp, hs.sublist (List.dropLast_sublist _)⟩
theorem askKind (hk : askB m = true) : m.kind ≠ 3 := by
 simp [askB] at hk
 omega
theorem ask_esc (hk : askB m = true) : escB m = false := by
 simp [askB] at hk
 simp [escB]
 intro h; omega
abbrev Goal (a : Ar) (id : Int) (W : List Mv) (J : List Int) (x : Wk) (i : Nat) (m : Mv) : Prop :=
 AllLeg a id W (cst J id W (i + 1)).2 /\ ((takeW x m).op = [] ∨ ∃ F t, PI a id W (takeW x m) (cst J id W (i + 1)).1 (cst J id W (i + 1)).2 F t)
theorem step_ask (h : Stp a id W J x i m) {F : List (Nat × Nat)} (hP : PI a id W x (cst J id W i).1 (cst J id W i).2 F none) (hA : AllLeg a id W (cst J id W i).2) (hne : x.w ≠ []) (hk : askB m = true) : Goal a id W J x i m := by
 have hq : 0 < m.id /\ m.arg = 0 := by
  rcases List.eq_nil_or_concat F with hF | ⟨F0, ⟨q, p⟩, hF⟩
  ·have ho : x.op = [] ++ [0] := by rw [hP.op, hF]; rfl
   obtain ⟨mr, hr, hr0⟩ := hP.root
   have := (can_quest h.can hne ((h.top ho).trans hr) hk).2
   rw [if_neg (by omega)] at this
   exact this
  ·rw [List.concat_eq_append] at hF
   have ho : x.op = opOf F0 (some q) ++ [p] := by rw [hP.op, hF, opOf_snoc]
   obtain ⟨mq, mp, g1, g2, g3, g4, g0, g5, _⟩ := hP.fr (q, p) (by rw [hF]; simp)
   have := (can_quest h.can hne ((h.top ho).trans g2) hk).2
   rw [if_neg (by omega)] at this
   exact this
 obtain ⟨o1, o2⟩ := h.push hk hP.srt
 have ho' : (takeW x m).op = opOf F (some i) := by rw [o1, hP.op, opOf_some]
 have hlf : lastForced (takeW x m).w = false := by rw [h.lf', ask_esc hk]; rfl
 by_cases hid : m.id = id
 ·have hcst := cst_new (J := J) h.hm hid hq.2 (askKind hk)
  have hcall : CallAt a id W ((cst J id W i).2 ++ [[i]]) (cst J id W i).2.length i (takeW (wk0 (innA a id)) (turned m)) := by
   refine ⟨[i], by simp, rfl, ?_⟩
   have := (Leg.nil (innA a id)).snoc (can_first m (by rw [has_inn a h.id1 h.id2 hid]; exact h.has) hk hq.2)
   rw [show insideW W [i] = [] ++ [turned m] by simp [insideW, h.hm]]
   exact this
  rw [Goal, hcst]
  refine ⟨?_, .inr ⟨F, some i, ho', o2, hP.root, fun f hf => (hP.fr f hf).mono (fun n k hn => get_snoc hn) (fun k y hc => hc.snoc _), ?_⟩⟩
  ·intro c hc
   rcases List.mem_append.1 hc with hc | hc
   ·exact hA c hc
   ·simp at hc; subst hc
    obtain ⟨c, h1, _, h3⟩ := hcall
    simp at h1
    subst h1
    exact ⟨by simp, _, h3⟩
  ·intro q hq'
   cases hq'
   refine ⟨m, h.hm, hq.1, hq.2, fun _ => ⟨_, _, h.ofl' _, hcall, ?_⟩⟩
   rw [hlf]
   have hk' : askB (turned m) = true := hk
   unfold takeW
   rw [if_pos hk']
   exact ⟨rfl, rfl, rfl⟩
 ·have hcst := cst_skip (J := J) h.hm (.inl hid)
  rw [Goal, hcst]
  refine ⟨hA, .inr ⟨F, some i, ho', o2, hP.root, fun f hf => (hP.fr f hf).mono (fun n k hn => get_snoc hn) (fun k y hc => hc), ?_⟩⟩
  intro q hq'
  cases hq'
  exact ⟨m, h.hm, hq.1, hq.2, fun h' => absurd h' hid⟩
theorem step_par (h : Stp a id W J x i m) {F : List (Nat × Nat)} {q : Nat} (hP : PI a id W x (cst J id W i).1 (cst J id W i).2 F (some q)) (hA : AllLeg a id W (cst J id W i).2) (hne : x.w ≠ []) (hk : askB m = true) : Goal a id W J x i m := by
 have ho : x.op = opOf F none ++ [q] := by rw [hP.op, opOf_some]
 obtain ⟨mq, g1, g2, g3, g4⟩ := hP.top q rfl
 obtain ⟨hlf, hm⟩ := can_quest h.can hne ((h.top ho).trans g1) hk
 rw [if_pos ⟨g2, g3⟩] at hm
 obtain ⟨o1, o2⟩ := h.push hk hP.srt
 have ho' : (takeW x m).op = opOf (F ++ [(q, i)]) none := by rw [o1, hP.op, opOf_snoc]
 by_cases hid : m.id = id
 ·obtain ⟨k, y, e1, e2, e3⟩ := g4 (hm.1 ▸ hid)
  rw [hlf] at e3
  have hcst := cst_else (J := J) h.hm hid (by intro h'; omega) (by intro h'; omega) (h.ja hk hm.2 ho) e1
  obtain ⟨l1, l2, l3⟩ := e2.lf
  have hcan := can_ask e3 l1 l3 (by rw [l2, has_inn a h.id1 h.id2 hid]; exact h.has) hk hm.2 g3
  have hcall := e2.take h.hm hcan
  rw [Goal, hcst]
  refine ⟨hA.set hcall, .inr ⟨F ++ [(q, i)], none, ho', o2, hP.root, ?_, fun q h' => by cases h'⟩⟩
  intro f hf
  rcases List.mem_append.1 hf with hf | hf
  ·have hne : q ≠ f.1 := by
    have hs := hP.srt
    rw [ho, List.pairwise_append] at hs
    have := hs.2.2 f.1 (mem_opOf hf) q (by simp)
    omega
   exact (hP.fr f hf).mono (fun n k hn => get_snoc hn) (fun k' y' hc => e2.other hc hne _)
  ·simp at hf; subst hf
   refine ⟨mq, m, g1, h.hm, hm.1, g2, g3, hm.2, fun _ => ⟨k, _, get_snoc e1, h.ofl' _, hcall, ?_⟩⟩
   obtain ⟨p1, p2, p3⟩ := e3
   have hk' : askB (turned m) = true := hk
   unfold takeW
   rw [if_pos hk']
   exact ⟨y.w.length, by simp [p1], by simp only; exact get_snoc p2, by simp, p3⟩
 ·have hcst := cst_skip (J := J) h.hm (.inl hid)
  rw [Goal, hcst]
  refine ⟨hA, .inr ⟨F ++ [(q, i)], none, ho', o2, hP.root, ?_, fun q h' => by cases h'⟩⟩
  intro f hf
  rcases List.mem_append.1 hf with hf | hf
  ·exact (hP.fr f hf).mono (fun n k hn => get_snoc hn) (fun k y hc => hc)
  ·simp at hf; subst hf
   exact ⟨mq, m, g1, h.hm, hm.1, g2, g3, hm.2, fun h' => absurd (hm.1.trans h') hid⟩
theorem step_told (h : Stp a id W J x i m) {F : List (Nat × Nat)} (hP : PI a id W x (cst J id W i).1 (cst J id W i).2 F none) (hA : AllLeg a id W (cst J id W i).2) (hne : x.w ≠ []) (hk : askB m = false) : Goal a id W J x i m := by
 rcases List.eq_nil_or_concat F with hF | ⟨F0, ⟨q, p⟩, hF⟩
 ·have ho : x.op = [] ++ [0] := by rw [hP.op, hF]; rfl
  obtain ⟨mr, hr, hr0⟩ := hP.root
  have ha := (can_tell h.can hne ((h.top ho).trans hr) hk).1
  simp only [ansB, decide_eq_true_eq] at ha
  have hid : m.id ≠ id := by have := h.id1; omega
  rw [Goal, cst_skip (J := J) h.hm (.inl hid)]
  exact ⟨hA, .inl (h.pop hk hP.srt ho).1⟩
 ·rw [List.concat_eq_append] at hF
  have ho : x.op = opOf F0 (some q) ++ [p] := by rw [hP.op, hF, opOf_snoc]
  obtain ⟨mq, mp, g1, g2, g3, g4, hqa, g5, g6⟩ := hP.fr (q, p) (by rw [hF]; simp)
  have ha := (can_tell h.can hne ((h.top ho).trans g2) hk).1
  have ha' := ha
  simp only [ansB, decide_eq_true_eq] at ha'
  obtain ⟨o1, o2⟩ := h.pop hk hP.srt ho
  have hlf : lastForced (takeW x m).w = escB m := by rw [h.lf']; simp; intro _; omega
  have hF0 : ∀ f ∈ F0, f ∈ F := fun f hf => by rw [hF]; simp [hf]
  by_cases hid : m.id = id
  ·obtain ⟨k, y, e1, e2, e3, e4⟩ := g6 (by omega)
   have hcst := cst_else (J := J) h.hm hid (by intro h'; omega) (by intro h'; omega) (h.jt hk ho) e2
   obtain ⟨l1, l2, l3⟩ := e3.lf
   have hcan := can_param e4 l1 l3 (by rw [l2]; exact inn_jumps a h.id1 h.id2 hid (by omega) h.has) (by rw [l2, has_inn a h.id1 h.id2 hid]; exact h.has) ha g5
   have hcall := e3.take h.hm hcan
   rw [Goal, hcst]
   refine ⟨hA.set hcall, .inr ⟨F0, some q, o1, o2, hP.root, ?_, ?_⟩⟩
   ·intro f hf
    have hne : q ≠ f.1 := by
     have hs := o2
     rw [o1, opOf_some, List.pairwise_append] at hs
     have := hs.2.2 f.1 (mem_opOf hf) q (by simp)
     omega
    exact (hP.fr f (hF0 f hf)).mono (fun n k hn => get_snoc hn) (fun k' y' hc => e3.other hc hne _)
   ·intro q' h'
    cases h'
    refine ⟨mq, g1, g4, hqa, fun _ => ⟨k, _, get_snoc e1, hcall, ?_⟩⟩
    obtain ⟨j, p1, p2, p3, p4⟩ := e4
    have hk' : askB (turned m) = false := hk
    rw [hlf]
    unfold takeW
    rw [hk']
    simp only [Bool.false_eq_true, if_false]
    refine ⟨by simp [p1], get_snoc p2, ?_⟩
    have hma : 0 < m.arg := by omega
    show (y.lost || (escB m && decide (0 < m.arg) && decide ((0 : Int) = 0) && !lastForced y.w)) = escB m
    rw [p4, l1]
    simp [hma]
  ·have hcst := cst_skip (J := J) h.hm (.inl hid)
   rw [Goal, hcst]
   refine ⟨hA, .inr ⟨F0, some q, o1, o2, hP.root, fun f hf => (hP.fr f (hF0 f hf)).mono (fun n k hn => get_snoc hn) (fun k y hc => hc), ?_⟩⟩
   intro q' h'
   cases h'
   exact ⟨mq, g1, g4, hqa, fun h' => absurd (by omega) hid⟩
theorem step_ans (h : Stp a id W J x i m) {F : List (Nat × Nat)} {q : Nat} (hP : PI a id W x (cst J id W i).1 (cst J id W i).2 F (some q)) (hA : AllLeg a id W (cst J id W i).2) (hne : x.w ≠ []) (hk : askB m = false) : Goal a id W J x i m := by
 have ho : x.op = opOf F none ++ [q] := by rw [hP.op, opOf_some]
 obtain ⟨mq, g1, g2, g3, g4⟩ := hP.top q rfl
 obtain ⟨ha, hl⟩ := can_tell h.can hne ((h.top ho).trans g1) hk
 have ha' := ha
 simp only [ansB, decide_eq_true_eq] at ha'
 obtain ⟨o1, o2⟩ := h.pop hk hP.srt ho
 by_cases hs : m.id ≠ id ∨ (m.id = id /\ m.arg = 0 /\ escB m = true /\ forcedAt W i = false)
 ·rw [Goal, cst_skip (J := J) h.hm hs]
  exact ⟨hA, .inr ⟨F, none, o1, o2, hP.root, fun f hf => (hP.fr f hf).mono (fun n k hn => get_snoc hn) (fun k y hc => hc), fun q h' => by cases h'⟩⟩
 ·have hid : m.id = id := Classical.byContradiction fun h' => hs (.inl h')
  have hfree : ¬ (m.arg = 0 /\ escB m = true /\ forcedAt W i = false) := fun h' => hs (.inr ⟨hid, h'⟩)
  obtain ⟨k, y, e1, e2, e3⟩ := g4 (by omega)
  have hcst := cst_else (J := J) h.hm hid (by intro h'; omega) hfree (h.jt hk ho) e1
  obtain ⟨l1, l2, l3⟩ := e2.lf
  have hcan := can_root e3 l1 l3 (by rw [l2, has_inn a h.id1 h.id2 hid]; exact h.has) ha (by
   rw [h.lf]
   constructor
   ·intro hf; exact hl (by rw [h.lf, hf]; simp)
   ·intro he
    cases hf : forcedAt W i
    ·exact absurd ⟨by omega, he, hf⟩ hfree
    ·rfl)
  have hcall := e2.take h.hm hcan
  rw [Goal, hcst]
  refine ⟨hA.set hcall, .inr ⟨F, none, o1, o2, hP.root, ?_, fun q h' => by cases h'⟩⟩
  intro f hf
  have hne : q ≠ f.1 := by
   have hs := hP.srt
   rw [ho, List.pairwise_append] at hs
   have := hs.2.2 f.1 (mem_opOf hf) q (by simp)
   omega
  exact (hP.fr f hf).mono (fun n k hn => get_snoc hn) (fun k' y' hc => e2.other hc hne _)
end
set_option maxRecDepth 10000
set_option linter.unusedSimpArgs false
theorem js_run : ∀ (v : List Mv) (x : Wk), x.js <+: (runW x v).1.js
 | [], x => List.prefix_refl _
 | m :: r, x => by
  rw [runW]
  split
  ·refine List.IsPrefix.trans ?_ (js_run r (takeW x m))
   unfold takeW
   split <;> exact List.prefix_append _ _
  ·exact List.prefix_refl _
theorem prefix_get {α : Type} {l k : List α} (h : l <+: k) {i : Nat} (hi : i < l.length) : k[i]? = l[i]? := by
 obtain ⟨t, rfl⟩ := h
 exact List.getElem?_append_left hi
section
variable {a : Ar} {id : Int} {W : List Mv} {J : List Int}
abbrev Know (a : Ar) (id : Int) (W : List Mv) (J : List Int) (x : Wk) (i : Nat) : Prop :=
 AllLeg a id W (cst J id W i).2 /\ (x.op = [] ∨ ∃ F t, PI a id W x (cst J id W i).1 (cst J id W i).2 F t)
theorem know_step {x : Wk} {i : Nat} {m : Mv} (h : Stp a id W J x i m) (hK : Know a id W J x i) : Know a id W J (takeW x m) (i + 1) := by
 obtain ⟨hA, hK⟩ := hK
 by_cases hw : x.w = []
 ·have hi0 : i = 0 := by rw [<- h.len, hw]; rfl
  subst hi0
  obtain ⟨c1, c2⟩ := canB_first h.can hw
  have hid : m.id ≠ id := by have := h.id1; omega
  rw [Know, cst_skip (J := J) h.hm (.inl hid)]
  have hop : x.op = [] := by
   have := h.ok.opl
   rw [hw] at this
   exact List.eq_nil_of_length_eq_zero (by simpa using this)
  have e : (takeW x m).op = [0] := by
   unfold takeW
   rw [if_pos c2]
   simp [hop, hw]
  exact ⟨hA, .inr ⟨[], none, e, by rw [e]; simp, ⟨m, h.hm, c1⟩, fun f hf => (by cases hf), fun q h' => (by cases h')⟩⟩
 ·rcases hK with hop | ⟨F, t, hP⟩
  ·exact absurd hop (canB_op h.can hw)
  ·cases hk : askB m <;> cases t
   ·exact step_told h hP hA hw hk
   ·exact step_ans h hP hA hw hk
   ·exact step_ask h hP hA hw hk
   ·exact step_par h hP hA hw hk
theorem know_run (id1 : 1 <= id) (id2 : id <= a.ids.length) : ∀ (v : List Mv) (x : Wk), W = x.w ++ v -> WkOk x -> x.a = a -> W.length <= 400 -> (runW x v).2 = v.length -> J = (runW x v).1.js -> Know a id W J x x.w.length -> Know a id W J (runW x v).1 W.length
 | [], x, hW, hx, hxa, hl, hr, hJ, hK => by
  have : W.length = x.w.length := by rw [hW]; simp
  rw [this]
  exact hK
 | m :: r, x, hW, hx, hxa, hl, hr, hJ, hK => by
  rw [runW] at hr hJ ⊢
  by_cases hc : canB x m = true
  ·rw [if_pos hc] at hr hJ ⊢
   have hlen : x.w.length < W.length := by rw [hW]; simp
   have hop : askB m = false -> x.op ≠ [] := fun hq => by
    by_cases hw : x.w = []
    ·have := (canB_first hc hw).2
     rw [hq] at this; cases this
    ·exact canB_op hc hw
   have hx' := hx.take (m := m) (by omega) hop
   have hjl : x.w.length < (takeW x m).js.length := by rw [hx'.jsl, takeW_w]; simp
   have hst : Stp a id W J x x.w.length m := by
    refine ⟨id1, id2, hx, hxa, ?_, ?_, hc, ?_⟩
    ·rw [hW]; simp
    ·rw [hW]; simp
    ·rw [hJ]; exact prefix_get (js_run r (takeW x m)) hjl
   have ih := know_run id1 id2 r (takeW x m) (by rw [takeW_w, hW]; simp) hx' (by rw [takeW_a, hxa]) hl (by simp only [List.length_cons] at hr; omega) hJ
   rw [takeW_w, List.length_append, List.length_singleton] at ih
   exact ih (know_step hst hK)
  ·rw [if_neg hc] at hr
   simp at hr
end
theorem calls_legal {a : Ar} {id : Int} {w : List Mv} (h : callE a id w = 0) : ∀ c ∈ callsOf (runW (wk0 a) w).1.js id w, c ≠ [] /\ ∃ y, Leg (innA a id) (insideW w c) y := by
 obtain ⟨e1, e2, i1, i2⟩ := callE_word h
 have ok := arCheck_ok e1
 have hl := wordE_len e1 e2
 have hr : (runW (wk0 a) w).2 = w.length := by
  have h1 : ¬ (runW (wk0 a) w).2 < w.length := by
   intro hr
   unfold wordE at e2
   simp [e1, hr, show ¬ 400 < w.length by omega] at e2
  have h2 : ∀ (v : List Mv) (x : Wk), (runW x v).2 <= v.length := by
   intro v
   induction v with
   | nil => intro x; simp [runW]
   | cons m r ih =>
    intro x
    rw [runW]
    split
    ·have := ih (takeW x m); simp; omega
    ·simp
  have := h2 w (wk0 a)
  omega
 exact (know_run i1 i2 w (wk0 a) rfl (WkOk.zero ok e1) rfl hl hr rfl ⟨fun c hc => (by cases hc), .inl rfl⟩).1
structure RootAt (y : Wk) : Prop where
 q0 : y.op ≠ [] -> y.op.head? = some 0
 r0 : ∀ m, y.w[0]? = some m -> m.id = 0
 on : ∀ n ∈ y.op.tail, ∀ m, y.w[n]? = some m -> 0 < m.id
 ne : y.w ≠ [] -> (y.op = [] ↔ ∃ m, y.w.getLast? = some m /\ m.id = 0 /\ m.kind = 3)
 bd : ∀ n ∈ y.op, n < y.w.length
theorem RootAt.step {y : Wk} (h : RootAt y) (hx : y.w = [] -> y.op = []) {m : Mv} (hc : canB y m = true) (hh : hasB y.a m = true) : RootAt (takeW y m) := by
 have hat := ask_tell hh
 by_cases hw : y.w = []
 ·have hop := hx hw
  obtain ⟨c1, c2⟩ := canB_first hc hw
  have hk := askKind c2
  unfold takeW
  rw [if_pos c2]
  refine ⟨fun _ => by simp [hop, hw], ?_, ?_, ?_, ?_⟩
  ·intro m' hm'; simp [hw] at hm'; rw [<- hm']; exact c1
  ·intro n hn; simp [hop, hw] at hn
  ·intro _; simp [hop, hw, hk]
  ·intro n hn; simp [hop, hw] at hn; subst hn; simp [hw]
 ·have hop := canB_op hc hw
  obtain ⟨r, n, ho⟩ : ∃ r n, y.op = r ++ [n] := by
   rcases List.eq_nil_or_concat y.op with h0 | ⟨r, n, h0⟩
   ·exact absurd h0 hop
   ·exact ⟨r, n, by rw [h0]; simp⟩
  have hlen : 0 < y.w.length := List.length_pos_iff.2 hw
  have hn : n < y.w.length := h.bd n (by rw [ho]; simp)
  obtain ⟨t, ht⟩ : ∃ t, y.w[n]? = some t := ⟨_, List.getElem?_eq_getElem hn⟩
  have htop : topM y = some t := by unfold topM; rw [ho]; simpa using ht
  have hlast : (y.w ++ [m]).getLast? = some m := by simp
  cases hk : askB m
  ·have hk3 : m.kind = 3 := by rw [hat] at hk; simpa [tellB] using hk
   have ha := (can_tell hc hw htop hk).1
   simp only [ansB, decide_eq_true_eq] at ha
   unfold takeW
   rw [hk]
   simp only [Bool.false_eq_true, if_false]
   refine ⟨?_, ?_, ?_, ?_, ?_⟩
   ·intro hne
    have := h.q0 hop
    rw [ho] at this hne ⊢
    cases r with
    | nil => simp at hne
    | cons b r => rw [List.dropLast_concat]; simpa using this
   ·intro m' hm'
    rw [List.getElem?_append_left hlen] at hm'
    exact h.r0 m' hm'
   ·intro k hk' m' hm'
    have hk2 : k ∈ y.op.tail := by
     rw [ho] at hk' ⊢
     simp only [List.dropLast_concat] at hk'
     rw [List.tail_append_of_ne_nil (by rintro rfl; cases hk')]
     simp [hk']
    have hkb := h.bd k (List.mem_of_mem_tail hk2)
    rw [List.getElem?_append_left hkb] at hm'
    exact h.on k hk2 m' hm'
   ·intro _
    simp only [hlast, Option.some.injEq, exists_eq_left']
    rw [ho]
    simp only [List.dropLast_concat]
    constructor
    ·rintro rfl
     have := h.q0 hop
     rw [ho] at this
     simp at this
     subst this
     have := h.r0 t ht
     exact ⟨by omega, hk3⟩
    ·rintro ⟨h1, _⟩
     cases r with
     | nil => rfl
     | cons b r =>
      have := h.on n (by rw [ho]; simp) t ht
      omega
   ·intro k hk'
    have := h.bd k ((List.dropLast_sublist _).subset hk')
    simp; omega
  ·obtain ⟨_, hq⟩ := can_quest hc hw htop hk
   have hid : 0 < m.id := by
    split at hq <;> omega
   unfold takeW
   rw [if_pos hk]
   refine ⟨?_, ?_, ?_, ?_, ?_⟩
   ·intro _
    have := h.q0 hop
    rw [List.head?_append, this]; rfl
   ·intro m' hm'
    rw [List.getElem?_append_left hlen] at hm'
    exact h.r0 m' hm'
   ·intro k hk' m' hm'
    simp only at hk' hm'
    rw [List.tail_append_of_ne_nil hop] at hk'
    rcases List.mem_append.1 hk' with hk' | hk'
    ·have hkb := h.bd k (List.mem_of_mem_tail hk')
     rw [List.getElem?_append_left hkb] at hm'
     exact h.on k hk' m' hm'
    ·simp at hk'; subst hk'
     simp at hm'
     rw [<- hm']; exact hid
   ·intro _
    simp only [hlast, Option.some.injEq, exists_eq_left']
    constructor
    ·intro h'; simp at h'
    ·rintro ⟨h1, _⟩; omega
   ·intro k hk'
    simp only [List.mem_append, List.mem_singleton] at hk'
    simp only [List.length_append, List.length_singleton]
    rcases hk' with hk' | rfl
    ·have := h.bd k hk'; omega
    ·omega
theorem rootAt_run : ∀ (v : List Mv) (x : Wk), RootAt x -> (x.w = [] -> x.op = []) -> RootAt (runW x v).1
 | [], x, h, _ => h
 | m :: r, x, h, hx => by
  rw [runW]
  split
  ·rename_i hc
   exact rootAt_run r _ (h.step hx hc (canB_has hc)) (fun h' => by rw [takeW_w] at h'; simp at h')
  ·exact h
theorem leg_over {a : Ar} {v : List Mv} {y : Wk} (h : Leg a v y) (hv : v ≠ []) : y.op = [] ↔ ∃ m, v.getLast? = some m /\ m.id = 0 /\ m.kind = 3 := by
 have hr := rootAt_run v (wk0 a) ⟨fun h => absurd rfl h, fun m h => by simp [wk0] at h, fun n hn => by simp [wk0] at hn, fun h => absurd rfl h, fun n hn => by simp [wk0] at hn⟩ (fun _ => rfl)
 rw [h] at hr
 have := hr.ne (by simp only [h.w.1]; exact hv)
 simpa only [h.w.1] using this
set_option maxRecDepth 10000
set_option linter.unusedSimpArgs false
theorem runW_ok : ∀ (v : List Mv) (x : Wk), WkOk x -> x.w.length + v.length <= 400 -> WkOk (runW x v).1
 | [], x, hx, _ => hx
 | m :: r, x, hx, hl => by
  rw [runW]
  simp only [List.length_cons] at hl
  split
  ·rename_i hc
   have hop : askB m = false -> x.op ≠ [] := fun hq => by
    by_cases hw : x.w = []
    ·have := (canB_first hc hw).2
     rw [hq] at this; cases this
    ·exact canB_op hc hw
   exact runW_ok r _ (hx.take (by omega) hop) (by rw [takeW_w]; simp; omega)
  ·exact hx
def turnN (x : Wk) : Int := if x.w = [] then 1 else match topM x with
 | none => 3
 | some t => if 0 < t.id /\ t.arg = 0 then 1 else 2
theorem w64 (x : Wk) (hx : WkOk x) (s : HS) : R (.call 64 [.pptr x.c] s) = .val (.int .u8 (turnN x)) s := by
 refine q64 rfl (by simp) ?_
 have h95 := w95 x hx
 simp only [Wk.c] at h95
 unfold turnN
 cases ht : topM x with
 | none =>
  rw [ht] at h95
  simp only [topR] at h95
  by_cases hw : x.w = []
  ·rw [hw] at h95
   simp only [List.map_nil] at h95
   simp -implicitDefEqProofs [U.b64, h95, hw, dataV_data, s0, obStore_c, storeG_1, obCells_c]
  ·have hwl : ¬ x.w.length = 0 := by simpa using hw
   simp -implicitDefEqProofs [U.b64, h95, hw, hwl, dataV_data, s0, obStore_c, storeG_1, obCells_c]
 | some t =>
  rw [ht] at h95
  obtain ⟨ti, ta, tk, tn⟩ := t
  simp only [topR, Mv.c] at h95
  by_cases hw : x.w = []
  ·rw [hw] at h95
   simp only [List.map_nil] at h95
   simp -implicitDefEqProofs [U.b64, h95, hw, dataV_data, s0, obStore_c, storeG_1, obCells_c]
  ·have hwl : ¬ x.w.length = 0 := by simpa using hw
   by_cases h1 : 0 < ti
   ·by_cases h2 : ta = 0
    ·subst h2
     simp -implicitDefEqProofs [U.b64, h95, hw, hwl, h1, dataV_data, s0, obStore_c, storeG_1, obCells_c]
    ·simp -implicitDefEqProofs [U.b64, h95, hw, hwl, h1, h2, dataV_data, s0, obStore_c, storeG_1, obCells_c]
   ·simp -implicitDefEqProofs [U.b64, h95, hw, hwl, h1, dataV_data, s0, obStore_c, storeG_1, obCells_c]
theorem w25 (a : Ar) (ok : ArOk a) (w : List Mv) (s : HS) : R (.call 25 [.agg a.c, .psl (w.map Mv.c)] s) = .val (.bool (decide (w.length <= 40 /\ (wordE a w).2 = 0))) s := by
 refine q25 rfl (by simp) ?_
 have h1 := w61 a ok w
 simp only [Ar.c, iV] at h1
 by_cases hl : (40 : Int) < w.length
 ·have hl' : ¬ w.length <= 40 := by omega
  simp -implicitDefEqProofs [U.b25, h1, hl, hl', dataV_data]
 ·have hl' : w.length <= 40 := by omega
  by_cases he : (wordE a w).2 = 0
  ·simp -implicitDefEqProofs [U.b25, h1, hl, hl', he, dataV_data]
  ·simp -implicitDefEqProofs [U.b25, h1, hl, hl', he, dataV_data]
theorem VwL.flat {s : HS} {n : Nat} {α : Type} {f g : α -> List HV} : ∀ {l : List α}, (∀ x ∈ l, VwL s n (f x) (g x)) -> VwL s n (flatR (l.map f)) (flatR (l.map g))
 | [], _ => .nil
 | x :: _, h => (h x List.mem_cons_self).append (VwL.flat fun y hy => h y (List.mem_cons_of_mem _ hy))
theorem OwnF.vwR {s : HS} {v : HV} {n sz : Nat} {F : Ky -> Prop} {α : Type} {f g : α -> List HV} {l : List α} (h : OwnF s v sz F (l.map f)) (hg : ∀ x, (g x).length = sz) (hv : ∀ x ∈ l, VwL s n (f x) (g x)) : Vw s (n + 1) v (.psl (l.map g)) := by
 have hc := h
 obtain ⟨hs, _, hv'⟩ := h
 rcases hv' with ⟨rfl, h0⟩ | ⟨o, t, hi, g', rest, rfl, hb, hh, _⟩
 ·have : l = [] := by simpa using h0
  subst this
  exact .nils
 ·have hs' : Sz sz (l.map g) := Sz.map (f := g) (fun x => hg x) l
  refine Vw.sl (l := flatR (l.map f)) (l' := flatR (l.map g)) hc.cells.2 (VwL.flat hv) (fun _ => ?_) (fun h => ?_)
  ·have := chunk_flatR hs'
   simpa using this
  ·simp only [List.length_map] at h
   rw [List.length_eq_zero_iff.1 h]; rfl
noncomputable abbrev S27 : HS := { h := .nd (some (.cells (Lst [.int .u8 0, .nils, .bool false, .bool false]) 0 4 .e)) (.nd (some (.cells (Lst []) 0 0 (.z .e))) .lf .lf) .lf, nx := .o .e, gr := .nd (some [.e]) (.nd (some [.z .e]) .lf .lf) .lf, ty := .lf }
theorem own27 : OwnF S27 (.sl (.z .e) 0 0 1) 1 (fun k => k = .z .e) [] := by
 refine ⟨Sz.nil, fun k hk => by subst hk; decide, .inr ⟨.z .e, Lst [], 0, .z .e, [], rfl, rfl, by simp, fun j hj => by simp at hj, rfl, by simp, by simp, rfl⟩⟩
theorem w27 (a : Ar) (ok : ArOk a) (w : List Mv) (he : (wordE a w).2 = 0) (hc : arCheck a = 0) (s : HS) :
  R (.call 27 [.agg a.c, .psl (w.map Mv.c)] s) = .val (.tup [.agg [.int .u8 (turnN (runW (wk0 a) w).1), .psl ((runW (wk0 a) w).1.op.map nC), .bool (lastForced (runW (wk0 a) w).1.w), .bool (runW (wk0 a) w).1.lost], iV 0]) s := by
 refine q27 rfl (by simp) ?_
 have hl := wordE_len hc he
 have h1 := w63 a ok w
 have hx := runW_ok w (wk0 a) (WkOk.zero ok hc) (by simp [wk0]; omega)
 unfold beginV at h1
 rw [he, if_pos rfl] at h1
 generalize (runW (wk0 a) w).1 = x at *
 have h64 := w64 x hx
 have h65 := w65 x hx
 simp only [Ar.c, Wk.c, iV] at h1 h64 h65
 have hol := hx.opl
 have hxl := hx.len
 obtain ⟨v', s', F', ha, how, hfr, hcv, hF⟩ := own27.copy (els := x.op.map nC) (Sz.map (f := nC) (fun x => rfl) _) (mxl := 17592186044416) (by simp; omega)
 have hcel : Cel S27 .e [.int .u8 0, .nils, .bool false, .bool false] := ⟨rfl, rfl, by decide⟩
 obtain ⟨s2, st, hcel2, hfr2, _⟩ := (hcel.frame hfr (fun e => by cases e)).put (v := .agg [.int .u8 (turnN x), v', .bool (lastForced x.w), .bool x.lost]) rfl rfl
 have hld := hcel2.load
 have how2 := how.frame hfr2 (fun k hk e => by subst e; rcases hF _ hk with hk | hk <;> cases hk)
 have st : stV 4 (some (.ptr .e 0)) (some (.agg [.int .u8 (turnN x), v', .bool (lastForced x.w), .bool x.lost])) s' = .v .undef s2 := st
 simp only [List.length_cons, List.length_nil] at hld
 simp -implicitDefEqProofs [U.b27, s0, obStore_c, storeG_1, obCells_c, h1, h64, h65, ha, hcv, -stV_ptr, st, hld]
 exact dataV_of (.tup (.cons (.agg (.cons (.data (by simp)) (.cons (how2.vw (by simp)) (.data (by simp))))) (.data (by simp))))
set_option maxRecDepth 10000
set_option linter.unusedSimpArgs false
theorem g26 {a : Ar} {t : Ty} {e : En} {s : HS} (h2 : look e 2 = some (.pptr a.c)) (h7 : look e 7 = some (.ptr (.z .e) 0)) (hm : tget s.h (.z .e) = some (.cells (Lst t.c) 0 3 (.z .e))) :
  evP R U.r26_0 e s = .code .normal (e.upd 8 (.ptr s.nx 0)) (HS.mk (tset (some (.cells (Lst [.nils, .bool t.res.cell, .int .i64 t.res.n, .bool (a.jumps || !t.ps.isEmpty)]) 0 4 s.nx)) s.nx s.h) s.nx.succ (tset (some [s.nx]) s.nx s.gr) s.ty) := by
 cases hj : a.jumps
 ·cases hp : t.ps with
  | nil =>
   rw [Ty.c, hp] at hm
   simp -implicitDefEqProofs [h2, h7, hm, hj, obStore_c, storeG_1, obCells_c]
  | cons b l =>
   rw [Ty.c, hp] at hm
   have hl : (0 : Int) < (l.length : Int) + 1 := by omega
   simp -implicitDefEqProofs [h2, h7, hm, hj, hl, obStore_c, storeG_1, obCells_c]
 ·simp -implicitDefEqProofs [h2, h7, hm, hj, obStore_c, storeG_1, obCells_c]
def tyN (b : Bs) : List HV := [.nils, .bool b.cell, .int .i64 b.n]
theorem w26 (a : Ar) (ok : ArOk a) (hc : arCheck a = 0) {id : Int} (h1 : 1 <= id) (h2 : id <= a.ids.length) (s : HS) : R (.call 26 [.agg a.c, iV id] s) = .val (.tup [.agg (innA a id).c, iV 0]) s := by
 refine q26 rfl (by simp) ?_
 obtain ⟨n, rfl⟩ : ∃ n : Nat, id = (n : Int) + 1 := ⟨(id - 1).toNat, by omega⟩
 have hn : n < a.ids.length := by omega
 have ht := List.getElem?_eq_getElem hn
 have hlen := ok.1
 have hps : a.ids[n].ps.length <= 5 := by
  have : ¬ (a.ids.any longB = true) := fun hb => by unfold arCheck at hc; rw [if_pos (.inr hb)] at hc; cases hc
  simp only [List.any_eq_true, not_exists, not_and] at this
  have := this _ (List.getElem_mem hn)
  simp only [longB, decide_eq_true_eq] at this
  omega
 have hinn : innA a ((n : Int) + 1) = ⟨a.ids[n].ps.map (fun b => ⟨[], b⟩), a.ids[n].res, a.jumps || !a.ids[n].ps.isEmpty⟩ := by
  unfold innA
  rw [show ((n : Int) + 1 - 1).toNat = n by omega, ht]
 rw [hinn]
 have h24 := w24 a ok
 rw [hc] at h24
 have h62 := w62 ((n : Int) + 1) 1 a.ids.length
 rw [decide_eq_true ⟨h1, h2⟩] at h62
 have hw : wrapF .i64 (n : Int) = n := wrapF_id (by omega) (by omega)
 simp only [Ar.c, iV] at h24 h62
 generalize htt : a.ids[n] = t at *
 have hg := fun (e : En) (s : HS) => @g26 a t e s
 simp only [Ar.c, Ty.c] at hg
 simp -implicitDefEqProofs [-U.r26_0, U.b26, s0, obStore_c, storeG_1, obCells_c, h24, h62, hw, ht, hn, htt, hg]
 generalize ho : evP R (.loop U.c26_0) _ _ = o
 have hq := loop_use ho t.ps.length
  (fun i e s => ∃ v F, look e 4 = some (.ptr .e 0) /\ look e 7 = some (.ptr (.z .e) 0) /\ look e 8 = some (.ptr (.o .e) 0) /\ look e 9 = some (iV i) /\ Cel s .e [.nils, .bool false, .int .i64 0, .bool false] /\ Cel s (.z .e) [.psl (t.ps.map Bs.c), .bool t.res.cell, .int .i64 t.res.n] /\ Cel s (.o .e) [v, .bool t.res.cell, .int .i64 t.res.n, .bool (a.jumps || !t.ps.isEmpty)] /\ OwnF s v 3 F ((t.ps.take i).map tyN) /\ ∀ k, F k -> 3 <= k.toNat)
  (fun o => ∃ e s v F, o = .code (.exit 0) e s /\ look e 4 = some (.ptr .e 0) /\ look e 8 = some (.ptr (.o .e) 0) /\ Cel s .e [.nils, .bool false, .int .i64 0, .bool false] /\ Cel s (.o .e) [v, .bool t.res.cell, .int .i64 t.res.n, .bool (a.jumps || !t.ps.isEmpty)] /\ OwnF s v 3 F (t.ps.map tyN) /\ ∀ k, F k -> 3 <= k.toNat)
  0 (by omega) ⟨.nils, _, by simp, by simp, by simp, by simp, ⟨by simp, by simp, by simp [Ky.toNat]⟩, ⟨by simp, by simp, by simp [Ky.toNat]⟩, ⟨by simp, by simp, by simp [Ky.toNat]⟩, OwnF.nils, fun k hk => hk.elim⟩
  (fun i e s r hi ⟨v, F, h4, h7, h8, h9, hc1, hc2, hc3, hO, hF⟩ hr => by
   have hi' : (i : Int) < t.ps.length := by omega
   have g0 := hc2.get 0 (by simp)
   have g1 := hc3.get 0 (by simp)
   have hpg := List.getElem?_eq_getElem hi
   obtain ⟨v', s1, ha, how, hfr, hnx⟩ := hO.append (mxl := 3518437208883) (new := [tyN t.ps[i]]) (Sz.cons rfl Sz.nil) (by simp) (by simp; omega)
   have hb : ∀ (k : Ky), k.toNat <= 2 -> ¬ F k := fun k hk h => by have := hF _ h; omega
   have hc1' := hc1.frame hfr (hb _ (by simp [Ky.toNat]))
   have hc2' := hc2.frame hfr (hb _ (by simp [Ky.toNat]))
   have hc3' := hc3.frame hfr (hb _ (by simp [Ky.toNat]))
   obtain ⟨s2, b2, hc4, hfr2, hn2⟩ := hc3'.set 0 (by simp) v' how.one
   have hlt := hc3.2.2
   have hF' : ∀ k, (F k ∨ k = s.nx) -> 3 <= k.toNat := by
    rintro k (hk | rfl)
    ·exact hF k hk
    ·have : (Ky.o Ky.e).toNat < s.nx.toNat := hlt
     simp [Ky.toNat] at this
     omega
   have how2 := how.frame hfr2 (fun k hk e => by subst e; have := hF' _ hk; simp [Ky.toNat] at this)
   have hc1'' := hc1'.frame hfr2 (fun e => by cases e)
   have hc2'' := hc2'.frame hfr2 (fun e => by cases e)
   simp only [tyN] at ha
   simp at g0 g1
   simp -implicitDefEqProofs [U.c26_0, h4, h7, h8, h9, hi, hi', hpg, g0, g1, ha, b2, wrap1 (n := 5) (show i < 5 by omega) (by omega)] at hr
   subst hr
   refine .inl ⟨_, _, rfl, v', fun k => F k ∨ k = s.nx, by simp [h4], by simp [h7], by simp [h8], by simp, hc1'', hc2'', by simpa using hc4, ?_, hF'⟩
   rw [List.take_succ_eq_append_getElem hi, List.map_append]
   exact how2)
  (fun e s r ⟨v, F, h4, h7, h8, h9, hc1, hc2, hc3, hO, hF⟩ hr => by
   have g0 := hc2.get 0 (by simp)
   simp at g0
   simp -implicitDefEqProofs [U.c26_0, h7, h9, g0] at hr
   subst hr
   rw [List.take_length] at hO
   exact ⟨by simp, _, _, v, F, rfl, by simp [h4], by simp [h8], hc1, hc3, hO, hF⟩)
 clear ho
 obtain ⟨e, s, v, F, rfl, h4, h8, hc1, hc3, hO, hF⟩ := hq
 have hld := hc3.load
 obtain ⟨s2, st, hc4, hfr2, _⟩ := hc1.put (v := .agg [v, .bool t.res.cell, .int .i64 t.res.n, .bool (a.jumps || !t.ps.isEmpty)]) rfl rfl
 have hld2 := hc4.load
 have hO2 := hO.frame hfr2 (fun k hk e => by subst e; have := hF _ hk; simp [Ky.toNat] at this)
 have st : stV 4 (some (.ptr .e 0)) (some (.agg [v, .bool t.res.cell, .int .i64 t.res.n, .bool (a.jumps || !t.ps.isEmpty)])) s = .v .undef s2 := st
 simp only [List.length_cons, List.length_nil] at hld hld2
 simp -implicitDefEqProofs [h4, h8, hld, -stV_ptr, st, hld2]
 have hv := hO2.vwR (n := 13) (g := fun b => Ty.c ⟨[], b⟩) (fun x => rfl) (fun x _ => .cons .nils (.data (by simp)))
 exact dataV_of (.tup (.cons (.agg (.cons (by simpa [Function.comp_def] using hv) (.data (by simp)))) (.data (by simp))))
set_option maxRecDepth 10000
set_option linter.unusedSimpArgs false
def oneB (w : List Mv) (id : Int) (j : Nat) : Bool := match w[j]? with
 | none => false
 | some m => decide (m.id = id) && !(decide (m.arg = 0) && escB m && !forcedAt w j)
theorem count_set : ∀ (cs : List (List Nat)) (k i j : Nat), k < cs.length -> ((cs.set k (cs.getD k [] ++ [i])).flatten).count j = cs.flatten.count j + [i].count j
 | [], k, i, j, h => by simp at h
 | c :: r, 0, i, j, h => by simp only [List.set_cons_zero, List.getD_cons_zero, List.flatten_cons, List.count_append]; omega
 | c :: r, k + 1, i, j, h => by
  have := count_set r k i j (by simpa using h)
  simp only [List.set_cons_succ, List.getD_cons_succ, List.flatten_cons, List.count_append, this]
  omega
theorem cst_count {J : List Int} {id : Int} {w : List Mv} (hc : CallsOk J id w) : ∀ i, i <= w.length -> ∀ j, ((cst J id w i).2.flatten).count j = if j < i /\ oneB w id j = true then 1 else 0
 | 0, _, j => by simp [cst]
 | i + 1, hi, j => by
  have ih := cst_count hc i (by omega) j
  have hm := List.getElem?_eq_getElem (show i < w.length by omega)
  generalize w[i] = m at hm
  have hone : oneB w id i = (decide (m.id = id) && !(decide (m.arg = 0) && escB m && !forcedAt w i)) := by unfold oneB; rw [hm]
  have key : ∀ b : Bool, oneB w id i = b -> ((if j < i /\ oneB w id j = true then 1 else 0) + (if b = true then [i].count j else 0) : Nat) = if j < i + 1 /\ oneB w id j = true then 1 else 0 := by
   intro b hb
   by_cases hji : j = i
   ·subst hji
    cases b <;> simp [hb]
   ·have h1 : [i].count j = 0 := by simp [List.count_cons, Ne.symm hji]
    have h2 : j < i + 1 ↔ j < i := by omega
    rw [h1, ite_self, Nat.add_zero]
    simp only [h2]
  by_cases hid : m.id = id
  case neg =>
   rw [cst_skip hm (.inl hid), ih]
   have := key false (by rw [hone]; simp [hid])
   simpa using this
  by_cases hq : m.arg = 0 /\ m.kind ≠ 3
  ·rw [cst_new hm hid hq.1 hq.2]
   have he : escB m = false := by simp [escB, hq.2]
   have := key true (by rw [hone]; simp [hid, he])
   simp only [List.flatten_append, List.count_append, ih, List.flatten_singleton]
   simpa using this
  by_cases hf : m.arg = 0 /\ escB m = true /\ forcedAt w i = false
  ·rw [cst_skip hm (.inr ⟨hid, hf⟩), ih]
   have := key false (by rw [hone]; simp [hid, hf.1, hf.2.1, hf.2.2])
   simpa using this
  obtain ⟨j', k, h1, h2, h3⟩ := hc i m hm hid hq hf
  rw [cst_else hm hid hq hf h1 h2]
  simp only [count_set _ _ _ _ h3, ih]
  have := key true (by
   rw [hone]
   by_cases ha : m.arg = 0
   ·cases he : escB m
    ·simp [hid]
    ·cases hfo : forcedAt w i
     ·exact absurd ⟨ha, he, hfo⟩ hf
     ·simp [hid]
   ·simp [hid, ha])
  simpa using this
theorem cst_sorted (J : List Int) (id : Int) (w : List Mv) : ∀ i, i <= w.length -> ∀ c ∈ (cst J id w i).2, c.Pairwise (· < ·)
 | 0, _ => fun c hc => by cases hc
 | i + 1, hi => by
  have h3 := cst_sorted J id w i (by omega)
  have hb := cst_bound J id w i (by omega)
  have hm := List.getElem?_eq_getElem (show i < w.length by omega)
  rw [cst]
  unfold cstep
  rw [hm]
  simp only
  split
  ·exact h3
  ·split
   ·intro c hc
    rcases List.mem_append.1 hc with hc | hc
    ·exact h3 c hc
    ·simp at hc; subst hc; simp
   ·split
    ·exact h3
    ·intro c hc
     rcases List.mem_or_eq_of_mem_set hc with hc | rfl
     ·exact h3 c hc
     ·rw [List.getD_eq_getElem?_getD]
      cases hx : (cst J id w i).2[((cst J id w i).1.getD (J.getD i 0).toNat 0).toNat]? with
      | none => simp
      | some c =>
       have hmem := List.mem_of_getElem? hx
       simp only [Option.getD_some]
       rw [List.pairwise_append]
       exact ⟨h3 c hmem, by simp, fun n hn k hk => by simp at hk; subst hk; exact hb c hmem n hn⟩
def cntL (n : Nat) (f : List Nat) : List Int := (List.range n).map fun j => (f.count j : Int)
theorem cntL_len (n : Nat) (f : List Nat) : (cntL n f).length = n := by simp [cntL]
theorem cntL_get {n : Nat} (f : List Nat) {j : Nat} (hj : j < n) : (cntL n f)[j]? = some (f.count j : Int) := by simp [cntL, hj]
theorem cntL_snoc {n : Nat} (f : List Nat) {x : Nat} (hx : x < n) : cntL n (f ++ [x]) = (cntL n f).set x ((f.count x : Int) + 1) := by
 apply List.ext_getElem?
 intro j
 rw [List.getElem?_set]
 by_cases hj : j < n
 ·rw [cntL_get _ hj, cntL_get _ hj, cntL_len]
  by_cases hxj : x = j
  ·subst hxj
   simp [hx, List.count_append]
  ·simp [hxj, List.count_append, List.count_cons]
 ·have h1 : ∀ f, (cntL n f)[j]? = none := fun f => List.getElem?_eq_none (by rw [cntL_len]; omega)
  rw [h1, h1]
  split
  ·rename_i h; omega
  ·rfl
theorem cntL_nil (n : Nat) : cntL n [] = List.replicate n 0 := by
 apply List.ext_getElem?
 intro j
 by_cases hj : j < n
 ·rw [cntL_get _ hj]; simp [hj]
 ·rw [List.getElem?_eq_none (by rw [cntL_len]; omega), List.getElem?_eq_none (by simp; omega)]
structure InsOk (inn : Ar) (id : Int) (w : List Mv) (l : List (List Nat)) : Prop where
 ne : ∀ c ∈ l, c ≠ []
 bd : ∀ c ∈ l, ∀ n ∈ c, n < w.length
 srt : ∀ c ∈ l, c.Pairwise (· < ·)
 len : l.length <= 400
 cl : ∀ c ∈ l, c.length <= 40
 leg : ∀ c ∈ l, (wordE inn (insideW w c)).2 = 0
 over : ∀ c ∈ l, ∀ m, (c.getLast?.bind fun n => w[n]?) = some m -> (turnN (runW (wk0 inn) (insideW w c)).1 = 3 ↔ m.arg = 0 /\ m.kind = 3)
 cnt : ∀ j, j < w.length -> l.flatten.count j = if oneB w id j = true then 1 else 0
theorem inn_check {a : Ar} (hc : arCheck a = 0) {id : Int} (h1 : 1 <= id) (h2 : id <= a.ids.length) : arCheck (innA a id) = 0 := by
 have hi : (id - 1).toNat < a.ids.length := by omega
 have ht := List.getElem?_eq_getElem hi
 have hmem := List.getElem_mem hi
 unfold innA
 rw [ht]
 generalize a.ids[(id - 1).toNat] = t at hmem
 unfold arCheck at hc ⊢
 split at hc
 ·cases hc
 ·rename_i hg
  split at hc
  ·cases hc
  ·rename_i hb
   have g1 : ¬ t.ps.length > 5 := by
    intro h
    exact hg (.inr (List.any_eq_true.2 ⟨t, hmem, by simp [longB]; omega⟩))
   have g2 : isTyB t = true := by
    cases h : isTyB t
    ·exfalso
     apply hb
     simp only [Bool.or_eq_true]
     exact .inr (List.any_eq_true.2 ⟨t, hmem, by simp [h]⟩)
    ·rfl
   simp only [isTyB, Bool.and_eq_true] at g2
   obtain ⟨⟨g2, g3⟩, _⟩ := g2
   rw [if_neg, if_neg]
   ·simp only [Bool.or_eq_true, not_or]
    refine ⟨by simp [g2], ?_⟩
    rw [List.any_map, List.any_eq_true]
    rintro ⟨b, hb', h⟩
    have := List.all_eq_true.1 g3 b hb'
    simp [isTyB, this] at h
   ·rintro (h | h)
    ·simp at h; omega
    ·rw [List.any_map, List.any_eq_true] at h
     obtain ⟨b, hb', h⟩ := h
     simp [longB] at h
theorem insOk {a : Ar} {id : Int} {w : List Mv} (h : callE a id w = 0) (h40 : w.length <= 40) : InsOk (innA a id) id w (callsOf (runW (wk0 a) w).1.js id w) := by
 obtain ⟨e1, e2, i1, i2⟩ := callE_word h
 have hcheck := inn_check e1 i1 i2
 have hl := calls_legal h
 have hall := allOk a id w h
 generalize (runW (wk0 a) w).1.js = J at *
 obtain ⟨b1, b2, b3⟩ := callsOf_bound J id w (by omega)
 obtain ⟨_, c2, c3⟩ := cst_len J id w w.length (Nat.le_refl _)
 have hcl : ∀ c ∈ callsOf J id w, c.length <= 40 := fun c hc => Nat.le_trans (c3 c hc) h40
 have hw0 : ∀ c ∈ callsOf J id w, (wordE (innA a id) (insideW w c)).2 = 0 := by
  intro c hc
  obtain ⟨_, y, hy⟩ := hl c hc
  have := hcl c hc
  unfold wordE
  rw [if_neg (by simp [hcheck]), if_neg (by simp [insideW]; omega)]
  rw [hy]
  simp
 refine ⟨fun c hc => (hl c hc).1, b3, cst_sorted J id w _ (Nat.le_refl _), b1, hcl, hw0, ?_, ?_⟩
 ·intro c hc m hm
  obtain ⟨hne, y, hy⟩ := hl c hc
  have hv : insideW w c ≠ [] := by simpa [insideW] using hne
  have ho := leg_over hy hv
  have hyw := hy.w
  rw [hy]
  have hlast : (insideW w c).getLast? = some (turned m) := by
   obtain ⟨n, hn1, hn2⟩ := Option.bind_eq_some_iff.1 hm
   unfold insideW
   rw [List.getLast?_map, hn1]
   simp [List.getD_eq_getElem?_getD, hn2]
  rw [hlast] at ho
  have hop : turnN y = 3 ↔ y.op = [] := by
   unfold turnN
   rw [if_neg (by rw [hyw.1]; exact hv)]
   constructor
   ·intro h3
    cases hop : y.op with
    | nil => rfl
    | cons n r =>
     exfalso
     have hx := runW_ok (insideW w c) (wk0 (innA a id)) (WkOk.zero (arCheck_ok hcheck) hcheck) (by have := hcl c hc; simp [wk0, insideW]; omega)
     rw [hy] at hx
     have hgl : ∃ k, y.op.getLast? = some k := by rw [hop]; exact ⟨_, List.getLast?_eq_some_getLast (by simp)⟩
     obtain ⟨k, hk⟩ := hgl
     have hkl := hx.op k (List.mem_of_getLast? hk)
     have : topM y = some y.w[k] := by unfold topM; rw [hk]; exact List.getElem?_eq_getElem hkl
     rw [this] at h3
     simp only at h3
     split at h3 <;> omega
   ·intro hop
    have : topM y = none := by unfold topM; rw [hop]; rfl
    rw [this]
  rw [hop, ho]
  constructor
  ·rintro ⟨m', h1, h2, h3⟩
   cases h1
   exact ⟨h2, h3⟩
  ·rintro ⟨h1, h2⟩
   exact ⟨_, rfl, h1, h2⟩
 ·intro j hj
  have := cst_count hall w.length (Nat.le_refl _) j
  simpa [callsOf, hj] using this
set_option maxRecDepth 10000
set_option linter.unusedSimpArgs false
section
variable {s : HS} {e : En}
noncomputable def mksR (sz mxl : Nat) (z : List HV) (l c : Option HV) (s : HS) : Res := match l, c with
 | some (.int _ (.ofNat n)), some (.int _ (.ofNat m)) => bif Nat.ble n m && Nat.ble m mxl then s.new (repl z n) (fun o => .sl o 0 n sz) else .bad
 | _, _ => .bad
@[simp] theorem hop_mks {sz mxl : Nat} {z : List HV} {l c : X} : hop (.mks sz mxl z l c) e s = mksR sz mxl z (opd l e) (opd c e) s := rfl
theorem repl_one (z : HV) (n : Nat) : repl [z] n = List.replicate n z := by
 induction n with
 | zero => rfl
 | succ n ih => rw [repl, ih, List.replicate_succ]; rfl
theorem mks_own {n mxl : Nat} (hn : n <= mxl) (z : HV) : ∃ s', mksR 1 mxl [z] (some (.int .i64 (n : Int))) (some (.int .i64 (n : Int))) s = .v (.sl s.nx 0 n 1) s' /\ OwnF s' (.sl s.nx 0 n 1) 1 (fun k => k = s.nx) (List.replicate n [z]) /\ Frm (fun _ => False) s s' := by
 refine ⟨{ h := tset (some (.cells (setL (repl [z] n) 0 .lf) 0 (lenL (repl [z] n)) s.nx)) s.nx s.h, nx := s.nx.succ, gr := tset (some [s.nx]) s.nx s.gr, ty := s.ty }, ?_, ?_, Frm.alloc _ _⟩
 ·show (bif Nat.ble n n && Nat.ble n mxl then s.new (repl [z] n) (fun o => .sl o 0 n 1) else .bad) = _
  rw [nble_dec, nble_dec]
  simp [hn]
  rfl
 ·have hlt := Ky.toNat_succ s.nx
  refine ⟨fun r hr => by rw [List.eq_of_mem_replicate hr]; rfl, fun k hk => by subst hk; simp only; omega, .inr ⟨s.nx, setL (repl [z] n) 0 .lf, lenL (repl [z] n), s.nx, [], ?_, ?_, ?_, ?_, ?_, by simp, by simp, rfl⟩⟩
  ·simp
  ·simp only; rw [tget_tset, if_pos rfl]
  ·rw [lenL_eq, repl_one]; simp
  ·intro j hj
   simp only [List.length_replicate, Nat.mul_one] at hj
   rw [nget_setL, repl_one]
   simp only [Nat.zero_le, true_and, Nat.zero_add, List.length_replicate, hj, if_true, Nat.sub_zero]
   have h1 := flatR_get (els := List.replicate n [z]) (sz := 1) (fun r hr => by rw [List.eq_of_mem_replicate hr]; rfl) j 0 (by simpa using hj) (by omega)
   rw [Nat.mul_one, Nat.add_zero] at h1
   rw [h1]
   simp [hj]
  ·simp only; rw [tget_tset, if_pos rfl]
end
theorem cnt_inc {s : HS} {v : HV} {F : Ky -> Prop} {n : Nat} {f : List Nat} (h : OwnF s v 1 F ((cntL n f).map iC)) {x : Nat} (hx : x < n) :
  ∃ o s', v = .sl o 0 n 1 /\ obCell (tget s.h o) x = some (iV (f.count x)) /\ stV 1 (some (.ptr o x)) (some (iV ((f.count x : Int) + 1))) s = .v .undef s' /\ OwnF s' v 1 F ((cntL n (f ++ [x])).map iC) /\ Frm F s s' /\ s'.nx = s.nx := by
 obtain ⟨o, rfl⟩ := h.hdr (by intro h0; have := congrArg List.length h0; simp [cntL_len] at this; omega)
 have hlen : ((cntL n f).map iC).length = n := by simp [cntL_len]
 have hg := cntL_get f hx
 obtain ⟨hgl, hgv⟩ := List.getElem?_eq_some_iff.1 hg
 have hc := h.cell x (by rw [hlen]; exact hx)
 obtain ⟨o', s', h1, h2, h3, h4, h5⟩ := h.set1 x (by rw [hlen]; exact hx) (iV ((f.count x : Int) + 1)) rfl
 rw [hlen] at h1
 simp [hx] at h1
 obtain rfl := h1
 refine ⟨o, s', by rw [hlen], ?_, ?_, ?_, h4, h5⟩
 ·rw [hc]
  simp [hgv]
 ·simpa using h2
 ·rw [cntL_snoc f hx, List.map_set]
  exact h3
section
variable {inn : Ar} {id : Int} {w : List Mv} {l : List (List Nat)}
theorem w5a (hI : InsOk inn id w l) (hw : w.length <= 40) (i : Nat) (hi : i < l.length) (e : En) (s : HS) (o : Out) (v : HV) (F : Ky -> Prop) (va vb vc : HV) (h2 : look e 2 = some (.psl (w.map Mv.c))) (h7 : look e 7 = some va) (h8 : look e 8 = some (.psl (l.map calC))) (h10 : look e 10 = some vb) (h12 : look e 12 = some vc) (h14 : look e 14 = some v) (h15 : look e 15 = some (iV i)) (h16 : look e 16 = some (iV 0))
  (hO : OwnF s v 1 F ((cntL w.length (l.take i).flatten).map iC)) (ho : evP R (.loop U.c5_0) e s = o) :
  ∃ e' s', o = .code (.exit 2) e' s' /\ look e' 2 = some (.psl (w.map Mv.c)) /\ look e' 7 = some va /\ look e' 8 = some (.psl (l.map calC)) /\ look e' 10 = some vb /\ look e' 12 = some vc /\ look e' 14 = some v /\ look e' 15 = some (iV i) /\ OwnF s' v 1 F ((cntL w.length (l.take (i + 1)).flatten).map iC) /\ Frm F s s' := by
 have hli : (l.map calC)[i]? = some (calC l[i]) := by simp [hi]
 have hmem := List.getElem_mem hi
 have hbd := hI.bd _ hmem
 have hsrt := hI.srt _ hmem
 have hcl := hI.cl _ hmem
 have hcnt1 : ∀ (f : List Nat) (x : Nat), (f ++ [x]).Sublist l.flatten -> x < w.length -> f.count x <= 1 := by
  intro f x hs hx
  have := (List.sublist_append_left f [x]).trans hs
  have := this.count_le x
  rw [hI.cnt x hx] at this
  split at this <;> omega
 have htake : (l.take (i + 1)).flatten = (l.take i).flatten ++ l[i] := by
  rw [List.take_succ_eq_append_getElem hi, List.flatten_append, List.flatten_singleton]
 have hsub : ∀ k, (hk : k < l[i].length) -> (((l.take i).flatten ++ l[i].take k) ++ [l[i][k]]).Sublist l.flatten := by
  intro k hk
  rw [List.append_assoc, <- List.take_succ_eq_append_getElem hk]
  have h1 : ((l.take i).flatten ++ l[i].take (k + 1)).Sublist ((l.take i).flatten ++ l[i]) := List.Sublist.append_left (List.take_sublist _ _) _
  refine h1.trans ?_
  rw [<- htake]
  conv => rhs; rw [<- List.take_append_drop (i + 1) l, List.flatten_append]
  exact List.sublist_append_left _ _
 rw [htake]
 generalize hc : l[i] = c at *
 refine loop_use ho c.length
  (fun k e s' => look e 2 = some (.psl (w.map Mv.c)) /\ look e 7 = some va /\ look e 8 = some (.psl (l.map calC)) /\ look e 10 = some vb /\ look e 12 = some vc /\ look e 14 = some v /\ look e 15 = some (iV i) /\ look e 16 = some (iV k) /\ OwnF s' v 1 F ((cntL w.length ((l.take i).flatten ++ c.take k)).map iC) /\ Frm F s s')
  (fun o => ∃ e' s', o = .code (.exit 2) e' s' /\ look e' 2 = some (.psl (w.map Mv.c)) /\ look e' 7 = some va /\ look e' 8 = some (.psl (l.map calC)) /\ look e' 10 = some vb /\ look e' 12 = some vc /\ look e' 14 = some v /\ look e' 15 = some (iV i) /\ OwnF s' v 1 F ((cntL w.length ((l.take i).flatten ++ c)).map iC) /\ Frm F s s')
  0 (by omega) ⟨h2, h7, h8, h10, h12, h14, h15, h16, by simpa using hO, Frm.refl⟩
  (fun k e s' r hk ⟨h2, h7, h8, h10, h12, h14, h15, h16, hO, hF⟩ hr => by
   have hk' : (k : Int) < c.length := by omega
   have hn : c[k] < w.length := hbd _ (List.getElem_mem hk)
   have hn0 : ¬ ((c[k] : Nat) : Int) < 0 := by omega
   have hn1 : ¬ (w.length : Int) <= c[k] := by omega
   have hck := List.getElem?_eq_getElem hk
   obtain ⟨ob, s2, hv, hcell, hst, hO2, hF2, hnx⟩ := cnt_inc hO hn
   have hcb := hcnt1 _ _ (hsub k hk) hn
   have hw1 : wrapF .i64 ((((l.take i).flatten ++ c.take k).count c[k] : Nat) + 1 : Int) = (((l.take i).flatten ++ c.take k).count c[k] : Nat) + 1 := wrapF_id (by omega) (by omega)
   generalize ((l.take i).flatten ++ c.take k).count c[k] = q at *
   subst hv
   have hfin : OwnF s2 (.sl ob 0 w.length 1) 1 F ((cntL w.length ((l.take i).flatten ++ c.take (k + 1))).map iC) := by
    rw [List.take_succ_eq_append_getElem hk, <- List.append_assoc]; exact hO2
   by_cases hk0 : k = 0
   ·subst hk0
    simp at h16 hk'
    have hw0 : wrapF .i64 (1 : Int) = 1 := rfl
    simp -implicitDefEqProofs [U.c5_0, h2, h8, h14, h15, h16, hli, calC, hk, hk', hn, hn0, hn1, hck, hcell, hw1, hst, hw0] at hr
    subst hr
    exact .inl ⟨_, _, rfl, by simp [h2], by simp [h7], by simp [h8, calC], by simp [h10], by simp [h12], by simp [h14], by simp [h15], by simp, hfin, hF.trans hF2⟩
   ·obtain ⟨j, hjk⟩ : ∃ j, j + 1 = k := ⟨k - 1, by omega⟩
    have hj : j < c.length := by omega
    have hcj := List.getElem?_eq_getElem hj
    have hjlt : c[j] < c[k] := List.pairwise_iff_getElem.1 hsrt j k hj hk (by omega)
    have hj1 : ¬ ((c[k] : Nat) : Int) <= c[j] := by omega
    have hj0 : 0 < k := by omega
    have hwj : wrapF .i64 ((k : Int) - 1) = j := by rw [show (k : Int) - 1 = j by omega]; exact wrapF_id (by omega) (by omega)
    have hw2 := wrap1 (n := 41) (show k < 41 by omega) (by omega)
    simp -implicitDefEqProofs [U.c5_0, h2, h8, h14, h15, h16, hli, calC, hk, hk', hn, hn0, hn1, hck, hj, hcj, hj0, hj1, hwj, hcell, hw1, hst, hw2] at hr
    subst hr
    exact .inl ⟨_, _, rfl, by simp [h2], by simp [h7], by simp [h8, calC], by simp [h10], by simp [h12], by simp [h14], by simp [h15], by simp, hfin, hF.trans hF2⟩)
  (fun e s' r ⟨h2, h7, h8, h10, h12, h14, h15, h16, hO, hF⟩ hr => by
   simp -implicitDefEqProofs [U.c5_0, h8, h15, h16, hli, calC] at hr
   subst hr
   rw [List.take_length] at hO
   exact ⟨by simp, _, _, rfl, by simp [h2], by simp [h7], by simp [h8, calC], by simp [h10], by simp [h12], by simp [h14], by simp [h15], hO, hF⟩)
end
set_option maxRecDepth 10000
set_option linter.unusedSimpArgs false
section
variable {inn : Ar} {id : Int} {w : List Mv} {l : List (List Nat)}
theorem w5b (hI : InsOk inn id w l) (ok : ArOk inn) (hc : arCheck inn = 0) (hw : w.length <= 40) (e : En) (s : HS) (o : Out) (v : HV) (F : Ky -> Prop) (h2 : look e 2 = some (.psl (w.map Mv.c))) (h7 : look e 7 = some (iV id)) (h8 : look e 8 = some (.psl (l.map calC))) (h10 : look e 10 = some (.psl ((l.map (insideW w)).map wordC))) (h12 : look e 12 = some (.ptr .e 0)) (h14 : look e 14 = some v) (h15 : look e 15 = some (iV 0))
  (hC : Cel s .e inn.c) (hO : OwnF s v 1 F ((cntL w.length []).map iC)) (hF : ∀ k, F k -> 1 <= k.toNat) (ho : evP R (.loop U.c5_1) e s = o) :
  ∃ e' s', o = .code (.exit 0) e' s' /\ look e' 2 = some (.psl (w.map Mv.c)) /\ look e' 7 = some (iV id) /\ look e' 14 = some v /\ OwnF s' v 1 F ((cntL w.length l.flatten).map iC) := by
 have hlen := hI.len
 refine loop_use ho l.length
  (fun i e s => look e 2 = some (.psl (w.map Mv.c)) /\ look e 7 = some (iV id) /\ look e 8 = some (.psl (l.map calC)) /\ look e 10 = some (.psl ((l.map (insideW w)).map wordC)) /\ look e 12 = some (.ptr .e 0) /\ look e 14 = some v /\ look e 15 = some (iV i) /\ Cel s .e inn.c /\ OwnF s v 1 F ((cntL w.length (l.take i).flatten).map iC))
  (fun o => ∃ e' s', o = .code (.exit 0) e' s' /\ look e' 2 = some (.psl (w.map Mv.c)) /\ look e' 7 = some (iV id) /\ look e' 14 = some v /\ OwnF s' v 1 F ((cntL w.length l.flatten).map iC))
  0 (by omega) ⟨h2, h7, h8, h10, h12, h14, h15, hC, by simpa using hO⟩
  (fun i e s r hi ⟨h2, h7, h8, h10, h12, h14, h15, hC, hO⟩ hr => by
   have hi' : (i : Int) < l.length := by omega
   have hmem := List.getElem_mem hi
   have hli : (l.map calC)[i]? = some (calC l[i]) := by simp [hi]
   have hmi : ((l.map (insideW w)).map wordC)[i]? = some (wordC (insideW w l[i])) := by simp [hi]
   have hne := hI.ne _ hmem
   have hcl := hI.cl _ hmem
   have hleg := hI.leg _ hmem
   have hil : (insideW w l[i]).length = l[i].length := by simp [insideW]
   have h25 := w25 inn ok (insideW w l[i])
   rw [decide_eq_true ⟨by omega, hleg⟩] at h25
   have h27 := w27 inn ok (insideW w l[i]) hleg hc
   have hover := hI.over _ hmem
   have hpos : 0 < l[i].length := List.length_pos_iff.2 hne
   obtain ⟨q, hq⟩ : ∃ q, q + 1 = l[i].length := ⟨l[i].length - 1, by omega⟩
   have hql : l[i].getLast? = some l[i][q] := by rw [List.getLast?_eq_getElem?, show l[i].length - 1 = q by omega]; simp [show q < l[i].length by omega]
   have hqn := hI.bd _ hmem _ (List.getElem_mem (show q < l[i].length by omega))
   have hwq : wrapF .i64 ((l[i].length : Int) - 1) = q := by rw [show (l[i].length : Int) - 1 = q by omega]; exact wrapF_id (by omega) (by omega)
   have hqc := List.getElem?_eq_getElem (show q < l[i].length by omega)
   have hqm := List.getElem?_eq_getElem hqn
   have hov := hover w[l[i][q]] (by rw [hql]; simpa using hqm)
   have hL0 : ¬ (l[i].length : Int) = 0 := by omega
   generalize w[l[i][q]] = m at hqm hov
   have hinner := fun (e : En) (s : HS) (o : Out) => w5a hI hw i hi e s o v F (iV id) (.psl ((l.map (insideW w)).map wordC)) (.ptr .e 0)
   have hld := hC.load
   simp only [Ar.c, iV, List.length_cons, List.length_nil] at h25 h27 hld
   simp -implicitDefEqProofs [U.c5_1, -U.r5_2, h2, h7, h8, h10, h12, h14, h15, hli, hmi, calC, wordC, hi, hi', hil, hne, hL0, hld, h25] at hr
   generalize hr1 : evP R (.loop U.c5_0) _ _ = r1 at hr
   obtain ⟨e1, s1, rfl, g2, g7, g8, g10, g12, g14, g15, hO1, hF1⟩ := hinner _ _ _ (by simp [h2]) (by simp [h7]) (by simp [h8]) (by simp [h10]) (by simp [h12]) (by simp [h14]) (by simp [h15]) (by simp) hO hr1
   clear hr1
   have hC1 := hC.frame hF1 (fun h => by have := hF _ h; simp [Ky.toNat] at this)
   have hld1 := hC1.load
   simp only [List.length_cons, List.length_nil, Ar.c] at hld1
   generalize turnN (runW (wk0 inn) (insideW w l[i])).1 = tn at *
   generalize (runW (wk0 inn) (insideW w l[i])).1.op = top at *
   generalize lastForced (runW (wk0 inn) (insideW w l[i])).1.w = tf at *
   generalize (runW (wk0 inn) (insideW w l[i])).1.lost = tl at *
   have hO2 := hO1.frame (Frm.alloc (.cells (Lst [.int .u8 tn, .psl (top.map nC), .bool tf, .bool tl]) 0 4 s1.nx) [s1.nx]) (fun _ _ h => h)
   have hC2 := hC1.frame (Frm.alloc (.cells (Lst [.int .u8 tn, .psl (top.map nC), .bool tf, .bool tl]) 0 4 s1.nx) [s1.nx]) (fun h => h)
   have hob : tget (HS.mk (tset (some (.cells (Lst [.int .u8 tn, .psl (top.map nC), .bool tf, .bool tl]) 0 4 s1.nx)) s1.nx s1.h) s1.nx.succ (tset (some [s1.nx]) s1.nx s1.gr) s1.ty).h s1.nx = some (.cells (Lst [.int .u8 tn, .psl (top.map nC), .bool tf, .bool tl]) 0 4 s1.nx) := by simp
   have hnx2 : (HS.mk (tset (some (.cells (Lst [.int .u8 tn, .psl (top.map nC), .bool tf, .bool tl]) 0 4 s1.nx)) s1.nx s1.h) s1.nx.succ (tset (some [s1.nx]) s1.nx s1.gr) s1.ty).nx = s1.nx.succ := rfl
   generalize hS2 : HS.mk (tset (some (.cells (Lst [.int .u8 tn, .psl (top.map nC), .bool tf, .bool tl]) 0 4 s1.nx)) s1.nx s1.h) s1.nx.succ (tset (some [s1.nx]) s1.nx s1.gr) s1.ty = S2 at hO2 hC2 hob hnx2
   have hO3 := hO2.frame (Frm.alloc (.cells (Lst m.c) 0 4 S2.nx) [S2.nx]) (fun _ _ h => h)
   have hC3 := hC2.frame (Frm.alloc (.cells (Lst m.c) 0 4 S2.nx) [S2.nx]) (fun h => h)
   have hsn : S2.nx ≠ s1.nx := by rw [hnx2]; intro h; have := congrArg Ky.toNat h; rw [Ky.toNat_succ] at this; omega
   have hob3 : tget (HS.mk (tset (some (.cells (Lst m.c) 0 4 S2.nx)) S2.nx S2.h) S2.nx.succ (tset (some [S2.nx]) S2.nx S2.gr) S2.ty).h s1.nx = some (.cells (Lst [.int .u8 tn, .psl (top.map nC), .bool tf, .bool tl]) 0 4 s1.nx) := by
    simp only; rw [tget_tset, if_neg (fun h => hsn h.symm)]; exact hob
   have hob4 : tget (HS.mk (tset (some (.cells (Lst m.c) 0 4 S2.nx)) S2.nx S2.h) S2.nx.succ (tset (some [S2.nx]) S2.nx S2.gr) S2.ty).h S2.nx = some (.cells (Lst m.c) 0 4 S2.nx) := by simp
   generalize hS3 : HS.mk (tset (some (.cells (Lst m.c) 0 4 S2.nx)) S2.nx S2.h) S2.nx.succ (tset (some [S2.nx]) S2.nx S2.gr) S2.ty = S3 at hO3 hC3 hob3 hob4
   obtain ⟨mi, ma, mk, mn⟩ := m
   simp only [Mv.c] at hob4 hS3
   simp only at hov
   have hw1 := wrap1 (n := 400) (show i < 400 by omega) (by omega)
   simp -implicitDefEqProofs [-U.r5_2, g2, g7, g8, g10, g12, g14, g15, hli, hmi, calC, wordC, hi, hi', hil, hwq, hqc, hqm, hld1, h27, obStore_c, storeG_1, obCells_c, hS2, hob, hS3] at hr
   have key : r = .code .normal ((((e1.upd 17 (.ptr s1.nx 0)).upd 19 (.ptr S2.nx 0)).upd 223 (.bool false)).upd 15 (iV (i + 1 : Nat))) S3 := by
    by_cases hma : ma = 0
    ·by_cases hmk : mk = 3
     ·have htn : tn = 3 := hov.2 ⟨hma, hmk⟩
      subst hma; subst hmk; subst htn
      simp -implicitDefEqProofs [hob3, hob4, g15, hw1] at hr
      subst hr
      simp
     ·have htn : ¬ tn = 3 := fun h => hmk (hov.1 h).2
      subst hma
      simp -implicitDefEqProofs [hob3, hob4, g15, hw1, hmk, htn] at hr
      subst hr
      simp
    ·have htn : ¬ tn = 3 := fun h => hma (hov.1 h).1
     simp -implicitDefEqProofs [hob3, hob4, g15, hw1, hma, htn] at hr
     subst hr
     simp
   subst key
   exact .inl ⟨_, _, rfl, by simp [g2], by simp [g7], by simp [g8], by simp [g10], by simp [g12], by simp [g14], by simp, hC3, hO3⟩)
  (fun e s r ⟨h2, h7, h8, h10, h12, h14, h15, hC, hO⟩ hr => by
   simp -implicitDefEqProofs [U.c5_1, h8, h15] at hr
   subst hr
   rw [List.take_length] at hO
   exact ⟨by simp, _, _, rfl, by simp [h2], by simp [h7], by simp [h14], hO⟩)
theorem w5c (hI : InsOk inn id w l) (hw : w.length <= 40) (e : En) (s : HS) (o : Out) (v : HV) (F : Ky -> Prop) (h2 : look e 2 = some (.psl (w.map Mv.c))) (h7 : look e 7 = some (iV id)) (h14 : look e 14 = some v) (h20 : look e 20 = some (iV 0))
  (hO : OwnF s v 1 F ((cntL w.length l.flatten).map iC)) (ho : evP R (.loop U.c5_2) e s = o) : ∃ e' , o = .code (.exit 4) e' s := by
 refine loop_use ho w.length
  (fun i e s' => s' = s /\ look e 2 = some (.psl (w.map Mv.c)) /\ look e 7 = some (iV id) /\ look e 14 = some v /\ look e 20 = some (iV i))
  (fun o => ∃ e', o = .code (.exit 4) e' s)
  0 (by omega) ⟨rfl, h2, h7, h14, h20⟩
  (fun i e s' r hi ⟨hs, h2, h7, h14, h20⟩ hr => by
   subst hs
   have hi' : (i : Int) < w.length := by omega
   obtain ⟨ob, rfl⟩ := hO.hdr (by intro h0; have := congrArg List.length h0; rw [List.length_map, cntL_len] at this; simp only [List.length_nil] at this; omega)
   have hcnt := hI.cnt i hi
   have hcl := hO.cell i (by simp [cntL_len, hi])
   have hcg := cntL_get l.flatten hi
   obtain ⟨hcgl, hcgv⟩ := List.getElem?_eq_some_iff.1 hcg
   simp [hcgv, hcnt] at hcl
   have hm := List.getElem?_eq_getElem hi
   have hone : oneB w id i = (decide (w[i].id = id) && !(decide (w[i].arg = 0) && escB w[i] && !forcedAt w i)) := by unfold oneB; rw [hm]
   have hw1 := wrap1 (n := 40) (show i < 40 by omega) (by omega)
   have hfree : evP R U.r5_3 (e.upd 227 (.bool true)) s' = .code .normal ((e.upd 227 (.bool true)).upd 21 (.bool (decide (w[i].arg = 0) && escB w[i] && !forcedAt w i))) s' := by
    have h28 := w28 w[i]
    generalize hme : w[i] = m at *
    obtain ⟨mi, ma, mk, mn⟩ := m
    simp only [Mv.c] at h28
    by_cases hma : ma = 0
    ·subst hma
     cases he : escB ⟨mi, 0, mk, mn⟩
     ·rw [he] at h28
      simp -implicitDefEqProofs [h2, h20, hi, hm, hme, h28]
     ·rw [he] at h28
      by_cases hi0 : i = 0
      ·subst hi0
       simp at h20 hi'
       simp -implicitDefEqProofs [h2, h20, hi, hm, hme, h28, forcedAt]
      ·obtain ⟨j, hji⟩ : ∃ j, j + 1 = i := ⟨i - 1, by omega⟩
       have hj : j < w.length := by omega
       have hjm := List.getElem?_eq_getElem hj
       have hwj : wrapF .i64 ((i : Int) - 1) = j := by rw [show (i : Int) - 1 = j by omega]; exact wrapF_id (by omega) (by omega)
       have g28 := w28 w[j]
       have hfa : forcedAt w i = (escB w[j] && decide (0 < w[j].arg)) := by rw [<- hji]; simp [forcedAt, hjm]
       generalize hmj : w[j] = m at *
       obtain ⟨ni, na, nk, nn⟩ := m
       simp only [Mv.c] at g28
       have hi1 : 0 < i := by omega
       cases hf : escB ⟨ni, na, nk, nn⟩
       ·rw [hf] at g28 hfa
        simp -implicitDefEqProofs [h2, h20, hi, hm, hme, hmj, h28, hi1, hwj, hj, hjm, g28, hfa]
       ·rw [hf] at g28 hfa
        simp -implicitDefEqProofs [h2, h20, hi, hm, hme, hmj, h28, hi1, hwj, hj, hjm, g28, hfa]
    ·simp -implicitDefEqProofs [h2, h20, hi, hm, hme, hma]
   have hln : (List.map iC (cntL w.length l.flatten)).length = w.length := by rw [List.length_map, cntL_len]
   rw [hln] at h14
   generalize hfr : (decide (w[i].arg = 0) && escB w[i] && !forcedAt w i) = fr at *
   by_cases hid : w[i].id = id
   ·cases fr
    ·have h1 : oneB w id i = true := by rw [hone]; simp [hid]
     rw [h1] at hcl
     simp at hcl
     simp -implicitDefEqProofs [U.c5_2, -U.r5_3, h2, h7, h14, h20, hi, hi', hm, hfree, hid, hcl, hw1] at hr
     subst hr
     exact .inl ⟨_, _, rfl, rfl, by simp [h2], by simp [h7], by simp [h14, cntL_len], by simp⟩
    ·have h1 : oneB w id i = false := by rw [hone]; simp
     rw [h1] at hcl
     simp at hcl
     simp -implicitDefEqProofs [U.c5_2, -U.r5_3, h2, h7, h14, h20, hi, hi', hm, hfree, hid, hcl, hw1] at hr
     subst hr
     exact .inl ⟨_, _, rfl, rfl, by simp [h2], by simp [h7], by simp [h14, cntL_len], by simp⟩
   ·have h1 : oneB w id i = false := by rw [hone]; simp [hid]
    rw [h1] at hcl
    simp at hcl
    simp -implicitDefEqProofs [U.c5_2, -U.r5_3, h2, h7, h14, h20, hi, hi', hm, hfree, hid, hcl, hw1] at hr
    subst hr
    exact .inl ⟨_, _, rfl, rfl, by simp [h2], by simp [h7], by simp [h14, cntL_len], by simp⟩)
  (fun e s' r ⟨hs, h2, h7, h14, h20⟩ hr => by
   subst hs
   simp -implicitDefEqProofs [U.c5_2, h2, h20] at hr
   subst hr
   exact ⟨by simp, _, rfl⟩)
end
set_option maxRecDepth 10000
set_option linter.unusedSimpArgs false
section
variable {s : HS} {e : En}
noncomputable def cnvR (k : IntKind) (x : Option HV) (s : HS) : Res := opt x (fun v => v.asInt (fun _ n => .v (.int k (wrapF k n)) s) .bad) .bad
@[simp] theorem hop_cnv {k : IntKind} {x : X} : hop (.cnv k x) e s = cnvR k (opd x e) s := rfl
@[simp] theorem cnvR_int {k k' : IntKind} {n : Int} : cnvR k (some (.int k' n)) s = .v (.int k (wrapF k n)) s := rfl
theorem bin_rem {k : IntKind} {a b : Int} (hb : b ≠ 0) : binR false .rem (some (.int k a)) (some (.int k b)) s = .v (.int k (a.tmod b)) s := by
 show rv s (bif decide (k = k) then (bif beqI b 0 then none else some (.int k (a.tmod b))) else none) = _
 simp [beqI_dec, hb]
end
noncomputable abbrev S5 (a : Ar) : HS := { h := .nd (some (.cells (Lst [.psl (a.ids.map Ty.c), .bool a.root.cell, .int .i64 a.root.n, .bool a.jumps]) 0 4 .e)) .lf .lf, nx := .z .e, gr := .nd (some [.e]) .lf .lf, ty := .lf }
theorem pactInside (a : Ar) (which : Int) (hwh : 0 <= which /\ which <= 255) (w : List Mv) (s : HS) : R (.call 5 [.agg a.c, .int .u8 which, .psl (w.map Mv.c)] s) = .val (.bool true) s := by
 refine q5 rfl (by simp) ?_
 have h12 := awake
 obtain ⟨b, h9, hb⟩ := w9 a
 simp only [Ar.c, iV] at h9
 cases b
 ·simp -implicitDefEqProofs [U.b5, h9, h12, dataV_data]
 obtain ⟨ht1, ht2⟩ := hb rfl
 have ok : ArOk a := ⟨by omega, fun t ht => by have := ht2 t ht; omega⟩
 have h24 := w24 a ok
 simp only [Ar.c, iV] at h24
 by_cases hc : arCheck a = 0
 case neg => simp -implicitDefEqProofs [U.b5, h9, h24, hc, h12, dataV_data]
 by_cases hn : a.ids = []
 ·rw [hn] at h9 h24
  simp only [List.map_nil] at h9 h24
  simp -implicitDefEqProofs [U.b5, h9, h24, hc, hn, h12, dataV_data]
 have hpos : 0 < a.ids.length := List.length_pos_iff.2 hn
 have hl0 : ¬ a.ids.length = 0 := by omega
 have h25 := w25 a ok w
 simp only [Ar.c, iV] at h25
 by_cases hw : w.length <= 40 /\ (wordE a w).2 = 0
 case neg =>
  rw [decide_eq_false hw] at h25
  simp -implicitDefEqProofs [U.b5, h9, h24, hc, hn, hl0, h25, h12, dataV_data]
 rw [decide_eq_true hw] at h25
 have hlz : (a.ids.length : Int) ≠ 0 := by omega
 have hr0 : 0 <= which.tmod (a.ids.length : Int) := Int.tmod_nonneg _ hwh.1
 have hr1 : which.tmod (a.ids.length : Int) < a.ids.length := Int.tmod_lt_of_pos _ (by omega)
 have hrem := fun (s : HS) => @bin_rem s .i64 which (a.ids.length : Int) hlz
 have hw0 : wrapF .i64 which = which := wrapF_id (by omega) (by omega)
 generalize which.tmod (a.ids.length : Int) = r at *
 have hid : wrapF .i64 (r + 1) = r + 1 := wrapF_id (by omega) (by omega)
 have hi1 : 1 <= r + 1 := by omega
 have hi2 : r + 1 <= (a.ids.length : Int) := by omega
 have hce : callE a (r + 1) w = 0 := by
  unfold callE
  rw [if_neg (by simp [hc]), if_neg (by simp [hw.2]), if_pos ⟨hi1, hi2⟩]
 have h18 := w18 a ht1 ht2
 have h15 := w15 w (by omega)
 have h17 := w17 allOkP a ok (r + 1) w
 have h19 := w19 allOkP a ok (r + 1) w
 have h26 := w26 a ok hc hi1 hi2
 rw [lookE_callE a (r + 1) w ok, callsP_callsR a (r + 1) w ok, hce] at h17 h19
 unfold callsR at h17 h19
 rw [if_pos hce] at h17 h19
 have hI := insOk hce hw.1
 have hok := arCheck_ok (inn_check hc hi1 hi2)
 have hic := inn_check hc hi1 hi2
 generalize callsOf (runW (wk0 a) w).1.js (r + 1) w = l at *
 generalize innA a (r + 1) = inn at *
 obtain ⟨s1, hm, hO, hFr⟩ := mks_own (s := S5 inn) (n := w.length) (mxl := 17592186044416) (by omega) (iV 0)
 have hC : Cel (S5 inn) .e inn.c := ⟨rfl, rfl, by show (Ky.e).toNat < (Ky.z .e).toNat; decide⟩
 have hC1 := hC.frame hFr (fun h => h)
 simp only [Ar.c, iV, List.map_map] at h18 h15 h17 h19 h26 hm
 simp -implicitDefEqProofs [U.b5, h9, h24, hc, hn, hl0, h25, hw0, hrem, hid, h18, h15, h17, h19, h26, s0, obStore_c, storeG_1, obCells_c, hm]
 generalize ho : evP R (.loop U.c5_1) _ _ = o
 obtain ⟨e2, s2, rfl, g2, g7, g14, hO2⟩ := w5b hI hok hic hw.1 _ _ _ (.sl (.z .e) 0 w.length 1) (fun k => k = .z .e) (by simp) (by simp) (by simp) (by simp [List.map_map]) (by simp) (by simp) (by simp) hC1 (by rw [cntL_nil, List.map_replicate]; exact hO) (fun k hk => by subst hk; simp [Ky.toNat]) ho
 clear ho
 simp
 generalize ho : evP R (.loop U.c5_2) _ _ = o
 obtain ⟨e3, rfl⟩ := w5c hI hw.1 _ _ _ _ _ (by simp [g2]) (by simp [g7]) (by simp [g14]) (by simp) hO2 ho
 clear ho
 simp -implicitDefEqProofs [h12, dataV_data]
end Go.Proofs.YtclepinjnoiakaaGreatDoor.K.Hm.S
namespace Go.Proofs.YtclepinjnoiakaaGreatDoor.K.Hm
open Go Go.RowKit
theorem live0 (b : Nat) : ¬ Live (fun _ => False) s0 (fun _ => none) b := by
 rintro (hb | ⟨o, ob, pl, h1, h2, h3⟩)
 ·exact hb
 ·cases h2
theorem rel0 (fx : Nat -> Option Obj) (P : Program) (W : World) : Rel (fun _ => False) (CR fx P) (fun _ => none) s0 W :=
 ⟨fun o pl h => (by cases h), fun o ob h => (by cases h), fun o o' ob ob' pl pl' h => (by cases h), fun o t lo hi g h => (by cases h), fun g ms h => (by cases h), fun b h => h.elim, fun b h => h.elim, fun o E n h => (by cases h)⟩
theorem open_calls {P : Program} {L : Libs} (F : LibFacts P L) {prog prog0 : Nat -> Option HF} (hm : P.follows .mixedOrders = true) (hprog : ∀ f F, prog f = some F -> chkF P f F = true) (hprog0 : ∀ f F, prog0 f = some F -> chkF P f F = true)
  {n n0 f t : Nat} (h0 : isTrue (run { L with tru := none } prog0 n0 (.call t [] s0)) = true) {args : List HV} {s' : HS} (h : run { L with tru := some t } prog n (.call f args s0) = .val (.bool true) s') {W : World}
  (ht : Lib.TabIs P W "internal/strconv.uint64pow10" .u64 Lib.pow10Tab) {vs : List Value} (hvs : HRs (fun _ => none) (fun _ => False) W args vs) : Calls P f vs.toArray W fun e W' => e = .returned (.bool true) /\ Below W.heap.size W W' := by
 obtain ⟨fx, hfx, hs⟩ := F.sound hm ht
 have hs0 := hs prog0 hprog0 none (fun t h => by cases h)
 obtain ⟨s1, hv⟩ : ∃ s', run { L with tru := none } prog0 n0 (.call t [] s0) = .val (.bool true) s' := by
  cases hr : run { L with tru := none } prog0 n0 (.call t [] s0) with
  | val v s' =>
   rw [hr] at h0
   cases v with
   | bool b => cases b with
    | true => exact ⟨s', rfl⟩
    | false => cases h0
   | _ => cases h0
  | code => rw [hr] at h0; cases h0
  | bad => rw [hr] at h0; cases h0
 have htru := libTrue_sound (hs0 n0) hv
 have hs := hs prog hprog (some t) (fun t' h => by cases h; exact htru)
 obtain ⟨_, hc⟩ := (hs n).call f args s0 (.bool true) s' h
 have hvs' : HRs (fun _ => none) (Live (fun _ => False) s0 (fun _ => none)) W args vs := hvs.keep (Bt.le_refl _) (fun b _ hb => live0 b hb) (Keeps.refl _ _)
 refine (hc (fun _ => False) (fun _ => none) W vs (rel0 fx P W) (fun b o hb => ⟨hfx b o hb, live0 b⟩) hvs').mono ?_
 rintro e W' ⟨u, β', rfl, _, hx, hu⟩
 cases hu
 exact ⟨rfl, hx.os, hx.tape, hx.output, hx.keeps.size, fun k hk => hx.keeps.same k hk (live0 k)⟩
section
variable {H : Type} {enc : TypeId × Value -> H} {P : Program} {w : World}
abbrev HR0 (w : World) := HR (fun _ => none) (fun _ => False) w
abbrev HRs0 (w : World) := HRs (fun _ => none) (fun _ => False) w
abbrev trod0 (enc : TypeId × Value -> H) (P : Program) (w : World) := DataW.trod enc P w 0 (fun _ => true) true
def Reads (enc : TypeId × Value -> H) (P : Program) (w : World) (t : TypeId) {α : Type} (c : α -> List HV) : Prop :=
 (∀ a, ∀ v ∈ c a, v.one = true) /\ (∀ a, (c a).length = P.cellsOf t) /\ ∀ fuel cs x, trod0 enc P w fuel t cs = some x -> ∃ a : α, HRs0 w (c a) cs
theorem exists_list {α : Type} {Q : Nat -> α -> Prop} : ∀ (n : Nat), (∀ i, i < n -> ∃ a, Q i a) -> ∃ l : List α, l.length = n /\ ∀ i (h : i < l.length), Q i l[i]
 | 0, _ => ⟨[], rfl, fun i h => absurd h (by simp)⟩
 | n + 1, h => by
  obtain ⟨l, h1, h2⟩ := exists_list n (fun i hi => h i (by omega))
  obtain ⟨a, ha⟩ := h n (by omega)
  refine ⟨l ++ [a], by simp [h1], fun i hi => ?_⟩
  rw [List.length_append, List.length_singleton] at hi
  by_cases hl : i < l.length
  ·rw [List.getElem_append_left hl]; exact h2 i hl
  ·have : i = n := by omega
   subst this
   rw [List.getElem_append_right (by omega)]
   simpa [h1] using ha
theorem cells_row {a : Addr} {n : Nat} {cs : List Value} (h : w.cells? 0 a n = some cs) : cs.length = n /\ ∀ j, j < n -> w.cell? (a.add j) = cs[j]? := by
 unfold World.cells? at h
 rw [if_pos (Nat.zero_le _)] at h
 exact ⟨by simpa using mapM_some_length h, fun j hj => mapM_some_get h j j (by simp [hj])⟩
theorem Reads.slice {t e : TypeId} (ht : P.underlying t = some (.slice e)) (hpos : 0 < P.cellsOf e) {α : Type} {c : α -> List HV} (hr : Reads enc P w e c) (fuel : Nat) (cs : List Value) (x : DataW H × List MemPlace) (h : trod0 enc P w fuel t cs = some x) :
  ∃ (rows : List α) (v : Value), cs = [v] /\ HR0 w (.psl (rows.map c)) v := by
 rcases DataW.trod_slice ht h with ⟨rfl, _⟩ | ⟨a, len, cap, elems, rest, n, _, rfl, _, _, hlc, _, hel, hget, _, _⟩
 ·exact ⟨[], _, rfl, .psl0 none 0 (fun _ => rfl)⟩
 by_cases h0 : len = 0
 ·subst h0
  exact ⟨[], _, rfl, .psl0 (some a) cap (fun h => by cases h)⟩
 have hrow : ∀ i, i < len -> ∃ r : α, ∃ cs', w.cells? 0 (a.add (i * P.cellsOf e)) (P.cellsOf e) = some cs' /\ HRs0 w (c r) cs' := by
  intro i hi
  have hg := hget i hi
  rw [List.getElem?_eq_getElem (by omega)] at hg
  obtain ⟨cs', h1, h2⟩ := Option.bind_eq_some_iff.1 hg
  obtain ⟨r, hr⟩ := hr.2.2 _ _ _ h2
  exact ⟨r, cs', h1, hr⟩
 obtain ⟨rows, hlen, hrows⟩ := exists_list len hrow
 obtain ⟨b, o, spot⟩ := a
 have hspot : spot = none := by
  obtain ⟨cs', h1, _⟩ := hrows 0 (by omega)
  have h2 := (cells_row h1).2 0 hpos
  rw [List.getElem?_eq_getElem (by rw [(cells_row h1).1]; exact hpos)] at h2
  simpa [Addr.add] using World.cell?_spot h2
 subst hspot
 have hadd : ∀ i j, (Addr.add (Addr.add ⟨b, o, none⟩ i) j) = ⟨b, o + (i + j), none⟩ := fun i j => by
  rw [add_none, add_none]; congr 1; omega
 subst hlen
 have hcell : ∀ i j, i < rows.length -> j < P.cellsOf e -> ∃ u, cellAt w b (o + (i * P.cellsOf e + j)) = some u /\ ∀ v, (rows.map c)[i]? = some v -> ∀ y, v[j]? = some y -> HR0 w y u := by
  intro i j hi hj
  obtain ⟨cs', h1, h2⟩ := hrows i hi
  obtain ⟨h3, h4⟩ := cells_row h1
  have h5 := h4 j hj
  rw [hadd, List.getElem?_eq_getElem (by omega)] at h5
  refine ⟨_, h5, fun v hv y hy => ?_⟩
  simp [hi] at hv
  subst hv
  exact h2.2 j y _ hy (List.getElem?_eq_getElem (by omega))
 refine ⟨rows, _, rfl, ?_⟩
 have hb : b < w.heap.size := by
  obtain ⟨u, hu, _⟩ := hcell 0 0 (by omega) hpos
  exact lt_of_cellAt hu
 have hps := HR.psl (β := fun _ => none) (N := fun _ => False) (w := w) (rows.map c) b o cap (P.cellsOf e) (fun i j => (cellAt w b (o + (i * P.cellsOf e + j))).getD Go.undef) (fun h => h) hb (by simpa using hlc)
  (fun i row hi => by
   obtain ⟨r, _, rfl⟩ := List.mem_map.1 (List.mem_of_getElem? hi)
   exact hr.2.1 r)
  (fun row hrow v hv => by
   obtain ⟨r, _, rfl⟩ := List.mem_map.1 hrow
   exact hr.1 r v hv)
  (fun i j hi hj => by
   rw [List.length_map] at hi
   obtain ⟨u, hu, _⟩ := hcell i j hi hj
   rw [hu]; rfl)
  (fun i row j y hi hy => by
   have hil : i < rows.length := by have := (List.getElem?_eq_some_iff.1 hi).1; simpa using this
   have hj : j < P.cellsOf e := by
    obtain ⟨r, _, rfl⟩ := List.mem_map.1 (List.mem_of_getElem? hi)
    rw [<- hr.2.1 r]; exact (List.getElem?_eq_some_iff.1 hy).1
   obtain ⟨u, hu, hv⟩ := hcell i j hil hj
   rw [hu]
   exact hv row hi y hy)
 simpa using hps
end
section
variable {H : Type} {enc : TypeId × Value -> H} {P : Program} {w : World}
theorem take1 {cs : List Value} {o : Nat} {v : Value} (h : (cs.drop o).take 1 = [v]) : cs[o]? = some v := by
 have := congrArg (fun l => l[0]?) h
 simpa using this
theorem fld_int {t : TypeId} {fs : Array Field} (ht : P.underlying t = some (.struct fs)) {fuel : Nat} {cs : List Value} {x : DataW H × List MemPlace} (h : trod0 enc P w fuel t cs = some x) {i : Nat} {f : Field} (hf : fs[i]? = some f) {k : IntKind} (hk : P.underlying f.type = some (.int k)) (hc : P.cellsOf f.type = 1) :
  ∃ n, cs[f.offset]? = some (.int k n) := by
 obtain ⟨xs, n, _, _, _, hl, hg⟩ := DataW.trod_struct ht h
 have h1 := hg i f hf
 have hi : i < xs.length := by rw [hl]; exact (Array.getElem?_eq_some_iff.1 hf).1
 rw [List.getElem?_eq_getElem hi] at h1
 obtain ⟨m, hm, _⟩ := DataW.trod_int hk h1
 rw [hc] at hm
 exact ⟨m, take1 hm⟩
theorem fld_bool {t : TypeId} {fs : Array Field} (ht : P.underlying t = some (.struct fs)) {fuel : Nat} {cs : List Value} {x : DataW H × List MemPlace} (h : trod0 enc P w fuel t cs = some x) {i : Nat} {f : Field} (hf : fs[i]? = some f) (hk : P.underlying f.type = some .bool) (hc : P.cellsOf f.type = 1) :
  ∃ b, cs[f.offset]? = some (.bool b) := by
 obtain ⟨xs, n, _, _, _, hl, hg⟩ := DataW.trod_struct ht h
 have h1 := hg i f hf
 have hi : i < xs.length := by rw [hl]; exact (Array.getElem?_eq_some_iff.1 hf).1
 rw [List.getElem?_eq_getElem hi] at h1
 obtain ⟨m, hm, _⟩ := DataW.trod_bool hk h1
 rw [hc] at hm
 exact ⟨m, take1 hm⟩
structure FI (P : Program) (fs : Array Field) (i o : Nat) (k : IntKind) : Prop where
 f : ∃ f, fs[i]? = some f /\ f.offset = o /\ P.underlying f.type = some (.int k) /\ P.cellsOf f.type = 1
structure FB (P : Program) (fs : Array Field) (i o : Nat) : Prop where
 f : ∃ f, fs[i]? = some f /\ f.offset = o /\ P.underlying f.type = some .bool /\ P.cellsOf f.type = 1
theorem FI.get {t : TypeId} {fs : Array Field} {i o : Nat} {k : IntKind} (hf : FI P fs i o k) (ht : P.underlying t = some (.struct fs)) {fuel : Nat} {cs : List Value} {x : DataW H × List MemPlace} (h : trod0 enc P w fuel t cs = some x) : ∃ n, cs[o]? = some (.int k n) := by
 obtain ⟨f, h1, rfl, h2, h3⟩ := hf.f
 exact fld_int ht h h1 h2 h3
theorem FB.get {t : TypeId} {fs : Array Field} {i o : Nat} (hf : FB P fs i o) (ht : P.underlying t = some (.struct fs)) {fuel : Nat} {cs : List Value} {x : DataW H × List MemPlace} (h : trod0 enc P w fuel t cs = some x) : ∃ n, cs[o]? = some (.bool n) := by
 obtain ⟨f, h1, rfl, h2, h3⟩ := hf.f
 exact fld_bool ht h h1 h2 h3
open S
theorem reads_bs {t : TypeId} {fs : Array Field} (ht : P.underlying t = some (.struct fs)) (hc : P.cellsOf t = 2) (h0 : FB P fs 0 0) (h1 : FI P fs 1 1 .i64) : Reads enc P w t Bs.c := by
 refine ⟨fun a v hv => by simp at hv; rcases hv with rfl | rfl <;> rfl, fun a => by rw [hc]; rfl, fun fuel cs x h => ?_⟩
 obtain ⟨_, _, _, _, hl, _⟩ := DataW.trod_struct ht h
 obtain ⟨b, g0⟩ := h0.get ht h
 obtain ⟨n, g1⟩ := h1.get ht h
 rw [hc] at hl
 match cs, hl, g0, g1 with
 | [u0, u1], _, g0, g1 =>
  cases g0; cases g1
  exact ⟨⟨b, n⟩, .cons (.bool _) (.cons (.int _ _) .nil)⟩
theorem reads_mv {t : TypeId} {fs : Array Field} (ht : P.underlying t = some (.struct fs)) (hc : P.cellsOf t = 4) (h0 : FI P fs 0 0 .i64) (h1 : FI P fs 1 1 .i64) (h2 : FI P fs 2 2 .u8) (h3 : FI P fs 3 3 .i64) : Reads enc P w t Mv.c := by
 refine ⟨fun a v hv => by simp at hv; rcases hv with rfl | rfl | rfl | rfl <;> rfl, fun a => by rw [hc]; rfl, fun fuel cs x h => ?_⟩
 obtain ⟨_, _, _, _, hl, _⟩ := DataW.trod_struct ht h
 obtain ⟨a0, g0⟩ := h0.get ht h
 obtain ⟨a1, g1⟩ := h1.get ht h
 obtain ⟨a2, g2⟩ := h2.get ht h
 obtain ⟨a3, g3⟩ := h3.get ht h
 rw [hc] at hl
 match cs, hl, g0, g1, g2, g3 with
 | [u0, u1, u2, u3], _, g0, g1, g2, g3 =>
  cases g0; cases g1; cases g2; cases g3
  exact ⟨⟨a0, a1, a2, a3⟩, .cons (.int _ _) (.cons (.int _ _) (.cons (.int _ _) (.cons (.int _ _) .nil)))⟩
theorem fld_sub {t : TypeId} {fs : Array Field} (ht : P.underlying t = some (.struct fs)) {fuel : Nat} {cs : List Value} {x : DataW H × List MemPlace} (h : trod0 enc P w fuel t cs = some x) {i : Nat} {f : Field} (hf : fs[i]? = some f) : ∃ n y, trod0 enc P w n f.type ((cs.drop f.offset).take (P.cellsOf f.type)) = some y := by
 obtain ⟨xs, n, _, _, _, hl, hg⟩ := DataW.trod_struct ht h
 have h1 := hg i f hf
 have hi : i < xs.length := by rw [hl]; exact (Array.getElem?_eq_some_iff.1 hf).1
 rw [List.getElem?_eq_getElem hi] at h1
 exact ⟨n, _, h1⟩
structure FS (enc : TypeId × Value -> H) (P : Program) (w : World) (fs : Array Field) (i o : Nat) {α : Type} (c : α -> List HV) : Prop where
 f : ∃ f e, fs[i]? = some f /\ f.offset = o /\ P.underlying f.type = some (.slice e) /\ P.cellsOf f.type = 1 /\ 0 < P.cellsOf e /\ Reads enc P w e c
theorem FS.get {t : TypeId} {fs : Array Field} {i o : Nat} {α : Type} {c : α -> List HV} (hf : FS enc P w fs i o c) (ht : P.underlying t = some (.struct fs)) {fuel : Nat} {cs : List Value} {x : DataW H × List MemPlace} (h : trod0 enc P w fuel t cs = some x) :
  ∃ (rows : List α) (v : Value), cs[o]? = some v /\ HR0 w (.psl (rows.map c)) v := by
 obtain ⟨f, e, h1, rfl, h2, h3, h4, h5⟩ := hf.f
 obtain ⟨n, y, hy⟩ := fld_sub ht h h1
 obtain ⟨rows, v, hv, hr⟩ := h5.slice h2 h4 n _ y hy
 rw [h3] at hv
 exact ⟨rows, v, take1 hv, hr⟩
structure FP (enc : TypeId × Value -> H) (P : Program) (w : World) (fs : Array Field) (i o : Nat) : Prop where
 f : ∃ f, fs[i]? = some f /\ f.offset = o /\ P.cellsOf f.type = 2 /\ Reads enc P w f.type Bs.c
theorem FP.get {t : TypeId} {fs : Array Field} {i o : Nat} (hf : FP enc P w fs i o) (ht : P.underlying t = some (.struct fs)) {fuel : Nat} {cs : List Value} {x : DataW H × List MemPlace} (h : trod0 enc P w fuel t cs = some x) :
  ∃ b : Bs, HRs0 w b.c ((cs.drop o).take 2) := by
 obtain ⟨f, h1, rfl, h2, h3⟩ := hf.f
 obtain ⟨n, y, hy⟩ := fld_sub ht h h1
 obtain ⟨b, hb⟩ := h3.2.2 n _ y hy
 rw [h2] at hb
 exact ⟨b, hb⟩
theorem reads_ty {t : TypeId} {fs : Array Field} (ht : P.underlying t = some (.struct fs)) (hc : P.cellsOf t = 3) (h0 : FS enc P w fs 0 0 Bs.c) (h1 : FP enc P w fs 1 1) : Reads enc P w t Ty.c := by
 refine ⟨fun a v hv => by simp at hv; rcases hv with rfl | rfl | rfl <;> rfl, fun a => by rw [hc]; rfl, fun fuel cs x h => ?_⟩
 obtain ⟨_, _, _, _, hl, _⟩ := DataW.trod_struct ht h
 obtain ⟨ps, v, g0, hv⟩ := h0.get ht h
 obtain ⟨b, hb⟩ := h1.get ht h
 rw [hc] at hl
 match cs, hl, g0, hb with
 | [u0, u1, u2], _, g0, hb =>
  cases g0
  exact ⟨⟨ps, b⟩, .cons hv hb⟩
theorem reads_ar {t : TypeId} {fs : Array Field} (ht : P.underlying t = some (.struct fs)) (hc : P.cellsOf t = 4) (h0 : FS enc P w fs 0 0 Ty.c) (h1 : FP enc P w fs 1 1) (h2 : FB P fs 2 3) : Reads enc P w t Ar.c := by
 refine ⟨fun a v hv => by simp at hv; rcases hv with rfl | rfl | rfl | rfl <;> rfl, fun a => by rw [hc]; rfl, fun fuel cs x h => ?_⟩
 obtain ⟨_, _, _, _, hl, _⟩ := DataW.trod_struct ht h
 obtain ⟨ids, v, g0, hv⟩ := h0.get ht h
 obtain ⟨b, hb⟩ := h1.get ht h
 obtain ⟨j, g3⟩ := h2.get ht h
 rw [hc] at hl
 match cs, hl, g0, hb, g3 with
 | [u0, u1, u2, u3], _, g0, hb, g3 =>
  cases g0; cases g3
  exact ⟨⟨ids, b, j⟩, .cons hv (HRs.append (l := b.c) (l' := [.bool j]) hb (.cons (.bool _) .nil))⟩
end
open Go Go.ChangeShapes
section
variable {H : Type} {enc : TypeId × Value -> H} {P : Program} {w : World}
open S
theorem args_inside {ta ti tw e : TypeId} {fs : Array Field} {base : Nat} {args : Array Value} {ds : List (DataW H)} {p : List MemPlace}
  (hA : DataW.TrodAll enc P w 0 (fun _ => true) true [ta, ti, tw] args.toList ds p)
  (ho : ∀ (j : Nat) t v, #[ta, ti, tw][j]? = some t -> args[j]? = some v -> Value.okWide P w .any base t v)
  (hta : P.underlying ta = some (.struct fs)) (hra : Reads enc P w ta Ar.c) (hti : P.underlying ti = some (.int .u8)) (htw : P.underlying tw = some (.slice e)) (hpos : 0 < P.cellsOf e) (hre : Reads enc P w e Mv.c) :
  ∃ (a : Ar) (id : Int) (m : List Mv), (0 <= id /\ id <= 255) /\ HRs0 w [.agg a.c, .int .u8 id, .psl (m.map Mv.c)] args.toList := by
 obtain ⟨v1, v2, v3, d1, d2, d3, p1, p2, p3, rfl, rfl, rfl, h1, h2, h3⟩ := trodAll_three hA
 have o1 := ho 0 ta v1 rfl rfl
 have o2 := ho 1 ti v2 rfl rfl
 have o3 := ho 2 tw v3 rfl rfl
 unfold Value.okWide at o1 o2 o3
 rw [hta] at o1; rw [hti] at o2; rw [htw] at o3
 obtain ⟨cs, rfl, _, _⟩ := o1
 have o2 : Cell.okWide P w .any base ti v2 := o2
 have o3 : Cell.okWide P w .any base tw v3 := o3
 have n2 : v2.cells = #[v2] := by
  cases v2 with
  | agg c => exfalso; unfold Cell.okWide Cell.ok at o2; rw [hti] at o2; exact o2
  | _ => rfl
 have n3 : v3.cells = #[v3] := by
  cases v3 with
  | agg c => exfalso; unfold Cell.okWide Cell.ok at o3; rw [htw] at o3; exact o3
  | _ => rfl
 obtain ⟨f1, h1⟩ := h1
 obtain ⟨f2, h2⟩ := h2
 obtain ⟨f3, h3⟩ := h3
 have h1 : trod0 enc P w f1 ta cs.toList = some (d1, p1) := h1
 obtain ⟨a, ha⟩ := hra.2.2 _ _ _ h1
 obtain ⟨id, hid, _, hwf⟩ := DataW.trod_int hti h2
 obtain ⟨m, v, hv, hm⟩ := hre.slice htw hpos _ _ _ h3
 rw [n2] at hid
 rw [n3] at hv
 cases hid; cases hv
 exact ⟨a, id, m, by simpa [Lit.wf, IntKind.min, IntKind.max, IntKind.signed, IntKind.bits] using hwf, .cons (.agg _ cs (hra.1 a) (by simpa using ha.1) (fun i v u h1 h2 => ha.2 i v u h1 (by simpa using h2))) (.cons (.int _ _) (.cons hm .nil))⟩
end
end Go.Proofs.YtclepinjnoiakaaGreatDoor.K.Hm
namespace Go.Proofs.YtclepinjnoiakaaGreatDoor.K
open Go Go.RowKit
theorem insideTrue {P : Program} {L : Hm.Libs} (F : Hm.LibFacts P L) (hL : { L with tru := some 12 } = Hm.S.LU) {prog0 : Nat -> Option Hm.HF} (hm : P.follows .mixedOrders = true) (hprog : ∀ f F, Hm.U.prog f = some F -> Hm.chkF P f F = true) (hprog0 : ∀ f F, prog0 f = some F -> Hm.chkF P f F = true)
  {n0 : Nat} (h0 : Hm.isTrue (Hm.run { L with tru := none } prog0 n0 (.call 12 [] Hm.s0)) = true) {W : World} (ht : Lib.TabIs P W "internal/strconv.uint64pow10" .u64 Lib.pow10Tab) {a : Hm.S.Ar} {id : Int} (hid : 0 <= id /\ id <= 255) {m : List Hm.S.Mv} {vs : List Value}
  (hvs : Hm.HRs0 W [.agg a.c, Hm.HV.int .u8 id, .psl (m.map Hm.S.Mv.c)] vs) : Calls P 5 vs.toArray W fun e W' => e = .returned (.bool true) /\ Below W.heap.size W W' := by
 obtain ⟨n, h⟩ := Hm.run_of_lim (Hm.S.pactInside a id hid m Hm.s0) trivial
 exact Hm.open_calls F hm hprog hprog0 h0 (by rw [hL]; exact h) ht hvs
end Go.Proofs.YtclepinjnoiakaaGreatDoor.K
