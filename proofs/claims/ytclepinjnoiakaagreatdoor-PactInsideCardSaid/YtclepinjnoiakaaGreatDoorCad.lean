/- PactInside returns true for every arena, number and word. Conditions: the statement's own alone, part 4 of the proof. -/
import Derived.Test.YtclepinjnoiakaaGreatDoorCac
set_option linter.all false
namespace Go.Proofs.YtclepinjnoiakaaGreatDoor.K.Hm.S
open Go
section
variable {R : Task -> Out} {e : En} {s : HS}
@[simp] theorem rv_some {v : HV} : rv s (some v) = .v v s := rfl
@[simp] theorem rv_none : rv s none = .bad := rfl
@[simp] theorem rv_ite {p : Prop} [Decidable p] {x y : Option HV} : rv s (if p then x else y) = if p then rv s x else rv s y := by split <;> rfl
@[simp] theorem lenL_len {α : Type} (l : List α) : lenL l = l.length := lenL_eq l
@[simp] theorem nth_get {α : Type} (l : List α) (k : Nat) : nth l k = l[k]? := nth_eq l k
@[simp] theorem takeN_take {α : Type} (n : Nat) (l : List α) : takeN n l = l.take n := takeN_eq n l
@[simp] theorem dropN_drop {α : Type} (n : Nat) (l : List α) : dropN n l = l.drop n := dropN_eq n l
theorem wrapF_id {n : Int} (h1 : -9223372036854775808 <= n) (h2 : n < 9223372036854775808) : wrapF .i64 n = n := by
 cases n with
 | ofNat m =>
  have h : m < 9223372036854775808 := by have := h2; simp only [Int.ofNat_eq_natCast] at this; omega
  have hb : Nat.blt m 9223372036854775808 = true := by rw [nblt_dec]; simpa using h
  show (bif Nat.blt m 9223372036854775808 then Int.ofNat m else _) = _
  rw [hb]; rfl
 | negSucc m =>
  have h : m < 9223372036854775808 := by omega
  have hb : Nat.blt m 9223372036854775808 = true := by rw [nblt_dec]; simpa using h
  show (bif Nat.blt m 9223372036854775808 then Int.negSucc m else _) = _
  rw [hb]; rfl
theorem wrap1 {i n : Nat} (h : i < n) (hn : n <= 4611686018427387904) : wrapF .i64 ((i : Int) + 1) = (i : Int) + 1 := wrapF_id (by omega) (by omega)
@[simp] theorem addI_add (a b : Int) : addI a b = a + b := by
 cases a <;> cases b <;> rfl
@[simp] theorem subI_sub (a b : Int) : subI a b = a - b := by
 cases a with
 | negSucc => rfl
 | ofNat a =>
  cases b with
  | negSucc => rfl
  | ofNat b =>
   show (bif Nat.ble b a then Int.ofNat (a - b) else Int.negSucc (b - (a + 1))) = _
   rw [nble_dec]
   by_cases h : b <= a
   ·simp [h]; omega
   ·simp [h]; omega
theorem beqI_dec (a b : Int) : beqI a b = decide (a = b) := by
 rw [Bool.eq_iff_iff, beqI_iff]; simp
theorem bleI_dec (a b : Int) : bleI a b = decide (a <= b) := by
 cases a with
 | ofNat a => cases b with
  | ofNat b =>
   show Nat.ble a b = _
   rw [nble_dec]; simp
  | negSucc b =>
   show false = _
   symm; simp only [decide_eq_false_iff_not, Int.ofNat_eq_natCast]; omega
 | negSucc a => cases b with
  | ofNat b =>
   show true = _
   symm; simp only [decide_eq_true_eq, Int.ofNat_eq_natCast]; omega
  | negSucc b =>
   show Nat.ble b a = _
   rw [nble_dec]
   rw [Bool.eq_iff_iff]; simp only [decide_eq_true_eq]; omega
theorem beqL_dec (a b : List Nat) : beqL a b = decide (a = b) := by
 rw [Bool.eq_iff_iff, beqL_iff]; simp
@[simp] theorem hop_mv {x : X} : hop (.mv x) e s = rv s (opd x e) := rfl
noncomputable def pickV (c : Option HV) (a b : Res) : Res := opt c (fun v => v.asBool a b .bad) .bad
@[simp] theorem pickV_b {q : Bool} {a b : Res} : pickV (some (.bool q)) a b = if q = true then a else b := by cases q <;> rfl
@[simp] theorem hop_pick {c a b : X} : hop (.pick c a b) e s = pickV (opd c e) (rv s (opd a e)) (rv s (opd b e)) := rfl
@[simp] theorem hop_alloc {z : List HV} : hop (.alloc z) e s = s.new z (fun o => .ptr o 0) := rfl
noncomputable def boxV (v : Option HV) (s : HS) : Res := opt v (fun v => opt (cellsOf v) (fun l => s.new l (fun o => .ptr o 0)) .bad) .bad
@[simp] theorem hop_box {x : X} : hop (.box x) e s = boxV (opd x e) s := rfl
noncomputable def fbxV (v : Option HV) (s : HS) : Res := opt v (fun v => opt (cellsOf v) (fun l => .v (.pptr l) s) .bad) .bad
@[simp] theorem hop_fbx {x : X} : hop (.fbx x) e s = fbxV (opd x e) s := rfl
@[simp] theorem cells_agg {l : List HV} : cellsOf (.agg l) = some l := rfl
@[simp] theorem cells_int {k : IntKind} {n : Int} : cellsOf (.int k n) = some [.int k n] := rfl
@[simp] theorem cells_bool {b : Bool} : cellsOf (.bool b) = some [.bool b] := rfl
@[simp] theorem cells_str {b : List Nat} : cellsOf (.str b) = some [.str b] := rfl
@[simp] theorem cells_nils : cellsOf .nils = some [.nils] := rfl
@[simp] theorem cells_nilp : cellsOf .nilp = some [.nilp] := rfl
@[simp] theorem cells_psl {l : List (List HV)} : cellsOf (.psl l) = some [.psl l] := rfl
@[simp] theorem cells_pptr {l : List HV} : cellsOf (.pptr l) = some [.pptr l] := rfl
@[simp] theorem cells_sl {o : Ky} {a b c : Nat} : cellsOf (.sl o a b c) = some [.sl o a b c] := rfl
@[simp] theorem cells_ptr {o : Ky} {a : Nat} : cellsOf (.ptr o a) = some [.ptr o a] := rfl
@[simp] theorem cells_mp {o : Ky} : cellsOf (.mp o) = some [.mp o] := rfl
@[simp] theorem cells_fn {f : Nat} {a b : List HV} : cellsOf (.fn f a b) = some [.fn f a b] := rfl
@[simp] theorem fbxV_some {v : HV} : fbxV (some v) s = opt (cellsOf v) (fun l => .v (.pptr l) s) .bad := rfl
@[simp] theorem boxV_some {v : HV} : boxV (some v) s = opt (cellsOf v) (fun l => s.new l (fun o => .ptr o 0)) .bad := rfl
@[simp] theorem pieces_nil : pieces e [] = some [] := rfl
noncomputable def pieceV (v : Option HV) (n : Nat) (r : Option (List HV)) : Option (List HV) := match v with | some v => (match cellsOf v, r with | some l, some m => bif Nat.beq (lenL l) n then some (l ++ m) else none | _, _ => none) | none => none
@[simp] theorem pieces_z {l : List HV} {r : List Pc} : pieces e (.z l :: r) = (pieces e r).map (l ++ ·) := by
 rw [pieces]; cases pieces e r <;> rfl
@[simp] theorem pieces_x {x : X} {n : Nat} {r : List Pc} : pieces e (.x x n :: r) = pieceV (opd x e) n (pieces e r) := rfl
@[simp] theorem pieceV_some {v : HV} {n : Nat} {m : List HV} : pieceV (some v) n (some m) = opt (cellsOf v) (fun l => if l.length = n then some (l ++ m) else none) none := by
 show (match cellsOf v, some m with | some l, some m => bif Nat.beq (lenL l) n then some (l ++ m) else none | _, _ => none) = _
 cases cellsOf v with
 | none => rfl
 | some l =>
  show (bif Nat.beq (lenL l) n then some (l ++ m) else none) = if l.length = n then some (l ++ m) else none
  rw [lenL_len, nbeq_dec]
  by_cases h : l.length = n <;> simp [h]
@[simp] theorem hop_build {ps : List Pc} : hop (.build ps) e s = opt (pieces e ps) (fun l => .v (.agg l) s) .bad := rfl
@[simp] theorem flat_nil {n : Nat} : flat n [] = some [] := rfl
@[simp] theorem flat_cons {n : Nat} {v : HV} {r : List HV} : flat n (v :: r) = pieceV (some v) n (flat n r) := rfl
@[simp] theorem rowsV_nil {n : Nat} : rowsV n [] = some [] := rfl
@[simp] theorem rowsV_cons {n : Nat} {v : HV} {r : List HV} : rowsV n (v :: r) = opt (cellsOf v) (fun l => opt (rowsV n r) (fun m => if l.length = n then some (l :: m) else none) none) none := by
 rw [rowsV]
 cases cellsOf v with
 | none => rfl
 | some l => cases rowsV n r with
  | none => rfl
  | some m => simp [nbeq_dec]
@[simp] theorem hop_bsl {sz : Nat} {xs : List X} : hop (.bsl sz xs) e s = opt (opds xs e) (fun l => opt (flat sz l) (fun m => s.new m (fun o => .sl o 0 xs.length sz)) .bad) .bad := by
 show opt (opds xs e) (fun l => opt (flat sz l) (fun m => s.new m (fun o => .sl o 0 (lenL xs) sz)) .bad) .bad = _
 rw [lenL_len]
@[simp] theorem hop_fbl {sz : Nat} {xs : List X} : hop (.fbl sz xs) e s = opt (opds xs e) (fun l => opt (rowsV sz l) (fun m => .v (.psl m) s) .bad) .bad := rfl
noncomputable def ldV (v : Option HV) (n : Option Nat) (s : HS) : Res := opt v (fun v => v.asPtr (fun o k => rv s (s.load o k n)) (rv s (loadP v n))) .bad
@[simp] theorem hop_ld {x : X} {n : Option Nat} : hop (.ld x n) e s = ldV (opd x e) n s := rfl
@[simp] theorem ldV_ptr {o : Ky} {k : Nat} {n : Option Nat} : ldV (some (.ptr o k)) n s = rv s (s.load o k n) := rfl
@[simp] theorem ldV_pn {c : List HV} {n : Nat} : ldV (some (.pptr c)) (some n) s = if n <= c.length then .v (.agg (c.take n)) s else .bad := by
 show rv s (ife (Nat.ble n (lenL c)) (some (.agg (takeN n c))) none) = _
 simp [nble_dec]
@[simp] theorem ldV_p1 {c : List HV} : ldV (some (.pptr c)) none s = rv s c[0]? := by
 show rv s (nth c 0) = _
 rw [nth_get]
noncomputable def stV (n : Nat) (p v : Option HV) (s : HS) : Res := opt p (fun p => p.asPtr (fun o k => opt v (fun v => opt (cellsOf v) (fun l => ife (Nat.beq (lenL l) n) (opt (s.store o k l) (fun s' => .v .undef s') .bad) .bad) .bad) .bad) .bad) .bad
@[simp] theorem hop_st {n : Nat} {a x : X} : hop (.st n a x) e s = stV n (opd a e) (opd x e) s := rfl
@[simp] theorem stV_ptr {n : Nat} {o : Ky} {k : Nat} {v : HV} : stV n (some (.ptr o k)) (some v) s = opt (cellsOf v) (fun l => if l.length = n then opt (s.store o k l) (fun s' => .v .undef s') .bad else .bad) .bad := by
 show opt (cellsOf v) (fun l => ife (Nat.beq (lenL l) n) (opt (s.store o k l) (fun s' => Res.v .undef s') .bad) .bad) Res.bad = _
 simp [nbeq_dec]
noncomputable def faV (v : Option HV) (off : Nat) (s : HS) : Res := opt v (fun v => v.asPtr (fun o k => .v (.ptr o (Nat.add k off)) s) (rv s (faP v off))) .bad
@[simp] theorem hop_fa {x : X} {n : Nat} : hop (.fa x n) e s = faV (opd x e) n s := rfl
@[simp] theorem faV_ptr {o : Ky} {k n : Nat} : faV (some (.ptr o k)) n s = .v (.ptr o (k + n)) s := rfl
@[simp] theorem faV_p {c : List HV} {n : Nat} : faV (some (.pptr c)) n s = if n <= c.length then .v (.pptr (c.drop n)) s else .bad := by
 show rv s (ife (Nat.ble n (lenL c)) (some (.pptr (dropN n c))) none) = _
 simp [nble_dec]
noncomputable def iaV (v i : Option HV) (sz : Nat) (s : HS) : Res := opt v (fun v => v.asSl (fun o off len sz' => opt i (fun q => q.asInt (fun _ z => Int.rec (motive := fun _ => Res) (fun n => ife (Nat.blt n len) (ife (Nat.beq sz sz') (.v (.ptr o (Nat.add off (Nat.mul n sz))) s) .bad) .bad) (fun _ => .bad) z) .bad) .bad) (rv s (iaP v i sz))) .bad
@[simp] theorem hop_ia {x i : X} {sz : Nat} : hop (.ia x i sz) e s = iaV (opd x e) (opd i e) sz s := rfl
@[simp] theorem iaV_p {els : List (List HV)} {k : IntKind} {n sz : Nat} : iaV (some (.psl els)) (some (.int k (n : Int))) sz s = opt els[n]? (fun r => if r.length = sz then .v (.pptr r) s else .bad) .bad := by
 show rv s (match nth els n with | some r => ife (Nat.beq (lenL r) sz) (some (HV.pptr r)) none | none => none) = _
 rw [nth_get]
 cases els[n]? with
 | none => rfl
 | some r => simp [nbeq_dec]
@[simp] theorem iaV_s {o : Ky} {off len sz' : Nat} {k : IntKind} {n sz : Nat} : iaV (some (.sl o off len sz')) (some (.int k (n : Int))) sz s = if n < len then if sz = sz' then .v (.ptr o (off + n * sz)) s else .bad else .bad := by
 show ife (Nat.blt n len) (ife (Nat.beq sz sz') (Res.v (.ptr o (Nat.add off (Nat.mul n sz))) s) .bad) .bad = _
 simp [nbeq_dec, nblt_dec]
@[simp] theorem iaV_p0 {els : List (List HV)} {k : IntKind} {sz : Nat} : iaV (some (.psl els)) (some (.int k 0)) sz s = opt els[0]? (fun r => if r.length = sz then .v (.pptr r) s else .bad) .bad := iaV_p (n := 0)
@[simp] theorem iaV_s0 {o : Ky} {off len sz' : Nat} {k : IntKind} {sz : Nat} : iaV (some (.sl o off len sz')) (some (.int k 0)) sz s = if 0 < len then if sz = sz' then .v (.ptr o (off + 0 * sz)) s else .bad else .bad := iaV_s (n := 0)
noncomputable def lenR (k : Nat) (v : Option HV) (s : HS) : Res := opt v (fun v => opt (lenV k s v) (fun n => .v (.int .i64 (.ofNat n)) s) .bad) .bad
@[simp] theorem hop_len {k : Nat} {x : X} : hop (.len k x) e s = lenR k (opd x e) s := rfl
@[simp] theorem lenR_psl {l : List (List HV)} : lenR 0 (some (.psl l)) s = .v (.int .i64 (l.length : Int)) s := by
 show Res.v (.int .i64 (.ofNat (lenL l))) s = _
 rw [lenL_len]; rfl
@[simp] theorem lenR_nils : lenR 0 (some .nils) s = .v (.int .i64 0) s := rfl
@[simp] theorem lenR_sl {o : Ky} {a n c : Nat} : lenR 0 (some (.sl o a n c)) s = .v (.int .i64 (n : Int)) s := rfl
@[simp] theorem lenR_str {l : List Nat} : lenR 1 (some (.str l)) s = .v (.int .i64 (l.length : Int)) s := by
 show Res.v (.int .i64 (.ofNat (lenL l))) s = _
 rw [lenL_len]; rfl
noncomputable def binR (bl : Bool) (op : BinOp) (a b : Option HV) (s : HS) : Res := opt a (fun a => opt b (fun b => rv s (binH bl op a b)) .bad) .bad
@[simp] theorem hop_bin {bl : Bool} {op : BinOp} {x y : X} : hop (.bin bl op x y) e s = binR bl op (opd x e) (opd y e) s := rfl
@[simp] theorem bin_add {k : IntKind} {a b : Int} : binR false .add (some (.int k a)) (some (.int k b)) s = .v (.int k (wrapF k (a + b))) s := by
 show rv s (bif decide (k = k) then some (.int k (wrapF k (addI a b))) else none) = _
 simp
@[simp] theorem bin_sub {k : IntKind} {a b : Int} : binR false .sub (some (.int k a)) (some (.int k b)) s = .v (.int k (wrapF k (a - b))) s := by
 show rv s (bif decide (k = k) then some (.int k (wrapF k (subI a b))) else none) = _
 simp
@[simp] theorem bin_mul {k : IntKind} {a b : Int} : binR false .mul (some (.int k a)) (some (.int k b)) s = .v (.int k (wrapF k (a * b))) s := by
 show rv s (bif decide (k = k) then some (.int k (wrapF k (a * b))) else none) = _
 simp
@[simp] theorem bin_eql {k : IntKind} {a b : Int} : binR false .eql (some (.int k a)) (some (.int k b)) s = .v (.bool (decide (a = b))) s := by
 show rv s (bif decide (k = k) then some (.bool (beqI a b)) else none) = _
 simp [beqI_dec]
@[simp] theorem bin_neq {k : IntKind} {a b : Int} : binR false .neq (some (.int k a)) (some (.int k b)) s = .v (.bool (!decide (a = b))) s := by
 show rv s (bif decide (k = k) then some (.bool (!beqI a b)) else none) = _
 simp [beqI_dec]
@[simp] theorem bin_lss {k : IntKind} {a b : Int} : binR false .lss (some (.int k a)) (some (.int k b)) s = .v (.bool (decide (a < b))) s := by
 show rv s (bif decide (k = k) then some (.bool (!bleI b a)) else none) = _
 simp only [decide_true, cond_true, rv_some, bleI_dec]
 rw [show (!decide (b <= a)) = decide (a < b) by by_cases h : a < b <;> simp [h] <;> omega]
@[simp] theorem bin_leq {k : IntKind} {a b : Int} : binR false .leq (some (.int k a)) (some (.int k b)) s = .v (.bool (decide (a <= b))) s := by
 show rv s (bif decide (k = k) then some (.bool (bleI a b)) else none) = _
 simp [bleI_dec]
@[simp] theorem bin_gtr {k : IntKind} {a b : Int} : binR false .gtr (some (.int k a)) (some (.int k b)) s = .v (.bool (decide (b < a))) s := by
 show rv s (bif decide (k = k) then some (.bool (!bleI a b)) else none) = _
 simp only [decide_true, cond_true, rv_some, bleI_dec]
 rw [show (!decide (a <= b)) = decide (b < a) by by_cases h : b < a <;> simp [h] <;> omega]
@[simp] theorem bin_geq {k : IntKind} {a b : Int} : binR false .geq (some (.int k a)) (some (.int k b)) s = .v (.bool (decide (b <= a))) s := by
 show rv s (bif decide (k = k) then some (.bool (bleI b a)) else none) = _
 simp [bleI_dec]
@[simp] theorem bin_beql {a b : Bool} : binR true .eql (some (.bool a)) (some (.bool b)) s = .v (.bool (a == b)) s := rfl
@[simp] theorem bin_bneq {a b : Bool} : binR true .neq (some (.bool a)) (some (.bool b)) s = .v (.bool (a != b)) s := rfl
@[simp] theorem bin_seql {a b : List Nat} : binR false .eql (some (.str a)) (some (.str b)) s = .v (.bool (decide (a = b))) s := by
 show rv s (some (.bool (beqL a b))) = _
 rw [beqL_dec]; rfl
@[simp] theorem bin_sneq {a b : List Nat} : binR false .neq (some (.str a)) (some (.str b)) s = .v (.bool (!decide (a = b))) s := by
 show rv s (some (.bool (!beqL a b))) = _
 rw [beqL_dec]; rfl
noncomputable def unR (op : UnOp) (v : Option HV) (s : HS) : Res := match v with
  | some (.bool b) => (match op with | .not => .v (.bool (!b)) s | _ => .bad)
  | some (.int k n) => (match op with | .neg => .v (.int k (wrapF k (0 - n))) s | _ => .bad)
  | _ => .bad
@[simp] theorem hop_un {op : UnOp} {x : X} : hop (.un op x) e s = unR op (opd x e) s := rfl
@[simp] theorem un_not {b : Bool} : unR .not (some (.bool b)) s = .v (.bool (!b)) s := rfl
@[simp] theorem un_neg {k : IntKind} {n : Int} : unR .neg (some (.int k n)) s = .v (.int k (wrapF k (0 - n))) s := rfl
@[simp] theorem hop_mkf {g : Nat} {fs cs : List X} : hop (.mkf g fs cs) e s = opt (opds fs e) (fun a => opt (opds cs e) (fun b => .v (.fn g a b) s) .bad) .bad := rfl
noncomputable def extR (v : Option HV) (i : Nat) (s : HS) : Res := opt v (fun v => v.asTup (fun l => rv s (nth l i)) .bad) .bad
@[simp] theorem hop_ext {x : X} {i : Nat} : hop (.ext x i) e s = extR (opd x e) i s := rfl
@[simp] theorem extR_tup {l : List HV} {i : Nat} : extR (some (.tup l)) i s = rv s l[i]? := by
 show rv s (nth l i) = _
 rw [nth_get]
noncomputable def nckR (v : Option HV) (s : HS) : Res := opt v (fun v => v.asPtr (fun o k => .v (.ptr o k) s) (match v with | .pptr c => .v (.pptr c) s | _ => .bad)) .bad
@[simp] theorem hop_nck {x : X} : hop (.nck x) e s = nckR (opd x e) s := rfl
@[simp] theorem nck_ptr {o : Ky} {k : Nat} : nckR (some (.ptr o k)) s = .v (.ptr o k) s := rfl
@[simp] theorem nck_pptr {c : List HV} : nckR (some (.pptr c)) s = .v (.pptr c) s := rfl
noncomputable def mmR (m : Bool) (a b : Option HV) (s : HS) : Res := match a, b with
  | some (.int k a), some (.int _ b) => .v (.int k (bif m then (bif bleI a b then b else a) else (bif bleI a b then a else b))) s
  | _, _ => .bad
@[simp] theorem hop_mm {m : Bool} {x y : X} : hop (.mm m x y) e s = mmR m (opd x e) (opd y e) s := rfl
@[simp] theorem mm_max {k j : IntKind} {a b : Int} : mmR true (some (.int k a)) (some (.int j b)) s = .v (.int k (max a b)) s := by
 show Res.v (.int k (bif true then (bif bleI a b then b else a) else (bif bleI a b then a else b))) s = _
 rw [bleI_dec]
 by_cases h : a <= b
 ·simp [h, Int.max_eq_right h]
 ·simp [h, Int.max_eq_left (Int.le_of_lt (Int.not_le.1 h))]
@[simp] theorem mm_min {k j : IntKind} {a b : Int} : mmR false (some (.int k a)) (some (.int j b)) s = .v (.int k (min a b)) s := by
 show Res.v (.int k (bif false then (bif bleI a b then b else a) else (bif bleI a b then a else b))) s = _
 rw [bleI_dec]
 by_cases h : a <= b
 ·simp [h, Int.min_eq_left h]
 ·simp [h, Int.min_eq_right (Int.le_of_lt (Int.not_le.1 h))]
@[simp] theorem hop_call {f : Nat} {xs : List X} : hop (.call f xs) e s = opt (opds xs e) (fun l => .call f l) .bad := rfl
noncomputable def dynR (v : Option HV) (l : Option (List HV)) : Res := match v, l with
  | some (.fn f a b), some l => .call f (a ++ l ++ b)
  | some (.yld r), some l => .round r l
  | _, _ => .bad
@[simp] theorem hop_dyn {x : X} {xs : List X} : hop (.dyn x xs) e s = dynR (opd x e) (opds xs e) := rfl
@[simp] theorem dyn_fn {f : Nat} {a b l : List HV} : dynR (some (.fn f a b)) (some l) = .call f (a ++ l ++ b) := rfl
@[simp] theorem dyn_yld {r : Ky} {l : List HV} : dynR (some (.yld r)) (some l) = .round r l := rfl
noncomputable def eqsR (K : Kd) (neg : Bool) (a b : Option HV) (s : HS) : Res := match a, b with | some a, some b => (match eqK K a b with | some q => .v (.bool (q != neg)) s | none => .bad) | _, _ => .bad
@[simp] theorem hop_eqs {K : Kd} {neg : Bool} {x y : X} : hop (.eqs K neg x y) e s = eqsR K neg (opd x e) (opd y e) s := rfl
@[simp] theorem eqsR_some {K : Kd} {neg : Bool} {x y : HV} : eqsR K neg (some x) (some y) s = opt (eqK K x y) (fun q => .v (.bool (q != neg)) s) .bad := by
 show (match eqK K x y with | some q => Res.v (.bool (q != neg)) s | none => .bad) = _
 cases eqK K x y <;> rfl
noncomputable def niqR (k : Nat) (neg : Bool) (v : Option HV) (s : HS) : Res := opt v (fun v => opt (isNil k v) (fun q => .v (.bool (q != neg)) s) .bad) .bad
@[simp] theorem hop_niq {k : Nat} {neg : Bool} {x : X} : hop (.niq k neg x) e s = niqR k neg (opd x e) s := rfl
@[simp] theorem niq_nilp {neg : Bool} : niqR 3 neg (some .nilp) s = .v (.bool (true != neg)) s := rfl
@[simp] theorem niq_ptr {neg : Bool} {o : Ky} {k : Nat} : niqR 3 neg (some (.ptr o k)) s = .v (.bool (false != neg)) s := rfl
@[simp] theorem niq_pptr {neg : Bool} {c : List HV} : niqR 3 neg (some (.pptr c)) s = .v (.bool (false != neg)) s := rfl
end
@[simp] theorem resOf_nil {e : En} {s : HS} : resOf e s [] = some [] := rfl
@[simp] theorem resOf_tmp {e : En} {s : HS} {n : Nat} {r : List Rs} : resOf e s (.tmp n :: r) = opt (look e n) (fun v => opt (resOf e s r) (fun l => some (v :: l)) none) none := by
 rw [resOf]
 cases look e n with
 | none => rfl
 | some v => cases resOf e s r <;> rfl
noncomputable def cellV (v : Option HV) (s : HS) (sz : Option Nat) : Option HV := match v with
  | some (.ptr o k) => s.load o k sz
  | some (.pptr c) => loadP (.pptr c) sz
  | _ => none
@[simp] theorem resOf_cell {e : En} {s : HS} {n : Nat} {sz : Option Nat} {r : List Rs} : resOf e s (.cell n sz :: r) = opt (cellV (look e n) s sz) (fun v => opt (resOf e s r) (fun l => some (v :: l)) none) none := by
 rw [resOf]
 cases look e n with
 | none => rfl
 | some v =>
  cases v <;> try rfl
  ·rename_i o k
   show (match s.load o k sz, resOf e s r with | some v, some l => some (v :: l) | _, _ => none) = opt (s.load o k sz) (fun v => opt (resOf e s r) (fun l => some (v :: l)) none) none
   cases s.load o k sz with
   | none => rfl
   | some v => cases resOf e s r <;> rfl
  ·rename_i c
   show (match loadP (.pptr c) sz, resOf e s r with | some v, some l => some (v :: l) | _, _ => none) = opt (loadP (.pptr c) sz) (fun v => opt (resOf e s r) (fun l => some (v :: l)) none) none
   cases loadP (.pptr c) sz with
   | none => rfl
   | some v => cases resOf e s r <;> rfl
@[simp] theorem cellV_ptr {o : Ky} {k : Nat} {s : HS} {sz : Option Nat} : cellV (some (.ptr o k)) s sz = s.load o k sz := rfl
def tupV : Option (List HV) -> HS -> Out
 | some [v], s => .val v s
 | some l, s => .val (.tup l) s
 | none, _ => .bad 10
@[simp] theorem tupV_1 {v : HV} {s : HS} : tupV (some [v]) s = .val v s := rfl
@[simp] theorem tupV_0 {s : HS} : tupV (some []) s = .val (.tup []) s := rfl
@[simp] theorem tupV_2 {v w : HV} {l : List HV} {s : HS} : tupV (some (v :: w :: l)) s = .val (.tup (v :: w :: l)) s := rfl
theorem leave_eq (F : HF) (e : En) (s : HS) : leave F e s = tupV (resOf e s F.rs) s := by
 unfold leave tupV
 split <;> simp_all
noncomputable def dataV (o : Out) : Option HV := match o with
 | .val v s' => (match vw s' 16 v with | some (v', _) => some v' | none => none)
 | _ => none
noncomputable def outP (rs : List Rs) (o : Out) : Option HV := match o with
 | .code (.exit _) _ _ => none
 | .code _ e s => dataV (tupV (resOf e s rs) s)
 | _ => none
@[simp] theorem outP_normal {rs : List Rs} {e : En} {s : HS} : outP rs (.code .normal e s) = dataV (tupV (resOf e s rs) s) := rfl
@[simp] theorem outP_ret {rs : List Rs} {e : En} {s : HS} : outP rs (.code .ret e s) = dataV (tupV (resOf e s rs) s) := rfl
@[simp] theorem outP_ite {rs : List Rs} {p : Prop} [Decidable p] {x y : Out} : outP rs (if p then x else y) = if p then outP rs x else outP rs y := by split <;> rfl
theorem runP_eq (F : HF) (ih : Task -> Out) (args : List HV) (h : args.length = F.np) : runP F ih args = outP F.rs (evP ih F.c (args0 args 0) s0) := by
 unfold runP
 rw [lenL_len, h, nbeq_dec]
 simp only [decide_true]
 show (match evP ih F.c (args0 args 0) s0 with
  | .code (.exit _) _ _ => none
  | .code _ e s => (match leave F e s with
   | .val v s' => (match vw s' 16 v with | some (v', _) => some v' | none => none)
   | _ => none)
  | _ => none) = _
 cases evP ih F.c (args0 args 0) s0 with
 | val => rfl
 | bad => rfl
 | code x e s =>
  cases x <;> try rfl
  ·show (match leave F e s with | .val v s' => (match vw s' 16 v with | some (v', _) => some v' | none => none) | _ => none) = _
   rw [leave_eq]; rfl
  ·show (match leave F e s with | .val v s' => (match vw s' 16 v with | some (v', _) => some v' | none => none) | _ => none) = _
   rw [leave_eq]; rfl
theorem vw_data {s : HS} {n : Nat} {v : HV} (h : isD v = true) : vw s (n + 1) v = some (v, []) := by
 show (bif isD v then some (v, []) else _) = _
 rw [h]; rfl
theorem dataV_data {s : HS} {v : HV} (h : isD v = true) : dataV (.val v s) = some v := by
 show (match vw s (15 + 1) v with | some (v', _) => some v' | none => none) = _
 rw [vw_data h]
section call
variable {L : Libs} {prog : Nat -> Option HF}
def plain (L : Libs) (f : Nat) : Bool := !(Nat.beq f L.copyCheck || Nat.beq f L.str || Nat.beq f L.fmt || (match L.tru with | some t => Nat.beq f t | none => false))
theorem lib_plain {f : Nat} {args : List HV} {s : HS} {K : Out} (h : plain L f = true) : lib L f args s K = K := by
 unfold plain at h
 simp only [Bool.not_eq_true', Bool.or_eq_false_iff] at h
 obtain ⟨⟨⟨h1, h2⟩, h3⟩, h4⟩ := h
 unfold lib
 rw [h1, h2, h3]
 cases ht : L.tru with
 | none => rfl
 | some t => rw [ht] at h4; simp only [cond_false, opt]; rw [show Nat.beq f t = false from h4]; rfl
theorem R_pure (f : Nat) (F : HF) (args : List HV) (v : HV) (s : HS) (hp : prog f = some F) (hl : plain L f = true) (hu : F.pu = true) (hn : args.length = F.np) (ha : isDL args = true) (h : outP F.rs (evP (lim L prog) F.c (args0 args 0) s0) = some v) :
  lim L prog (.call f args s) = .val v s := by
 refine lim_step ?_ trivial
 show lib L f args s (stepCall prog (lim L prog) f args s) = _
 rw [lib_plain hl]
 unfold stepCall
 rw [hp]
 simp only [opt, hu, cond_true]
 unfold stepPure
 rw [isDL_pure args ha, cond_true, ha, cond_true, runP_eq F _ _ hn, h]
 rfl
theorem R_norm (f : Nat) (F : HF) (args : List HV) (v : HV) (s s' : HS) (hp : prog f = some F) (hl : plain L f = true) (hu : F.pu = false) (hn : args.length = F.np) (h : ∃ x e s1, ev (lim L prog) F.c (args0 args 0) s = .code x e s1 /\ (x = .normal ∨ x = .ret) /\ tupV (resOf e s1 F.rs) s1 = .val v s') :
  lim L prog (.call f args s) = .val v s' := by
 refine lim_step ?_ trivial
 show lib L f args s (stepCall prog (lim L prog) f args s) = _
 rw [lib_plain hl]
 unfold stepCall
 rw [hp]
 simp only [opt, hu, cond_false]
 unfold stepNorm
 rw [lenL_len, hn, nbeq_dec]
 simp only [decide_true]
 obtain ⟨x, e, s1, h1, h2, h3⟩ := h
 rw [h1]
 rcases h2 with rfl | rfl
 ·show leave F e s1 = _
  rw [leave_eq]; exact h3
 ·show leave F e s1 = _
  rw [leave_eq]; exact h3
theorem R_true (f : Nat) (s : HS) (h : L.tru = some f) (h1 : Nat.beq f L.copyCheck = false) (h2 : Nat.beq f L.str = false) (h3 : Nat.beq f L.fmt = false) : lim L prog (.call f [] s) = .val (.bool true) s := by
 refine lim_step ?_ trivial
 show lib L f [] s _ = _
 unfold lib
 rw [h1, h2, h3, h]
 simp [opt, libTrue]
theorem R_loop {c : HC} {e : En} {s : HS} {o : Out} (h : evP (lim L prog) (.loop c) e s = o) (ho : Good o) : lim L prog (.ploop c e s) = o := lim_step h ho
theorem evP_loop {c : HC} {e : En} {s : HS} : evP (lim L prog) (.loop c) e s = (evP (lim L prog) c e s).asNormal (fun e' s' => lim L prog (.ploop c e' s')) := rfl
end call
@[simp] theorem isDL_nil : isDL [] = true := rfl
@[simp] theorem isDL_cons {v : HV} {r : List HV} : isDL (v :: r) = (isD v && isDL r) := by rw [isDL]
@[simp] theorem isD_int {k : IntKind} {n : Int} : isD (.int k n) = true := by simp [isD]
@[simp] theorem isD_bool {b : Bool} : isD (.bool b) = true := by simp [isD]
@[simp] theorem isD_str {b : List Nat} : isD (.str b) = true := by simp [isD]
@[simp] theorem isD_agg {l : List HV} : isD (.agg l) = isDL l := by rw [isD]
@[simp] theorem isD_tup {l : List HV} : isD (.tup l) = isDL l := by rw [isD]
@[simp] theorem isD_pptr {l : List HV} : isD (.pptr l) = isDL l := by rw [isD]
@[simp] theorem isD_psl {l : List (List HV)} : isD (.psl l) = isDLL l := by rw [isD]
@[simp] theorem isD_nilp : isD .nilp = true := by simp [isD]
@[simp] theorem isD_fn {f : Nat} {a b : List HV} : isD (.fn f a b) = (isDL a && isDL b) := by rw [isD]
@[simp] theorem isDLL_nil : isDLL [] = true := rfl
@[simp] theorem isDLL_cons {v : List HV} {r : List (List HV)} : isDLL (v :: r) = (isDL v && isDLL r) := by rw [isDLL]
theorem isDLL_map {α : Type} {f : α -> List HV} (h : ∀ x, isDL (f x) = true) (l : List α) : isDLL (l.map f) = true := by
 induction l with
 | nil => rfl
 | cons x r ih => simp [h x, ih]
@[simp] theorem isDL_append {a b : List HV} : isDL (a ++ b) = (isDL a && isDL b) := by
 induction a with
 | nil => simp
 | cons x r ih => simp [ih, Bool.and_assoc]
section tries
variable {α : Type}
@[simp] theorem tset_e {x : Option α} {t : Tr α} : tset x .e t = .nd x (tl t) (tr t) := rfl
@[simp] theorem tset_z {x : Option α} {k : Ky} {t : Tr α} : tset x (.z k) t = .nd (tv t) (tset x k (tl t)) (tr t) := rfl
@[simp] theorem tset_o {x : Option α} {k : Ky} {t : Tr α} : tset x (.o k) t = .nd (tv t) (tl t) (tset x k (tr t)) := rfl
@[simp] theorem tl_lf : tl (.lf : Tr α) = .lf := rfl
@[simp] theorem tr_lf : tr (.lf : Tr α) = .lf := rfl
@[simp] theorem tv_lf : tv (.lf : Tr α) = none := rfl
@[simp] theorem tl_nd {v : Option α} {l r : Tr α} : tl (.nd v l r) = l := rfl
@[simp] theorem tr_nd {v : Option α} {l r : Tr α} : tr (.nd v l r) = r := rfl
@[simp] theorem tv_nd {v : Option α} {l r : Tr α} : tv (.nd v l r) = v := rfl
@[simp] theorem tget_lf' {k : Ky} : tget (.lf : Tr α) k = none := rfl
@[simp] theorem tget_nd_e {v : Option α} {l r : Tr α} : tget (.nd v l r) .e = v := rfl
@[simp] theorem tget_nd_z {v : Option α} {l r : Tr α} {k : Ky} : tget (.nd v l r) (.z k) = tget l k := rfl
@[simp] theorem tget_nd_o {v : Option α} {l r : Tr α} {k : Ky} : tget (.nd v l r) (.o k) = tget r k := rfl
@[simp] theorem succ_e : Ky.succ .e = .z .e := rfl
@[simp] theorem succ_z {k : Ky} : Ky.succ (.z k) = .o k := rfl
@[simp] theorem succ_o {k : Ky} : Ky.succ (.o k) = .z k.succ := rfl
@[simp] theorem ky_e_e : Ky.beq .e .e = true := rfl
@[simp] theorem ky_e_z {k : Ky} : Ky.beq .e (.z k) = false := rfl
@[simp] theorem ky_e_o {k : Ky} : Ky.beq .e (.o k) = false := rfl
@[simp] theorem ky_z_e {k : Ky} : Ky.beq (.z k) .e = false := rfl
@[simp] theorem ky_o_e {k : Ky} : Ky.beq (.o k) .e = false := rfl
@[simp] theorem ky_z_z {j k : Ky} : Ky.beq (.z j) (.z k) = Ky.beq j k := rfl
@[simp] theorem ky_z_o {j k : Ky} : Ky.beq (.z j) (.o k) = false := rfl
@[simp] theorem ky_o_z {j k : Ky} : Ky.beq (.o j) (.z k) = false := rfl
@[simp] theorem ky_o_o {j k : Ky} : Ky.beq (.o j) (.o k) = Ky.beq j k := rfl
@[simp] theorem tset_same (x y : Option α) (k : Ky) : ∀ t : Tr α, tset x k (tset y k t) = tset x k t := by
 induction k with
 | e => intro t; rfl
 | z k ih => intro t; simp [ih]
 | o k ih => intro t; simp [ih]
@[simp] theorem tget_same (x : Option α) (k : Ky) (t : Tr α) : tget (tset x k t) k = x := by rw [tget_tset, if_pos rfl]
theorem tnew_fuel (x : Option α) : ∀ (n k : Nat), k < n -> tnew x n k = tnew x (k + 1) k := by
 intro n
 induction n using Nat.strongRecOn with
 | ind n ih =>
  intro k hk
  cases n with
  | zero => omega
  | succ n =>
   have he : ∀ m, tnew x (m + 1) k = Bool.rec (Bool.rec (.nd none .lf (tnew x m ((k - 1) / 2))) (.nd none (tnew x m (k / 2)) .lf) (Nat.beq (k % 2) 1)) (.nd x .lf .lf) (Nat.beq k 0) := fun m => rfl
   rw [he n, he k]
   by_cases h0 : k = 0
   ·subst h0; rfl
   ·rw [show Nat.beq k 0 = false by rw [nbeq_dec]; simp [h0]]
    have h1 : tnew x n (k / 2) = tnew x k (k / 2) := by rw [ih n (by omega) (k / 2) (by omega), <- ih k (by omega) (k / 2) (by omega)]
    have h2 : tnew x n ((k - 1) / 2) = tnew x k ((k - 1) / 2) := by rw [ih n (by omega) ((k - 1) / 2) (by omega), <- ih k (by omega) ((k - 1) / 2) (by omega)]
    rw [h1, h2]
theorem nset_lf (x : Option α) (k : Nat) : nset x .lf k = tnew x (k + 1) k := rfl
theorem nset_eq (x : Option α) (t : Tr α) (k : Nat) : nset x t k = if k = 0 then .nd x (tl t) (tr t) else if k % 2 = 1 then .nd (tv t) (nset x (tl t) (k / 2)) (tr t) else .nd (tv t) (tl t) (nset x (tr t) ((k - 1) / 2)) := by
 cases t with
 | nd v l r =>
  show (Bool.rec (motive := fun _ => Tr α) (Bool.rec (motive := fun _ => Tr α) (.nd v l (nset x r ((k - 1) / 2))) (.nd v (nset x l (k / 2)) r) (Nat.beq (k % 2) 1)) (.nd x l r) (Nat.beq k 0)) = _
  rw [nbeq_dec, nbeq_dec]
  by_cases h0 : k = 0
  ·simp [h0]
  ·by_cases h1 : k % 2 = 1 <;> simp [h0, h1]
 | lf =>
  have he : nset x .lf k = (Bool.rec (motive := fun _ => Tr α) (Bool.rec (motive := fun _ => Tr α) (.nd none .lf (tnew x k ((k - 1) / 2))) (.nd none (tnew x k (k / 2)) .lf) (Nat.beq (k % 2) 1)) (.nd x .lf .lf) (Nat.beq k 0)) := rfl
  rw [he, nbeq_dec, nbeq_dec]
  by_cases h0 : k = 0
  ·simp [h0]
  ·have h2 : tnew x k (k / 2) = nset x .lf (k / 2) := by rw [nset_lf]; exact tnew_fuel x k (k / 2) (by omega)
   have h3 : tnew x k ((k - 1) / 2) = nset x .lf ((k - 1) / 2) := by rw [nset_lf]; exact tnew_fuel x k ((k - 1) / 2) (by omega)
   rw [h2, h3]
   by_cases h1 : k % 2 = 1 <;> simp [h0, h1]
theorem nset_same (x y : Option α) (k : Nat) : ∀ t : Tr α, nset x (nset y t k) k = nset x t k := by
 induction k using Nat.strongRecOn with
 | ind k ih =>
  intro t
  rw [nset_eq y, nset_eq x _ k, nset_eq x t k]
  by_cases h0 : k = 0
  ·simp [h0]
  ·by_cases h1 : k % 2 = 1
   ·simp [h0, h1, ih (k / 2) (by omega)]
   ·simp [h0, h1, ih ((k - 1) / 2) (by omega)]
theorem nset_comm (x y : Option α) (k : Nat) : ∀ (j : Nat) (t : Tr α), j ≠ k -> nset x (nset y t j) k = nset y (nset x t k) j := by
 induction k using Nat.strongRecOn with
 | ind k ih =>
  intro j t hjk
  rw [nset_eq y t j, nset_eq x _ k, nset_eq y _ j, nset_eq x t k]
  by_cases h0 : k = 0
  ·by_cases g0 : j = 0
   ·omega
   ·by_cases g1 : j % 2 = 1 <;> simp [h0, g0, g1]
  ·by_cases g0 : j = 0
   ·by_cases h1 : k % 2 = 1 <;> simp [h0, g0, h1]
   ·by_cases g1 : j % 2 = 1 <;> by_cases h1 : k % 2 = 1
    ·simp [h0, g0, h1, g1, ih (k / 2) (by omega) (j / 2) _ (by omega)]
    ·simp [h0, g0, h1, g1]
    ·simp [h0, g0, h1, g1]
    ·simp [h0, g0, h1, g1, ih ((k - 1) / 2) (by omega) ((j - 1) / 2) _ (by omega)]
end tries
noncomputable def Lst (l : List HV) : Tr HV := setL l 0 .lf
theorem setL_cons (v : HV) (l : List HV) (k : Nat) (t : Tr HV) : setL (v :: l) k t = setL l (k + 1) (nset (some v) t k) := rfl
theorem setL_nset (l : List HV) : ∀ (k j : Nat) (v : HV) (t : Tr HV), j < k -> setL l k (nset (some v) t j) = nset (some v) (setL l k t) j := by
 induction l with
 | nil => intro k j v t h; rfl
 | cons w l ih =>
  intro k j v t h
  rw [setL_cons, setL_cons, nset_comm _ _ k j t (by omega), ih (k + 1) j v _ (by omega)]
theorem nset_setL (l : List HV) : ∀ (k j : Nat) (v : HV) (t : Tr HV), k <= j -> j < k + l.length -> nset (some v) (setL l k t) j = setL (l.set (j - k) v) k t := by
 induction l with
 | nil => intro k j v t h1 h2; simp at h2; omega
 | cons w l ih =>
  intro k j v t h1 h2
  by_cases h : j = k
  ·subst h
   rw [setL_cons, <- setL_nset _ _ _ _ _ (by omega), nset_same]
   simp [setL_cons]
  ·rw [setL_cons, ih (k + 1) j v _ (by omega) (by simp at h2; omega), show j - k = (j - (k + 1)) + 1 by omega]
   simp [setL_cons]
def ovr (l : List HV) (j : Nat) : List HV -> List HV
 | [] => l
 | v :: r => ovr (l.set j v) (j + 1) r
@[simp] theorem ovr_nil {l : List HV} {j : Nat} : ovr l j [] = l := rfl
@[simp] theorem ovr_cons {l : List HV} {j : Nat} {v : HV} {r : List HV} : ovr l j (v :: r) = ovr (l.set j v) (j + 1) r := rfl
theorem setL_ovr (new : List HV) : ∀ (l : List HV) (j : Nat), j + new.length <= l.length -> setL new j (Lst l) = Lst (ovr l j new) := by
 induction new with
 | nil => intro l j h; rfl
 | cons v r ih =>
  intro l j h
  simp only [List.length_cons] at h
  rw [setL_cons]
  show setL r (j + 1) (nset (some v) (setL l 0 .lf) j) = _
  rw [nset_setL l 0 j v .lf (by omega) (by omega)]
  exact ih (l.set j v) (j + 1) (by simp; omega)
theorem setL_app (l : List HV) : ∀ (new : List HV) (k : Nat) (t : Tr HV), setL new (k + l.length) (setL l k t) = setL (l ++ new) k t := by
 induction l with
 | nil => intro new k t; rfl
 | cons v l ih =>
  intro new k t
  rw [setL_cons, List.cons_append, setL_cons, List.length_cons, show k + (l.length + 1) = (k + 1) + l.length by omega]
  exact ih new (k + 1) _
theorem setL_end (l new : List HV) (k : Nat) (h : k = l.length) : setL new k (Lst l) = Lst (l ++ new) := by
 subst h
 have := setL_app l new 0 .lf
 rw [Nat.zero_add] at this
 exact this
@[simp] theorem nget_Lst {l : List HV} {k : Nat} : nget (Lst l) k = l[k]? := by
 show nget (setL l 0 .lf) k = _
 rw [nget_setL]
 by_cases h : k < l.length
 ·rw [if_pos (by omega)]; simp
 ·rw [if_neg (by omega), nget_lf, List.getElem?_eq_none (by omega)]
theorem getL_eq (t : Tr HV) (l : List HV) : ∀ (n k : Nat), (∀ i, i < n -> nget t (k + i) = l[k + i]?) -> k + n <= l.length -> getL t n k = some ((l.drop k).take n) := by
 intro n
 induction n with
 | zero => intro k _ _; simp; rfl
 | succ n ih =>
  intro k h hl
  have he : getL t (n + 1) k = Option.rec none (fun v => Option.rec none (fun l => some (v :: l)) (getL t n (k + 1))) (nget t k) := rfl
  have h0 := h 0 (by omega)
  rw [Nat.add_zero, List.getElem?_eq_getElem (by omega)] at h0
  rw [he, h0, ih (k + 1) (fun i hi => by have := h (i + 1) (by omega); rwa [show k + (i + 1) = k + 1 + i by omega] at this) (by omega)]
  show some (_ :: _) = _
  rw [List.drop_eq_getElem_cons (show k < l.length by omega), List.take_succ_cons]
theorem getL_Lst {l : List HV} {n k : Nat} (h : k + n <= l.length) : getL (Lst l) n k = some ((l.drop k).take n) := getL_eq _ _ _ _ (fun i _ => nget_Lst) h
section mem
variable {s : HS}
@[simp] theorem new_eq {l : List HV} {K : Ky -> HV} : s.new l K = .v (K s.nx) { h := tset (some (.cells (Lst l) 0 l.length s.nx)) s.nx s.h, nx := s.nx.succ, gr := tset (some [s.nx]) s.nx s.gr, ty := s.ty } := by
 show Res.v (K s.nx) { h := tset (some (.cells (setL l 0 .lf) 0 (lenL l) s.nx)) s.nx s.h, nx := s.nx.succ, gr := tset (some [s.nx]) s.nx s.gr, ty := s.ty } = _
 rw [lenL_len]; rfl
noncomputable def obCell (b : Option Ob) (k : Nat) : Option HV := match b with
 | some (.cells t lo hi _) => if lo <= k then if k < hi then nget t k else none else none
 | _ => none
@[simp] theorem obCell_c {l : List HV} {lo hi k : Nat} {g : Ky} : obCell (some (.cells (Lst l) lo hi g)) k = if lo <= k then if k < hi then l[k]? else none else none := by
 show (if lo <= k then if k < hi then nget (Lst l) k else none else none) = _
 rw [nget_Lst]
@[simp] theorem cell_eq {o : Ky} {k : Nat} : s.cell o k = obCell (tget s.h o) k := by
 unfold HS.cell obCell
 cases tget s.h o with
 | none => rfl
 | some b => cases b with
  | cells t lo hi g =>
   show ife (Nat.ble lo k) (ife (Nat.blt k hi) (nget t k) none) none = _
   simp [nble_dec, nblt_dec]
  | mp es => rfl
  | loop st pend tm ps asg body => rfl
noncomputable def obCells (b : Option Ob) (k n : Nat) : Option (List HV) := match b with
 | some (.cells t lo hi _) => if lo <= k then if k + n <= hi then getL t n k else none else none
 | _ => none
theorem obCells_c {l : List HV} {lo hi k n : Nat} {g : Ky} (h1 : lo <= k) (h2 : k + n <= hi) (h3 : k + n <= l.length) : obCells (some (.cells (Lst l) lo hi g)) k n = some ((l.drop k).take n) := by
 show (if lo <= k then if k + n <= hi then getL (Lst l) n k else none else none) = _
 rw [if_pos h1, if_pos h2, getL_Lst h3]
@[simp] theorem cellsAt_eq {o : Ky} {k n : Nat} : s.cellsAt o k n = obCells (tget s.h o) k n := by
 unfold HS.cellsAt obCells
 cases tget s.h o with
 | none => rfl
 | some b => cases b with
  | cells t lo hi g =>
   show ife (Nat.ble lo k) (ife (Nat.ble (Nat.add k n) hi) (getL t n k) none) none = _
   simp [nble_dec]
  | mp es => rfl
  | loop st pend tm ps asg body => rfl
@[simp] theorem load_1 {o : Ky} {k : Nat} : s.load o k none = s.cell o k := rfl
@[simp] theorem load_n {o : Ky} {k n : Nat} : s.load o k (some n) = opt (s.cellsAt o k n) (fun l => some (.agg l)) none := rfl
noncomputable def obStore (s : HS) (b : Option Ob) (o : Ky) (k : Nat) (l : List HV) : Option HS := match b with
 | some (.cells t lo hi g) => if lo <= k then if k + l.length <= hi then (match tget s.gr g with | some ms => s.store1 o k l t lo hi g ms | none => none) else none else none
 | _ => none
@[simp] theorem store_eq {o : Ky} {k : Nat} {l : List HV} : s.store o k l = obStore s (tget s.h o) o k l := by
 unfold HS.store obStore
 cases tget s.h o with
 | none => rfl
 | some b => cases b with
  | cells t lo hi g =>
   show ife (Nat.ble lo k) (ife (Nat.ble (Nat.add k (lenL l)) hi) (opt (tget s.gr g) (s.store1 o k l t lo hi g) none) none) none = _
   simp only [ife_eq, nble_dec, nadd_eq, lenL_len, decide_eq_true_eq]
   cases tget s.gr g <;> rfl
  | mp es => rfl
  | loop st pend tm ps asg body => rfl
noncomputable def storeG (s : HS) (ms : Option (List Ky)) (o : Ky) (k : Nat) (l new : List HV) (lo hi : Nat) (g : Ky) : Option HS := match ms with
 | some ms => s.store1 o k new (Lst l) lo hi g ms
 | none => none
theorem obStore_c {o : Ky} {k : Nat} {l new : List HV} {lo hi : Nat} {g : Ky} (h1 : lo <= k) (h2 : k + new.length <= hi) : obStore s (some (.cells (Lst l) lo hi g)) o k new = storeG s (tget s.gr g) o k l new lo hi g := by
 show (if lo <= k then if k + new.length <= hi then (match tget s.gr g with | some ms => s.store1 o k new (Lst l) lo hi g ms | none => none) else none else none) = _
 rw [if_pos h1, if_pos h2]
 cases tget s.gr g <;> rfl
theorem storeG_1 {o m : Ky} {k : Nat} {l new : List HV} {lo hi : Nat} {g : Ky} (h : k + new.length <= l.length) : storeG s (some [m]) o k l new lo hi g = some { h := tset (some (.cells (Lst (ovr l k new)) lo hi g)) o s.h, nx := s.nx, gr := s.gr, ty := s.ty } := by
 show some (HS.mk (tset (some (.cells (setL new k (Lst l)) lo hi g)) o s.h) s.nx s.gr s.ty) = _
 rw [setL_ovr new l k h]
end mem
mutual
theorem same1_refl : ∀ v : HV, same1 v v = true
 | .int k n => by show (decide (k = k) && beqI n n) = true; simp [beqI_dec]
 | .bool b => by show (b == b) = true; simp
 | .str l => by show beqL l l = true; simp [beqL_dec]
 | .nils => rfl
 | .nilp => rfl
 | .nilf => rfl
 | .nilm => rfl
 | .nili => rfl
 | .undef => rfl
 | .ptr o k => by show (o.beq o && Nat.beq k k) = true; simp [Ky.beq_iff, nbeq_dec]
 | .sl o a b c => by show (o.beq o && Nat.beq a a && Nat.beq b b && Nat.beq c c) = true; simp [Ky.beq_iff, nbeq_dec]
 | .mp o => by show o.beq o = true; simp [Ky.beq_iff]
 | .fn f a b => by show (Nat.beq f f && same1.sameL a a && same1.sameL b b) = true; simp [nbeq_dec, sameL_refl a, sameL_refl b]
 | .yld o => by show o.beq o = true; simp [Ky.beq_iff]
 | .agg l => by show same1.sameL l l = true; exact sameL_refl l
 | .tup l => by show same1.sameL l l = true; exact sameL_refl l
 | .pptr l => by show same1.sameL l l = true; exact sameL_refl l
 | .psl l => by show same1.sameLL l l = true; exact sameLL_refl l
theorem sameL_refl : ∀ l : List HV, same1.sameL l l = true
 | [] => rfl
 | v :: r => by show (same1 v v && same1.sameL r r) = true; rw [same1_refl v, sameL_refl r]; rfl
theorem sameLL_refl : ∀ l : List (List HV), same1.sameLL l l = true
 | [] => rfl
 | v :: r => by show (same1.sameL v v && same1.sameLL r r) = true; rw [sameL_refl v, sameLL_refl r]; rfl
end
section drawn
variable {R : Task -> Out} {e : En} {s : HS}
def vsK : DK -> List HS -> HS -> List HS
 | .r, vs, _ => vs
 | .l _ _, vs, _ => vs
 | .a, vs, s => vs ++ [s]
 | .e, vs, s => vs ++ [s]
@[simp] theorem vsK_r {vs : List HS} : vsK .r vs s = vs := rfl
@[simp] theorem vsK_l {vs : List HS} {a b : Nat} : vsK (.l a b) vs s = vs := rfl
@[simp] theorem vsK_a {vs : List HS} : vsK .a vs s = vs ++ [s] := rfl
@[simp] theorem vsK_e {vs : List HS} : vsK .e vs s = vs ++ [s] := rfl
theorem one_n {K : En -> HS -> Out} {d : Option Nat} {op : HOp} : one R ⟨d, op, none⟩ e s K = resK R d e s K (hop op e s) := ops_n (l := [])
theorem one_g {K : En -> HS -> Out} {d : Option Nat} {op : HOp} {t : Nat} {b : Bool} : one R ⟨d, op, some (t, b)⟩ e s K = gdK (look e t) b (resK R d e s K (hop op e s)) (K (e.put d .undef) s) := ops_g (l := [])
@[simp] theorem opsD_nil {K : En -> HS -> List HS -> Out} {vs : List HS} : opsD R K [] e s vs = K e s vs := rfl
theorem opsD_cons {K : En -> HS -> List HS -> Out} {vs : List HS} {i : Nat} {o : HOper} {k : DK} {l : List DOp} : opsD R K (⟨i, o, k⟩ :: l) e s vs = one R o e s (fun e' s' => opsD R K l e' s' (vsK k vs s')) := by
 cases k <;> rfl
@[simp] theorem opsD_n {K : En -> HS -> List HS -> Out} {vs : List HS} {i : Nat} {d : Option Nat} {op : HOp} {k : DK} {l : List DOp} : opsD R K (⟨i, ⟨d, op, none⟩, k⟩ :: l) e s vs = resK R d e s (fun e' s' => opsD R K l e' s' (vsK k vs s')) (hop op e s) := by
 rw [opsD_cons, one_n]
theorem opsD_g {K : En -> HS -> List HS -> Out} {vs : List HS} {i : Nat} {d : Option Nat} {op : HOp} {t : Nat} {b : Bool} {k : DK} {l : List DOp} : opsD R K (⟨i, ⟨d, op, some (t, b)⟩, k⟩ :: l) e s vs = gdK (look e t) b (resK R d e s (fun e' s' => opsD R K l e' s' (vsK k vs s')) (hop op e s)) (opsD R K l (e.put d .undef) s (vsK k vs s)) := by
 rw [opsD_cons, one_g]
@[simp] theorem opsD_gt {K : En -> HS -> List HS -> Out} {vs : List HS} {i : Nat} {d : Option Nat} {op : HOp} {t : Nat} {b : Bool} {k : DK} {l : List DOp} (h : look e t = some (.bool b)) : opsD R K (⟨i, ⟨d, op, some (t, b)⟩, k⟩ :: l) e s vs = resK R d e s (fun e' s' => opsD R K l e' s' (vsK k vs s')) (hop op e s) := by
 rw [opsD_g, h, gdK_bool, if_pos rfl]
@[simp] theorem opsD_gf {K : En -> HS -> List HS -> Out} {vs : List HS} {i : Nat} {d : Option Nat} {op : HOp} {t : Nat} {b : Bool} {k : DK} {l : List DOp} (h : look e t = some (.bool !b)) : opsD R K (⟨i, ⟨d, op, some (t, b)⟩, k⟩ :: l) e s vs = opsD R K l (e.put d .undef) s (vsK k vs s) := by
 rw [opsD_g, h, gdK_bool, if_neg (by cases b <;> simp)]
@[simp] theorem opsD_gu {K : En -> HS -> List HS -> Out} {vs : List HS} {i : Nat} {d : Option Nat} {op : HOp} {t : Nat} {b : Bool} {k : DK} {l : List DOp} (h : look e t = some .undef) : opsD R K (⟨i, ⟨d, op, some (t, b)⟩, k⟩ :: l) e s vs = opsD R K l (e.put d .undef) s (vsK k vs s) := by
 rw [opsD_g, h, gdK_undef]
@[simp] theorem evD_eq {outs : List Nat} {main : List DOp} {trail : List HOper} : evD R outs main trail e s = opsD R (fun e1 s' vs => if chkReads e1 vs main = true then ops R (fun e' s'' => .code .normal (flush outs e' e) s'') trail e1 s' else .bad 14) main e s [s] := by
 show opsD R (fun e1 s' vs => ife (chkReads e1 vs main) (ops R (fun e' s'' => .code .normal (flush outs e' e) s'') trail e1 s') (.bad 14)) main e s [s] = _
 simp only [ife_eq]
noncomputable def rdK (v : Option HV) (r : Res) : Bool := match v, r with
 | some v, .v u _ => same1 v u
 | _, _ => false
@[simp] theorem rdK_same {v : HV} : rdK (some v) (.v v s) = true := same1_refl v
@[simp] theorem chk_nil {vs : List HS} : chkReads e vs [] = true := rfl
@[simp] theorem chk_r {vs : List HS} {i : Nat} {o : HOper} {r : List DOp} : chkReads e vs (⟨i, o, .r⟩ :: r) = chkReads e vs r := by rw [chkReads]; simp
@[simp] theorem chk_a {vs : List HS} {i : Nat} {o : HOper} {r : List DOp} : chkReads e vs (⟨i, o, .a⟩ :: r) = chkReads e vs r := by rw [chkReads]; simp
@[simp] theorem chk_e {vs : List HS} {i : Nat} {o : HOper} {r : List DOp} : chkReads e vs (⟨i, o, .e⟩ :: r) = chkReads e vs r := by rw [chkReads]; simp
noncomputable def gdB (v : Option HV) (b : Bool) (x : Bool) : Bool := match v with
 | some (.bool q) => if q = b then x else true
 | some .undef => true
 | _ => false
@[simp] theorem gdB_bool {q b x : Bool} : gdB (some (.bool q)) b x = if q = b then x else true := rfl
@[simp] theorem gdB_undef {b x : Bool} : gdB (some .undef) b x = true := rfl
@[simp] theorem chk_l {vs : List HS} {i lo hi : Nat} {d : Option Nat} {op : HOp} {r : List DOp} : chkReads e vs (⟨i, ⟨d, op, none⟩, .l lo hi⟩ :: r) = (readsIn ⟨d, op, none⟩ e (hi - lo) (vs.drop lo) && chkReads e vs r) := by rw [chkReads]; rfl
@[simp] theorem chk_lg {vs : List HS} {i lo hi t : Nat} {b : Bool} {d : Option Nat} {op : HOp} {r : List DOp} : chkReads e vs (⟨i, ⟨d, op, some (t, b)⟩, .l lo hi⟩ :: r) = (gdB (look e t) b (readsIn ⟨d, op, some (t, b)⟩ e (hi - lo) (vs.drop lo)) && chkReads e vs r) := by
 rw [chkReads]
 congr 1
 have hw : wants e (HOper.mk d op (some (t, b))).g = match look e t with | some (.bool q) => some (q == b) | some .undef => some false | _ => none := rfl
 show (match wants e (HOper.mk d op (some (t, b))).g with | some true => _ | some false => true | none => false) = _
 rw [hw]
 cases look e t with
 | none => rfl
 | some v =>
  cases v <;> try rfl
  rename_i q
  cases q <;> cases b <;> rfl
@[simp] theorem reads_nil {o : HOper} {n : Nat} : readsIn o e n [] = true := by rw [readsIn]
@[simp] theorem reads_0 {d : Nat} {op : HOp} {g : Option (Nat × Bool)} {r : List HS} : readsIn ⟨some d, op, g⟩ e 0 (s :: r) = rdK (look e d) (hop op e s) := by
 rw [readsIn]
 simp only [Bool.and_true]
 cases look e d <;> cases hop op e s <;> rfl
@[simp] theorem reads_s {d : Nat} {op : HOp} {g : Option (Nat × Bool)} {n : Nat} {r : List HS} : readsIn ⟨some d, op, g⟩ e (n + 1) (s :: r) = (rdK (look e d) (hop op e s) && readsIn ⟨some d, op, g⟩ e n r) := by
 rw [readsIn]
 congr 1
end drawn
theorem eq0_int (k : IntKind) (a b : Int) : HV.eq0 (.int k a) (.int k b) = some (decide (a = b)) := by
 show (bif decide (k = k) then some (beqI a b) else none) = _
 simp [beqI_dec]
theorem eqL_cons (x y : HV) (r t : List HV) (q q' : Bool) (h : x.eq0 y = some q) (h' : eqL r t = some q') : eqL (x :: r) (y :: t) = some (q && q') := by
 rw [eqL, h]
 cases q
 ·rfl
 ·simp [h']
theorem eqL_nil : eqL [] [] = some true := by rw [eqL]
theorem eqK_agg (ks : List Nat) (l m : List HV) (h1 : typL ks l = true) (h2 : typL ks m = true) : eqK ⟨true, ks⟩ (.agg l) (.agg m) = eqL l m := by
 show (bif true then (bif typL ks l && typL ks m then eqL l m else none) else _) = _
 rw [h1, h2]; rfl
abbrev iV (n : Int) : HV := .int .i64 n
structure Mv where
 id : Int
 arg : Int
 kind : Int
 n : Int
 deriving DecidableEq, Inhabited
structure Bs where
 cell : Bool
 n : Int
 deriving DecidableEq, Inhabited
structure Ty where
 ps : List Bs
 res : Bs
 deriving DecidableEq, Inhabited
structure Ar where
 ids : List Ty
 root : Bs
 jumps : Bool
 deriving DecidableEq, Inhabited
@[simp] def Mv.c (m : Mv) : List HV := [.int .i64 m.id, .int .i64 m.arg, .int .u8 m.kind, .int .i64 m.n]
@[simp] def Bs.c (b : Bs) : List HV := [.bool b.cell, .int .i64 b.n]
@[simp] def Ty.c (t : Ty) : List HV := [.psl (t.ps.map Bs.c), .bool t.res.cell, .int .i64 t.res.n]
@[simp] def Ar.c (a : Ar) : List HV := [.psl (a.ids.map Ty.c), .bool a.root.cell, .int .i64 a.root.n, .bool a.jumps]
@[simp] theorem isDL_mv (l : List Mv) : isDLL (l.map Mv.c) = true := isDLL_map (fun x => by simp) l
@[simp] theorem isDL_bs (l : List Bs) : isDLL (l.map Bs.c) = true := isDLL_map (fun x => by simp) l
@[simp] theorem isDL_ty (l : List Ty) : isDLL (l.map Ty.c) = true := isDLL_map (fun x => by simp) l
def Sz (sz : Nat) (els : List (List HV)) : Prop := ∀ r ∈ els, r.length = sz
theorem Sz.nil {sz : Nat} : Sz sz [] := fun _ h => by cases h
theorem Sz.cons {sz : Nat} {r : List HV} {els : List (List HV)} (h : r.length = sz) (hs : Sz sz els) : Sz sz (r :: els) := by
 intro x hx
 rcases List.mem_cons.1 hx with rfl | hx
 ·exact h
 ·exact hs x hx
theorem Sz.append {sz : Nat} {a b : List (List HV)} (h : Sz sz a) (k : Sz sz b) : Sz sz (a ++ b) := by
 intro x hx
 rcases List.mem_append.1 hx with hx | hx
 ·exact h x hx
 ·exact k x hx
theorem Sz.map {α : Type} {sz : Nat} {f : α -> List HV} (h : ∀ x, (f x).length = sz) (l : List α) : Sz sz (l.map f) := by
 intro x hx
 obtain ⟨y, _, rfl⟩ := List.mem_map.1 hx
 exact h y
@[simp] theorem flatR_nil : flatR [] = [] := rfl
@[simp] theorem flatR_cons {r : List HV} {els : List (List HV)} : flatR (r :: els) = r ++ flatR els := rfl
@[simp] theorem flatR_append {a b : List (List HV)} : flatR (a ++ b) = flatR a ++ flatR b := by
 induction a with
 | nil => rfl
 | cons r a ih => simp [ih]
theorem flatR_length {sz : Nat} {els : List (List HV)} (h : Sz sz els) : (flatR els).length = els.length * sz := by
 induction els with
 | nil => simp
 | cons r els ih =>
  rw [flatR_cons, List.length_append, ih fun x hx => h x (List.mem_cons_of_mem _ hx), h r List.mem_cons_self, List.length_cons, Nat.succ_mul, Nat.add_comm]
theorem flatR_row {sz : Nat} {els : List (List HV)} (h : Sz sz els) (i : Nat) (hi : i < els.length) : ((flatR els).drop (i * sz)).take sz = els[i] := by
 induction els generalizing i with
 | nil => simp at hi
 | cons r els ih =>
  have hr : r.length = sz := h r List.mem_cons_self
  cases i with
  | zero => simp [<- hr]
  | succ i =>
   have hd : (r ++ flatR els).drop sz = flatR els := by rw [<- hr]; simp
   rw [flatR_cons, Nat.succ_mul, Nat.add_comm, <- List.drop_drop, hd]
   exact ih (fun x hx => h x (List.mem_cons_of_mem _ hx)) i (by simpa using hi)
theorem flatR_get {sz : Nat} {els : List (List HV)} (h : Sz sz els) (i j : Nat) (hi : i < els.length) (hj : j < sz) : (flatR els)[i * sz + j]? = (els[i])[j]? := by
 rw [<- flatR_row h i hi, List.getElem?_take_of_lt hj, List.getElem?_drop]
theorem chunk_flatR {sz : Nat} {els : List (List HV)} (h : Sz sz els) : chunk sz els.length (flatR els) = els := by
 induction els with
 | nil => rfl
 | cons r els ih =>
  have hr : r.length = sz := h r List.mem_cons_self
  show takeN sz (r ++ flatR els) :: chunk sz els.length (dropN sz (r ++ flatR els)) = _
  rw [takeN_take, dropN_drop, List.take_append_of_le_length (by omega), List.take_of_length_le (by omega), List.drop_append_of_le_length (by omega), List.drop_of_length_le (by omega), List.nil_append, ih fun x hx => h x (List.mem_cons_of_mem _ hx)]
theorem allLen_Sz {sz : Nat} {els : List (List HV)} (h : Sz sz els) : allLen sz els = true := by
 induction els with
 | nil => rfl
 | cons r els ih =>
  show (Nat.beq (lenL r) sz && allLen sz els) = true
  rw [ih fun x hx => h x (List.mem_cons_of_mem _ hx), lenL_len, h r List.mem_cons_self, nbeq_dec]; simp
theorem isDL_flatR {els : List (List HV)} : isDL (flatR els) = isDLL els := by
 induction els with
 | nil => rfl
 | cons r els ih => simp [ih]
section
variable {s : HS}
noncomputable def appG (s : HS) (sz mxl : Nat) (tg : Option Nat) (o : Ky) (off len : Nat) (new : List HV) (cnt : Nat) (g : Ky) (p : Tr Ob × List Ky) : Res := match p with
  | (h0, ms0) => match killAll h0 o (off + len * sz) (off + len * sz + lenL new) ms0 with
          | (h', ms') => match tget h' o with
            | some (.cells t lo hi _) =>
              bif hasK o ms' && Nat.ble lo off && Nat.ble (off + len * sz) hi && Nat.ble (len + cnt) mxl then
                .v (.sl s.nx off (len + cnt) sz) { h := tset (some (.cells (setL new (off + len * sz) t) off (off + len * sz + lenL new) g)) s.nx (tset (some (.cells t lo (off + len * sz) g)) o h'), nx := s.nx.succ, gr := tset (some (s.nx :: ms')) g s.gr, ty := tagS tg o s }
              else .bad
            | _ => .bad
theorem append_nils {sz mxl cnt : Nat} {tg : Option Nat} {new : List HV} (h0 : cnt ≠ 0) (h1 : cnt <= mxl) : s.append sz mxl tg .nils new cnt = s.newT (tagN tg s) new (fun o => .sl o 0 cnt sz) := by
 show (bif Nat.beq cnt 0 then Res.v .nils s else bif Nat.ble cnt mxl then s.newT (tagN tg s) new (fun o => .sl o 0 cnt sz) else .bad) = _
 rw [nbeq_dec, nble_dec]; simp [h0, h1]
@[simp] theorem newT_eq {ty : Tr (Nat × Nat)} {l : List HV} {K : Ky -> HV} : s.newT ty l K = .v (K s.nx) { h := tset (some (.cells (Lst l) 0 l.length s.nx)) s.nx s.h, nx := s.nx.succ, gr := tset (some [s.nx]) s.nx s.gr, ty := ty } := by
 show Res.v (K s.nx) { h := tset (some (.cells (setL l 0 .lf) 0 (lenL l) s.nx)) s.nx s.h, nx := s.nx.succ, gr := tset (some [s.nx]) s.nx s.gr, ty := ty } = _
 rw [lenL_len]; rfl
theorem append_sl {sz mxl cnt : Nat} {tg : Option Nat} {new : List HV} {o : Ky} {off len : Nat} {t : Tr HV} {lo hi : Nat} {g : Ky} {ms : List Ky} (h0 : cnt ≠ 0) (hb : tget s.h o = some (.cells t lo hi g)) (hg : tget s.gr g = some ms) :
  s.append sz mxl tg (.sl o off len sz) new cnt = appG s sz mxl tg o off len new cnt g (keepN s.h 12 ms) := by
 unfold HS.append
 simp only [nbeq_dec, decide_true, h0, decide_false, cond_false, Bool.not_true, hb, hg]
 rfl
@[simp] theorem keepN_1 {h : Tr Ob} {o : Ky} : keepN h 12 [o] = (h, [o]) := by simp [keepN]
@[simp] theorem tagN_none : tagN none s = s.ty := rfl
@[simp] theorem tagS_none {o : Ky} : tagS none o s = s.ty := rfl
noncomputable def appR (sz mxl : Nat) (tg : Option Nat) (x y : Option HV) (s : HS) : Res := match x, y with
  | some a, some b => bif isSl a then (match b with
   | .nils => .v a s
   | .sl o off len _ => bif Nat.beq len 0 then .v a s else opt (s.cellsAt o off (len * sz)) (fun l => s.append sz mxl tg a l len) .bad
   | .psl els => bif Nat.beq (lenL els) 0 then .v a s else bif allLen sz els then s.append sz mxl tg a (flatR els) (lenL els) else .bad
   | _ => .bad) else .bad
  | _, _ => .bad
variable {e : En}
@[simp] theorem hop_app {sz mxl : Nat} {tg : Option Nat} {x ys : X} : hop (.app sz mxl tg x ys) e s = appR sz mxl tg (opd x e) (opd ys e) s := rfl
@[simp] theorem appR_nils {sz mxl : Nat} {tg : Option Nat} {v : HV} (h : isSl v = true) : appR sz mxl tg (some v) (some .nils) s = .v v s := by
 show (bif isSl v then _ else _) = _
 rw [h]; rfl
theorem appR_psl0 {sz mxl : Nat} {tg : Option Nat} {v : HV} (h : isSl v = true) : appR sz mxl tg (some v) (some (.psl [])) s = .v v s := by
 show (bif isSl v then (bif Nat.beq (lenL ([] : List (List HV))) 0 then Res.v v s else _) else _) = _
 rw [h]; rfl
theorem appR_psl {sz mxl : Nat} {tg : Option Nat} {v : HV} {els : List (List HV)} (h : isSl v = true) (h0 : els ≠ []) (hs : Sz sz els) : appR sz mxl tg (some v) (some (.psl els)) s = s.append sz mxl tg v (flatR els) els.length := by
 show (bif isSl v then (bif Nat.beq (lenL els) 0 then Res.v v s else bif allLen sz els then s.append sz mxl tg v (flatR els) (lenL els) else .bad) else .bad) = _
 rw [h, allLen_Sz hs, lenL_len, nbeq_dec]
 have : els.length ≠ 0 := by simpa using h0
 simp [this]
def natO (v : Option HV) : Option Nat := match v with | some v => natOf v | none => none
@[simp] theorem natO_int {k : IntKind} {n : Nat} : natO (some (.int k (n : Int))) = some n := rfl
@[simp] theorem natO_0 {k : IntKind} : natO (some (.int k 0)) = some 0 := rfl
@[simp] theorem natO_1 {k : IntKind} : natO (some (.int k 1)) = some 1 := rfl
@[simp] theorem opdN_none {d : Nat} : opdN e d none = some d := rfl
@[simp] theorem opdN_some {d : Nat} {x : X} : opdN e d (some x) = natO (opd x e) := by
 rw [opdN]; cases opd x e <;> rfl
noncomputable def slcV (v : Option HV) (lo hi : Nat -> Option Nat) (mx : Option X) (sz : Nat) (s : HS) : Res := match v with
  | some (.sl o off len sz') => (match lo 0, hi len, mx with
   | some a, some b, none => bif Nat.ble a b && Nat.ble b len && Nat.beq sz sz' then .v (.sl o (off + a * sz) (b - a) sz) s else .bad
   | _, _, _ => .bad)
  | some (.psl els) => (match lo 0, hi (lenL els), mx with
   | some a, some b, none => bif Nat.ble a b && Nat.ble b (lenL els) && allLen sz els then .v (.psl (takeN (b - a) (dropN a els))) s else .bad
   | _, _, _ => .bad)
  | some .nils => (match lo 0, hi 0, mx with | some 0, some 0, none => .v .nils s | _, _, _ => .bad)
  | _ => .bad
@[simp] theorem hop_slc {x : X} {lo hi mx : Option X} {sz : Nat} : hop (.slc x lo hi mx sz) e s = slcV (opd x e) (fun d => opdN e d lo) (fun d => opdN e d hi) mx sz s := rfl
@[simp] theorem slcV_sl {o : Ky} {off len sz : Nat} {lo hi : Nat -> Option Nat} : slcV (some (.sl o off len sz)) lo hi none sz s = opt (lo 0) (fun a => opt (hi len) (fun b => if a <= b /\ b <= len then .v (.sl o (off + a * sz) (b - a) sz) s else .bad) .bad) .bad := by
 unfold slcV
 show (match lo 0, hi len, (none : Option X) with
   | some a, some b, none => bif Nat.ble a b && Nat.ble b len && Nat.beq sz sz then Res.v (.sl o (off + a * sz) (b - a) sz) s else .bad
   | _, _, _ => .bad) = _
 cases lo 0 with
 | none => cases hi len <;> rfl
 | some a => cases hi len with
  | none => rfl
  | some b =>
   show (bif Nat.ble a b && Nat.ble b len && Nat.beq sz sz then Res.v (.sl o (off + a * sz) (b - a) sz) s else .bad) = if a <= b /\ b <= len then _ else _
   rw [nble_dec, nble_dec, nbeq_dec]
   by_cases h1 : a <= b <;> by_cases h2 : b <= len <;> simp [h1, h2]
@[simp] theorem slcV_psl {els : List (List HV)} {sz : Nat} {lo hi : Nat -> Option Nat} : slcV (some (.psl els)) lo hi none sz s = opt (lo 0) (fun a => opt (hi els.length) (fun b => if a <= b /\ b <= els.length /\ allLen sz els = true then .v (.psl ((els.drop a).take (b - a))) s else .bad) .bad) .bad := by
 unfold slcV
 show (match lo 0, hi (lenL els), (none : Option X) with
   | some a, some b, none => bif Nat.ble a b && Nat.ble b (lenL els) && allLen sz els then Res.v (.psl (takeN (b - a) (dropN a els))) s else .bad
   | _, _, _ => .bad) = _
 rw [lenL_len]
 cases lo 0 with
 | none => cases hi els.length <;> rfl
 | some a => cases hi els.length with
  | none => rfl
  | some b =>
   show (bif Nat.ble a b && Nat.ble b els.length && allLen sz els then Res.v (.psl (takeN (b - a) (dropN a els))) s else .bad) = if a <= b /\ b <= els.length /\ allLen sz els = true then _ else _
   rw [nble_dec, nble_dec, takeN_take, dropN_drop]
   by_cases h1 : a <= b <;> by_cases h2 : b <= els.length <;> by_cases h3 : allLen sz els = true <;> simp [h1, h2, h3]
end
section views
variable {s : HS}
def Vw (s : HS) (n : Nat) (v v' : HV) : Prop := ∃ t, vw s n v = some (v', t)
def VwL (s : HS) (n : Nat) (l l' : List HV) : Prop := ∃ t, vwL (vw s n) l = some (l', t)
theorem VwL.nil {n : Nat} : VwL s n [] [] := ⟨[], rfl⟩
theorem VwL.cons {n : Nat} {v v' : HV} {l l' : List HV} (h : Vw s n v v') (k : VwL s n l l') : VwL s n (v :: l) (v' :: l') := by
 obtain ⟨t, h⟩ := h
 obtain ⟨u, k⟩ := k
 exact ⟨t ++ u, by rw [vwL, h, k]⟩
theorem Vw.data {n : Nat} {v : HV} (h : isD v = true) : Vw s (n + 1) v v := ⟨[], vw_data h⟩
theorem VwL.data {n : Nat} : ∀ {l : List HV}, isDL l = true -> VwL s (n + 1) l l
 | [], _ => .nil
 | v :: r, h => by
  rw [isDL_cons, Bool.and_eq_true] at h
  exact .cons (.data h.1) (.data h.2)
theorem Vw.nils {n : Nat} : Vw s (n + 1) .nils (.psl []) := ⟨[], rfl⟩
theorem VwL.append {n : Nat} {l l' m m' : List HV} (h : VwL s n l l') (k : VwL s n m m') : VwL s n (l ++ m) (l' ++ m') := by
 induction l generalizing l' with
 | nil => obtain ⟨t, h⟩ := h; cases h; exact k
 | cons v r ih =>
  obtain ⟨t, h⟩ := h
  unfold vwL at h
  split at h
  ·rename_i v1 t1 r1 t2 h1 h2
   cases h
   exact .cons ⟨_, h1⟩ (ih ⟨_, h2⟩)
  ·cases h
theorem Vw.agg {n : Nat} {l l' : List HV} (h : VwL s n l l') : Vw s (n + 1) (.agg l) (.agg l') := by
 cases hd : isD (.agg l) with
 | true =>
  obtain ⟨t, h⟩ := h
  rw [isD_agg] at hd
  cases n with
  | zero =>
   cases l with
   | nil => cases h; exact ⟨[], vw_data (by simp)⟩
   | cons v r => unfold vwL at h; split at h <;> simp_all [vw]
  | succ n =>
   obtain ⟨u, hu⟩ := VwL.data (s := s) (n := n) hd
   rw [hu] at h; cases h
   exact .data (by simpa using hd)
 | false =>
  obtain ⟨t, h⟩ := h
  refine ⟨t, ?_⟩
  show (bif isD (.agg l) then some (HV.agg l, []) else match vwL (vw s n) l with | some (l', t) => some (HV.agg l', t) | none => none) = _
  rw [hd, h]; rfl
theorem Vw.tup {n : Nat} {l l' : List HV} (h : VwL s n l l') : Vw s (n + 1) (.tup l) (.tup l') := by
 cases hd : isD (.tup l) with
 | true =>
  obtain ⟨t, h⟩ := h
  rw [isD_tup] at hd
  cases n with
  | zero =>
   cases l with
   | nil => cases h; exact ⟨[], vw_data (by simp)⟩
   | cons v r => unfold vwL at h; split at h <;> simp_all [vw]
  | succ n =>
   obtain ⟨u, hu⟩ := VwL.data (s := s) (n := n) hd
   rw [hu] at h; cases h
   exact .data (by simpa using hd)
 | false =>
  obtain ⟨t, h⟩ := h
  refine ⟨t, ?_⟩
  show (bif isD (.tup l) then some (HV.tup l, []) else match vwL (vw s n) l with | some (l', t) => some (HV.tup l', t) | none => none) = _
  rw [hd, h]; rfl
theorem Vw.sl {n : Nat} {o : Ky} {off len sz : Nat} {l l' : List HV} {r : List (List HV)} (hc : obCells (tget s.h o) off (len * sz) = some l) (h : VwL s n l l') (hr : len ≠ 0 -> chunk sz len l' = r) (h0 : len = 0 -> r = []) : Vw s (n + 1) (.sl o off len sz) (.psl r) := by
 obtain ⟨t, h⟩ := h
 by_cases hl : len = 0
 ·subst hl
  rw [h0 rfl]
  exact ⟨[], rfl⟩
 ·refine ⟨o :: t, ?_⟩
  show (bif isD (.sl o off len sz) then _ else bif Nat.beq len 0 then _ else match s.cellsAt o off (len * sz) with | some l => (match vwL (vw s n) l with | some (l', t) => some (HV.psl (chunk sz len l'), o :: t) | none => none) | none => none) = _
  rw [show isD (.sl o off len sz) = false by simp [isD], nbeq_dec, cellsAt_eq, hc]
  simp only [hl, decide_false, cond_false, h]
  rw [hr hl]
theorem Vw.rows {n : Nat} {o : Ky} {sz hi : Nat} {els : List (List HV)} {g : Ky} (hb : tget s.h o = some (.cells (Lst (flatR els)) 0 hi g)) (hs : Sz sz els) (hd : isDLL els = true) (hh : els.length * sz <= hi) : Vw s (n + 2) (.sl o 0 els.length sz) (.psl els) := by
 have hl := flatR_length hs
 refine Vw.sl (l := flatR els) (l' := flatR els) (by rw [hb, obCells_c (Nat.le_refl _) (by omega) (by omega)]; simp [<- hl]) (.data (by rw [isDL_flatR]; exact hd)) (fun _ => chunk_flatR hs) (fun h => List.eq_nil_of_length_eq_zero h)
theorem Vw.ptr {n : Nat} {o : Ky} {l l' : List HV} {hi : Nat} {g : Ky} (hb : tget s.h o = some (.cells (Lst l) 0 hi g)) (hh : hi = l.length) (h : VwL s n l l') : Vw s (n + 1) (.ptr o 0) (.pptr l') := by
 obtain ⟨t, h⟩ := h
 refine ⟨o :: t, ?_⟩
 show (bif isD (.ptr o 0) then _ else match tget s.h o with | some (.cells _ _ hi _) => bif Nat.ble 0 hi then (match s.cellsAt o 0 (hi - 0) with | some l => (match vwL (vw s n) l with | some (l', t) => some (HV.pptr l', o :: t) | none => none) | none => none) else none | _ => none) = _
 rw [show isD (.ptr o 0) = false by simp [isD], hb]
 simp only [cond_false, nble_dec, Nat.zero_le, decide_true, cond_true, cellsAt_eq, hb, Nat.sub_zero]
 rw [obCells_c (Nat.le_refl _) (by omega) (by omega), hh]
 simp [h]
theorem Vw.fn {n : Nat} {f : Nat} {a a' b b' : List HV} (h : VwL s (n + 1) a a') (k : VwL s (n + 1) b b') : Vw s (n + 2) (.fn f a b) (.fn f a' b') := by
 cases hd : isD (.fn f a b) with
 | true =>
  obtain ⟨t, h⟩ := h
  obtain ⟨t', k⟩ := k
  rw [isD_fn, Bool.and_eq_true] at hd
  obtain ⟨u, hu⟩ := VwL.data (s := s) (n := n) hd.1
  obtain ⟨u', hu'⟩ := VwL.data (s := s) (n := n) hd.2
  rw [hu] at h; cases h
  rw [hu'] at k; cases k
  exact .data (by simpa using hd)
 | false =>
  obtain ⟨t, h⟩ := h
  obtain ⟨t', k⟩ := k
  refine ⟨t ++ t', ?_⟩
  show (bif isD (.fn f a b) then some (HV.fn f a b, []) else match vwL (vw s (n + 1)) a, vwL (vw s (n + 1)) b with | some (a', t), some (b', t') => some (HV.fn f a' b', t ++ t') | _, _ => none) = _
  rw [hd, h, k]; rfl
theorem dataV_of {v v' : HV} (h : Vw s 16 v v') : dataV (.val v s) = some v' := by
 obtain ⟨t, h⟩ := h
 show (match vw s 16 v with | some (v', _) => some v' | none => none) = _
 rw [h]
end views
section call
variable {L : Libs} {prog : Nat -> Option HF}
theorem lim_unstep {t : Task} {o : Out} (h : lim L prog t = o) (ho : Good o) : step L prog (lim L prog) t = o := by
 obtain ⟨n, hn⟩ := run_of_lim h ho
 cases n with
 | zero => subst hn; exact ho.elim
 | succ m =>
  have hs : step L prog (run L prog m) t = o := hn
  have hc : Conv (fun _ => lim L prog) (run L prog m) := fun t' o' h' ho' => Evl.of fun _ => by
   subst h'
   exact lim_run ho'
  obtain ⟨k, hk⟩ := step_conv hc t hs ho
  exact hk k (Nat.le_refl _)
theorem R_view (f : Nat) (F : HF) (args l : List HV) (v : HV) (s : HS) (hp : prog f = some F) (hl : plain L f = true) (hu : F.pu = true) (ha : pureL args = false) (hv : VwL s 16 args l) (hd : isDL l = true) (hf : flatR0 v = true) (h : lim L prog (.call f l s0) = .val v s0) :
  lim L prog (.call f args s) = .val v s := by
 have h := lim_unstep h trivial
 have h : lib L f l s0 (stepCall prog (lim L prog) f l s0) = .val v s0 := h
 rw [lib_plain hl] at h
 unfold stepCall at h
 rw [hp] at h
 have h : (bif F.pu then stepPure F (lim L prog) l s0 else stepNorm F (lim L prog) l s0) = .val v s0 := h
 rw [hu, cond_true] at h
 unfold stepPure at h
 rw [isDL_pure l hd, cond_true, hd, cond_true] at h
 have hrun : runP F (lim L prog) l = some v := by
  cases hr : runP F (lim L prog) l with
  | none => rw [hr] at h; cases h
  | some v' => rw [hr] at h; cases h; rfl
 refine lim_step ?_ trivial
 show lib L f args s (stepCall prog (lim L prog) f args s) = _
 rw [lib_plain hl]
 unfold stepCall
 rw [hp]
 show (bif F.pu then stepPure F (lim L prog) args s else stepNorm F (lim L prog) args s) = _
 rw [hu, cond_true]
 unfold stepPure
 obtain ⟨t, hv⟩ := hv
 rw [ha, cond_false, hv]
 show opt (runP F (lim L prog) l) (fun v => bif flatR0 v then Out.val v s else .bad 41) (.bad 42) = _
 rw [hrun, opt_some, hf]
 rfl
def Stops : Out -> Prop
 | .code .ret _ _ => True
 | .code (.exit _) _ _ => True
 | _ => False
theorem Stops.good {o : Out} (h : Stops o) : Good o := by
 unfold Stops at h
 split at h <;> first | trivial | exact h.elim
theorem Stops.asNormal {o : Out} (h : Stops o) (f : En -> HS -> Out) : o.asNormal f = o := by
 unfold Stops at h
 split at h <;> first | rfl | exact h.elim
theorem loop_up {c : HC} (n : Nat) (I : Nat -> En -> HS -> Prop) (Q : Out -> Prop) (i : Nat) (e : En) (s : HS) (hi : i <= n) (hI : I i e s)
  (round : ∀ i e s, i < n -> I i e s -> (∃ e' s', evP (lim L prog) c e s = .code .normal e' s' /\ I (i + 1) e' s') ∨ (Stops (evP (lim L prog) c e s) /\ Q (evP (lim L prog) c e s)))
  (last : ∀ e s, I n e s -> Stops (evP (lim L prog) c e s) /\ Q (evP (lim L prog) c e s)) :
  ∃ o, evP (lim L prog) (.loop c) e s = o /\ Stops o /\ Q o := by
 obtain ⟨k, hk⟩ : ∃ k, n - i = k := ⟨_, rfl⟩
 induction k generalizing i e s with
 | zero =>
  obtain rfl : i = n := by omega
  obtain ⟨h1, h2⟩ := last e s hI
  exact ⟨_, by rw [evP_loop, h1.asNormal], h1, h2⟩
 | succ k ih =>
  rcases round i e s (by omega) hI with ⟨e', s', h1, h2⟩ | ⟨h1, h2⟩
  ·obtain ⟨o, g1, g2, g3⟩ := ih (i + 1) e' s' (by omega) h2 (by omega)
   exact ⟨o, by rw [evP_loop, h1, asNormal_normal]; exact R_loop g1 g2.good, g2, g3⟩
  ·exact ⟨_, by rw [evP_loop, h1.asNormal], h1, h2⟩
theorem loop_use {c : HC} {e : En} {s : HS} {o : Out} (ho : evP (lim L prog) (.loop c) e s = o) (n : Nat) (I : Nat -> En -> HS -> Prop) (Q : Out -> Prop) (i : Nat) (hi : i <= n) (hI : I i e s)
  (round : ∀ i e s r, i < n -> I i e s -> evP (lim L prog) c e s = r -> (∃ e' s', r = .code .normal e' s' /\ I (i + 1) e' s') ∨ (Stops r /\ Q r))
  (last : ∀ e s r, I n e s -> evP (lim L prog) c e s = r -> Stops r /\ Q r) : Q o := by
 obtain ⟨o', h1, h2, h3⟩ := loop_up n I Q i e s hi hI (fun i e s hi hI => round i e s _ hi hI rfl) (fun e s hI => last e s _ hI rfl)
 rw [<- ho, h1]
 exact h3
end call
@[simp] theorem Stops_ret {e : En} {s : HS} : Stops (.code .ret e s) = True := rfl
@[simp] theorem Stops_exit {i : Nat} {e : En} {s : HS} : Stops (.code (.exit i) e s) = True := rfl
theorem Ky.toNat_inj : ∀ {a b : Ky}, a.toNat = b.toNat -> a = b
 | .e, .e, _ => rfl
 | .e, .z _, h => by simp only [Ky.toNat] at h; omega
 | .e, .o _, h => by simp only [Ky.toNat] at h; omega
 | .z _, .e, h => by simp only [Ky.toNat] at h; omega
 | .o _, .e, h => by simp only [Ky.toNat] at h; omega
 | .z a, .z b, h => by rw [Ky.toNat_inj (a := a) (b := b) (by simp only [Ky.toNat] at h; omega)]
 | .o a, .o b, h => by rw [Ky.toNat_inj (a := a) (b := b) (by simp only [Ky.toNat] at h; omega)]
 | .z _, .o _, h => by simp only [Ky.toNat] at h; omega
 | .o _, .z _, h => by simp only [Ky.toNat] at h; omega
theorem keepN_frame : ∀ (ms : List Ky) (h : Tr Ob) (n : Nat), (∀ p, p ∉ ms -> tget (keepN h n ms).1 p = tget h p) /\ (∀ m ∈ (keepN h n ms).2, m ∈ ms)
 | [], h, 0 => ⟨fun _ _ => rfl, fun _ h => h⟩
 | [], h, n + 1 => ⟨fun _ _ => rfl, fun _ h => h⟩
 | m :: r, h, 0 => by
  obtain ⟨h1, h2⟩ := keepN_frame r (tset none m h) 0
  refine ⟨fun p hp => ?_, fun x hx => List.mem_cons_of_mem _ (h2 x hx)⟩
  show tget (keepN (tset none m h) 0 r).1 p = _
  rw [h1 p fun hx => hp (List.mem_cons_of_mem _ hx), tget_tset, if_neg (fun (e : p = m) => hp (by rw [e]; exact List.mem_cons_self))]
 | m :: r, h, n + 1 => by
  obtain ⟨h1, h2⟩ := keepN_frame r h n
  refine ⟨fun p hp => ?_, fun x hx => ?_⟩
  ·show tget (keepN h n r).1 p = _
   exact h1 p fun hx => hp (List.mem_cons_of_mem _ hx)
  ·have hx : x ∈ m :: (keepN h n r).2 := hx
   rcases List.mem_cons.1 hx with rfl | hx
   ·exact List.mem_cons_self
   ·exact List.mem_cons_of_mem _ (h2 x hx)
theorem keepN_head (o : Ky) (r : List Ky) (h : Tr Ob) (n : Nat) : keepN h (n + 1) (o :: r) = ((keepN h n r).1, o :: (keepN h n r).2) := rfl
theorem killAll_frame (o : Ky) (a b : Nat) : ∀ (ms : List Ky) (h : Tr Ob), (∀ p, p ∉ ms ∨ p = o -> tget (killAll h o a b ms).1 p = tget h p) /\ (∀ m ∈ (killAll h o a b ms).2, m ∈ ms)
 | [], h => ⟨fun _ _ => rfl, fun _ h => h⟩
 | m :: r, h => by
  obtain ⟨h1, h2⟩ := killAll_frame o a b r h
  have hp : ∀ p, p ∉ m :: r ∨ p = o -> p ∉ r ∨ p = o := fun p hp => hp.imp (fun h hx => h (List.mem_cons_of_mem _ hx)) id
  unfold killAll
  cases hm : m.beq o with
  | true =>
   refine ⟨fun p hx => h1 p (hp p hx), fun x hx => ?_⟩
   have hx : x ∈ m :: (killAll h o a b r).2 := hx
   rcases List.mem_cons.1 hx with rfl | hx
   ·exact List.mem_cons_self
   ·exact List.mem_cons_of_mem _ (h2 x hx)
  | false =>
   have hmo : m ≠ o := fun e => by rw [(Ky.beq_iff m o).2 e] at hm; cases hm
   simp only [cond_false]
   split
   ·rename_i t lo hi g hg
    cases hc : (Nat.blt lo b && Nat.blt a hi) with
    | true =>
     refine ⟨fun p hx => ?_, fun x hx => List.mem_cons_of_mem _ (h2 x hx)⟩
     show tget (tset none m (killAll h o a b r).1) p = _
     rw [tget_tset, if_neg, h1 p (hp p hx)]
     rintro rfl
     rcases hx with hx | hx
     ·exact hx List.mem_cons_self
     ·exact hmo hx
    | false =>
     refine ⟨fun p hx => h1 p (hp p hx), fun x hx => ?_⟩
     have hx : x ∈ m :: (killAll h o a b r).2 := hx
     rcases List.mem_cons.1 hx with rfl | hx
     ·exact List.mem_cons_self
     ·exact List.mem_cons_of_mem _ (h2 x hx)
   ·exact ⟨fun p hx => h1 p (hp p hx), fun x hx => List.mem_cons_of_mem _ (h2 x hx)⟩
theorem killAll_head (h : Tr Ob) (o : Ky) (a b : Nat) (r : List Ky) : killAll h o a b (o :: r) = ((killAll h o a b r).1, o :: (killAll h o a b r).2) := by
 rw [killAll, (Ky.beq_iff o o).2 rfl]; rfl
def Own (s : HS) (v : HV) (sz L : Nat) (els : List (List HV)) : Prop :=
 Sz sz els /\ L <= s.nx.toNat /\ ((v = .nils /\ els = []) ∨ ∃ o hi g rest, v = .sl o 0 els.length sz /\ tget s.h o = some (.cells (Lst (flatR els)) 0 hi g) /\ els.length * sz <= hi /\ tget s.gr g = some (o :: rest) /\ o ∉ rest /\ (∀ m ∈ o :: rest, L <= m.toNat /\ m.toNat < s.nx.toNat) /\ L <= g.toNat /\ g.toNat < s.nx.toNat)
def Low (L : Nat) (s s' : HS) : Prop := s.nx.toNat <= s'.nx.toNat /\ s'.ty = s.ty /\ (∀ p, p.toNat < L -> tget s'.h p = tget s.h p) /\ (∀ g, g.toNat < L -> tget s'.gr g = tget s.gr g)
theorem Low.refl {L : Nat} {s : HS} : Low L s s := ⟨Nat.le_refl _, rfl, fun _ _ => rfl, fun _ _ => rfl⟩
theorem Low.trans {L : Nat} {s s' s'' : HS} (h : Low L s s') (k : Low L s' s'') : Low L s s'' := ⟨Nat.le_trans h.1 k.1, k.2.1.trans h.2.1, fun p hp => (k.2.2.1 p hp).trans (h.2.2.1 p hp), fun p hp => (k.2.2.2 p hp).trans (h.2.2.2 p hp)⟩
theorem Own.nils {s : HS} {sz L : Nat} (h : L <= s.nx.toNat) : Own s .nils sz L [] := ⟨Sz.nil, h, .inl ⟨rfl, rfl⟩⟩
theorem Own.isSl {s : HS} {v : HV} {sz L : Nat} {els : List (List HV)} (h : Own s v sz L els) : isSl v = true := by
 rcases h.2.2 with ⟨rfl, _⟩ | ⟨o, hi, g, rest, rfl, _⟩ <;> rfl
theorem Own.new {s : HS} {sz L : Nat} {els : List (List HV)} (hs : Sz sz els) (hL : L <= s.nx.toNat) :
  Own { h := tset (some (.cells (Lst (flatR els)) 0 (flatR els).length s.nx)) s.nx s.h, nx := s.nx.succ, gr := tset (some [s.nx]) s.nx s.gr, ty := s.ty } (.sl s.nx 0 els.length sz) sz L els /\
  Low L s { h := tset (some (.cells (Lst (flatR els)) 0 (flatR els).length s.nx)) s.nx s.h, nx := s.nx.succ, gr := tset (some [s.nx]) s.nx s.gr, ty := s.ty } := by
 have hn := Ky.toNat_succ s.nx
 have hlt : ∀ p : Ky, p.toNat < L -> p ≠ s.nx := fun p hp e => by subst e; omega
 refine ⟨⟨hs, by simp only; omega, .inr ⟨s.nx, _, s.nx, [], rfl, by rw [tget_tset, if_pos rfl], by rw [flatR_length hs]; exact Nat.le_refl _, by rw [tget_tset, if_pos rfl], by simp, fun m hm => ?_, hL, by simp only; omega⟩⟩, by simp only; omega, rfl, fun p hp => ?_, fun p hp => ?_⟩
 ·simp only [List.mem_singleton] at hm
  subst hm
  exact ⟨hL, by simp only; omega⟩
 ·simp only; rw [tget_tset, if_neg (hlt p hp)]
 ·simp only; rw [tget_tset, if_neg (hlt p hp)]
theorem Own.append {s : HS} {v : HV} {sz L mxl : Nat} {els new : List (List HV)} (h : Own s v sz L els) (hn : Sz sz new) (h0 : new ≠ []) (hm : els.length + new.length <= mxl) :
    ∃ v' s', appR sz mxl none (some v) (some (.psl new)) s = .v v' s' /\ Own s' v' sz L (els ++ new) /\ Low L s s' := by
  have hc0 : new.length ≠ 0 := by simpa using h0
  rw [appR_psl h.isSl h0 hn]
  obtain ⟨hs, hL, hv⟩ := h
  rcases hv with ⟨rfl, rfl⟩ | ⟨o, hi, g, rest, rfl, hb, hh, hg, hnd, hmem, hLg, hgn⟩
  · refine ⟨_, _, by rw [append_nils hc0 (by simpa using hm), newT_eq], ?_⟩
    obtain ⟨h1, h2⟩ := Own.new (s := s) (sz := sz) (L := L) hn hL
    exact ⟨h1, h2⟩
  · have hsucc := Ky.toNat_succ s.nx
    rw [append_sl hc0 hb hg]
    obtain ⟨k1, k2⟩ := keepN_frame rest s.h 11
    rw [show (12 : Nat) = 11 + 1 from rfl, keepN_head]
    generalize hh1 : (keepN s.h 11 rest).1 = h1 at k1
    generalize hr1 : (keepN s.h 11 rest).2 = r1 at k2
    obtain ⟨j1, j2⟩ := killAll_frame o (0 + els.length * sz) (0 + els.length * sz + lenL (flatR new)) r1 h1
    have hkill := killAll_head h1 o (0 + els.length * sz) (0 + els.length * sz + lenL (flatR new)) r1
    generalize hh2 : (killAll h1 o (0 + els.length * sz) (0 + els.length * sz + lenL (flatR new)) r1).1 = h2 at j1 hkill
    generalize hr2 : (killAll h1 o (0 + els.length * sz) (0 + els.length * sz + lenL (flatR new)) r1).2 = r2 at j2 hkill
    have hmem2 : ∀ m ∈ r2, m ∈ rest := fun m hm => k2 m (j2 m hm)
    have ho : tget h2 o = some (.cells (Lst (flatR els)) 0 hi g) := by rw [j1 o (.inr rfl), k1 o hnd, hb]
    have hle : (flatR els).length = 0 + els.length * sz := by rw [flatR_length hs, Nat.zero_add]
    have hres : appG s sz mxl none o 0 els.length (flatR new) new.length g (h1, o :: r1) = .v (.sl s.nx 0 (els.length + new.length) sz) { h := tset (some (.cells (Lst (flatR els ++ flatR new)) 0 (0 + els.length * sz + (flatR new).length) g)) s.nx (tset (some (.cells (Lst (flatR els)) 0 (0 + els.length * sz) g)) o h2), nx := s.nx.succ, gr := tset (some (s.nx :: o :: r2)) g s.gr, ty := s.ty } := by
      show (match killAll h1 o (0 + els.length * sz) (0 + els.length * sz + lenL (flatR new)) (o :: r1) with
          | (h', ms') => match tget h' o with
            | some (.cells t lo hi _) =>
              bif hasK o ms' && Nat.ble lo 0 && Nat.ble (0 + els.length * sz) hi && Nat.ble (els.length + new.length) mxl then
                Res.v (.sl s.nx 0 (els.length + new.length) sz) { h := tset (some (.cells (setL (flatR new) (0 + els.length * sz) t) 0 (0 + els.length * sz + lenL (flatR new)) g)) s.nx (tset (some (.cells t lo (0 + els.length * sz) g)) o h'), nx := s.nx.succ, gr := tset (some (s.nx :: ms')) g s.gr, ty := tagS none o s }
              else .bad
            | _ => .bad) = _
      rw [hkill]
      show (match tget h2 o with
            | some (.cells t lo hi _) =>
              bif hasK o (o :: r2) && Nat.ble lo 0 && Nat.ble (0 + els.length * sz) hi && Nat.ble (els.length + new.length) mxl then
                Res.v (.sl s.nx 0 (els.length + new.length) sz) { h := tset (some (.cells (setL (flatR new) (0 + els.length * sz) t) 0 (0 + els.length * sz + lenL (flatR new)) g)) s.nx (tset (some (.cells t lo (0 + els.length * sz) g)) o h2), nx := s.nx.succ, gr := tset (some (s.nx :: o :: r2)) g s.gr, ty := tagS none o s }
              else .bad
            | _ => .bad) = _
      rw [ho]
      show (bif hasK o (o :: r2) && Nat.ble 0 0 && Nat.ble (0 + els.length * sz) hi && Nat.ble (els.length + new.length) mxl then
                Res.v (.sl s.nx 0 (els.length + new.length) sz) { h := tset (some (.cells (setL (flatR new) (0 + els.length * sz) (Lst (flatR els))) 0 (0 + els.length * sz + lenL (flatR new)) g)) s.nx (tset (some (.cells (Lst (flatR els)) 0 (0 + els.length * sz) g)) o h2), nx := s.nx.succ, gr := tset (some (s.nx :: o :: r2)) g s.gr, ty := tagS none o s }
              else .bad) = _
      rw [show hasK o (o :: r2) = true by simp [hasK, (Ky.beq_iff o o).2 rfl], nble_dec, nble_dec, nble_dec, decide_eq_true (Nat.le_refl 0), decide_eq_true (show 0 + els.length * sz <= hi by omega), decide_eq_true hm, setL_end _ _ _ hle.symm, lenL_len]
      rfl
    refine ⟨_, _, hres, ⟨Sz.append hs hn, by simp only; omega, .inr ⟨s.nx, _, g, o :: r2, by rw [List.length_append], by rw [tget_tset, if_pos rfl, flatR_append], ?_, by rw [tget_tset, if_pos rfl], ?_, ?_, hLg, by simp only; omega⟩⟩, by simp only; omega, rfl, ?_, ?_⟩
    · rw [List.length_append, flatR_length hn, Nat.add_mul]; omega
    · intro hx
      rcases List.mem_cons.1 hx with hx | hx
      · have := (hmem o List.mem_cons_self).2; rw [<- hx] at this; omega
      · have := (hmem _ (List.mem_cons_of_mem _ (hmem2 _ hx))).2; omega
    · intro m hm
      simp only
      rcases List.mem_cons.1 hm with rfl | hm
      · exact ⟨hL, by omega⟩
      · have hm' : m ∈ o :: rest := by
          rcases List.mem_cons.1 hm with rfl | hm
          · exact List.mem_cons_self
          · exact List.mem_cons_of_mem _ (hmem2 _ hm)
        have := hmem m hm'
        exact ⟨this.1, by omega⟩
    · intro p hp
      have hpo : p ≠ o := fun e => by subst e; have := (hmem p List.mem_cons_self).1; omega
      have hpr : p ∉ rest := fun hx => by have := (hmem p (List.mem_cons_of_mem _ hx)).1; omega
      have hpn : p ≠ s.nx := fun e => by subst e; omega
      simp only
      rw [tget_tset, if_neg hpn, tget_tset, if_neg hpo, j1 p (.inl fun hx => hpr (k2 p hx)), k1 p hpr]
    · intro p hp
      simp only
      rw [tget_tset, if_neg fun e => by subst e; omega]
theorem Own.vw {s : HS} {v : HV} {sz L n : Nat} {els : List (List HV)} (h : Own s v sz L els) (hd : isDLL els = true) : Vw s (n + 2) v (.psl els) := by
 obtain ⟨hs, _, hv⟩ := h
 rcases hv with ⟨rfl, rfl⟩ | ⟨o, hi, g, rest, rfl, hb, hh, _⟩
 ·exact .nils
 ·exact .rows hb hs hd hh
theorem Own.low {s s' : HS} {v : HV} {sz L : Nat} {els : List (List HV)} (h : Own s v sz L els) (hl : Low s.nx.toNat s s') : Own s' v sz L els := by
 obtain ⟨hs, hL, hv⟩ := h
 have h1 := hl.1
 refine ⟨hs, by omega, ?_⟩
 rcases hv with ⟨rfl, rfl⟩ | ⟨o, hi, g, rest, rfl, hb, hh, hg, hnd, hmem, hLg, hgn⟩
 ·exact .inl ⟨rfl, rfl⟩
 ·exact .inr ⟨o, hi, g, rest, rfl, by rw [hl.2.2.1 o (hmem o List.mem_cons_self).2]; exact hb, hh, by rw [hl.2.2.2 g hgn]; exact hg, hnd, fun m hm => ⟨(hmem m hm).1, by have := (hmem m hm).2; omega⟩, hLg, by omega⟩
@[simp] theorem appR_nils1 {s : HS} {sz mxl : Nat} {r : List HV} (hr : r.length = sz) (hm : 1 <= mxl) : appR sz mxl none (some .nils) (some (.psl [r])) s = .v (.sl s.nx 0 1 sz) { h := tset (some (.cells (Lst r) 0 sz s.nx)) s.nx s.h, nx := s.nx.succ, gr := tset (some [s.nx]) s.nx s.gr, ty := s.ty } := by
 subst hr
 rw [appR_psl (v := .nils) rfl (by simp) (Sz.cons rfl Sz.nil), append_nils (by simp) (by simpa using hm), newT_eq]
 simp
def OwnF (s : HS) (v : HV) (sz : Nat) (F : Ky -> Prop) (els : List (List HV)) : Prop :=
 Sz sz els /\ (∀ k, F k -> k.toNat < s.nx.toNat) /\ ((v = .nils /\ els = []) ∨ ∃ o t hi g rest, v = .sl o 0 els.length sz /\ tget s.h o = some (.cells t 0 hi g) /\ els.length * sz <= hi /\ (∀ j, j < els.length * sz -> nget t j = (flatR els)[j]?) /\ tget s.gr g = some (o :: rest) /\ o ∉ rest /\ (∀ m ∈ o :: rest, F m) /\ F g)
def Frm (F : Ky -> Prop) (s s' : HS) : Prop := s.nx.toNat <= s'.nx.toNat /\ s'.ty = s.ty /\ (∀ p, p.toNat < s.nx.toNat -> ¬ F p -> tget s'.h p = tget s.h p) /\ (∀ g, g.toNat < s.nx.toNat -> ¬ F g -> tget s'.gr g = tget s.gr g)
theorem OwnF.frame {s s' : HS} {v : HV} {sz : Nat} {F G : Ky -> Prop} {els : List (List HV)} (h : OwnF s v sz F els) (hf : Frm G s s') (hd : ∀ k, F k -> ¬ G k) : OwnF s' v sz F els := by
 obtain ⟨hs, hb, hv⟩ := h
 refine ⟨hs, fun k hk => Nat.lt_of_lt_of_le (hb k hk) hf.1, ?_⟩
 rcases hv with ⟨rfl, rfl⟩ | ⟨o, t, hi, g, rest, rfl, h1, h2, h3, h4, h5, h6, h7⟩
 ·exact .inl ⟨rfl, rfl⟩
 ·have ho := h6 o List.mem_cons_self
  exact .inr ⟨o, t, hi, g, rest, rfl, by rw [hf.2.2.1 o (hb o ho) (hd o ho)]; exact h1, h2, h3, by rw [hf.2.2.2 g (hb g h7) (hd g h7)]; exact h4, h5, h6, h7⟩
theorem OwnF.nils {s : HS} {sz : Nat} : OwnF s .nils sz (fun _ => False) [] := ⟨Sz.nil, fun _ h => h.elim, .inl ⟨rfl, rfl⟩⟩
theorem OwnF.isSl {s : HS} {v : HV} {sz : Nat} {F : Ky -> Prop} {els : List (List HV)} (h : OwnF s v sz F els) : isSl v = true := by
 rcases h.2.2 with ⟨rfl, _⟩ | ⟨o, t, hi, g, rest, rfl, _⟩ <;> rfl
theorem OwnF.len {s s1 : HS} {v : HV} {sz : Nat} {F : Ky -> Prop} {els : List (List HV)} (h : OwnF s v sz F els) : lenR 0 (some v) s1 = .v (.int .i64 (els.length : Int)) s1 := by
 rcases h.2.2 with ⟨rfl, rfl⟩ | ⟨o, t, hi, g, rest, rfl, _⟩ <;> simp
theorem OwnF.mono {s : HS} {v : HV} {sz : Nat} {F G : Ky -> Prop} {els : List (List HV)} (h : OwnF s v sz F els) (hg : ∀ k, F k -> G k) (hb : ∀ k, G k -> k.toNat < s.nx.toNat) : OwnF s v sz G els := by
 obtain ⟨hs, _, hv⟩ := h
 refine ⟨hs, hb, ?_⟩
 rcases hv with ⟨rfl, rfl⟩ | ⟨o, t, hi, g, rest, rfl, h1, h2, h3, h4, h5, h6, h7⟩
 ·exact .inl ⟨rfl, rfl⟩
 ·exact .inr ⟨o, t, hi, g, rest, rfl, h1, h2, h3, h4, h5, fun m hm => hg m (h6 m hm), hg g h7⟩
theorem getL_some' (t : Tr HV) (l : List HV) : ∀ (n k : Nat), (∀ i, i < n -> nget t (k + i) = l[i]?) -> n = l.length -> getL t n k = some l := by
 induction l with
 | nil => intro n k _ hn; simp at hn; subst hn; rfl
 | cons v r ih =>
  intro n k h hn
  cases n with
  | zero => simp at hn
  | succ n =>
   have he : getL t (n + 1) k = Option.rec none (fun v => Option.rec none (fun l => some (v :: l)) (getL t n (k + 1))) (nget t k) := rfl
   have h0 := h 0 (by omega)
   rw [Nat.add_zero] at h0
   rw [he, h0, ih n (k + 1) (fun i hi => by have := h (i + 1) (by omega); rwa [show k + (i + 1) = k + 1 + i by omega] at this) (by simpa using hn)]
   rfl
theorem OwnF.cells {s : HS} {o : Ky} {sz : Nat} {F : Ky -> Prop} {els : List (List HV)} {n : Nat} (h : OwnF s (.sl o 0 n sz) sz F els) : n = els.length /\ obCells (tget s.h o) 0 (els.length * sz) = some (flatR els) := by
 obtain ⟨hs, hb, hv⟩ := h
 rcases hv with ⟨h, _⟩ | ⟨o', t, hi, g, rest, h0, h1, h2, h3, h4⟩
 ·cases h
 ·cases h0
  refine ⟨rfl, ?_⟩
  rw [h1]
  show (if 0 <= 0 then if 0 + els.length * sz <= hi then getL t (els.length * sz) 0 else none else none) = _
  rw [if_pos (Nat.le_refl _), if_pos (by omega), getL_some' t (flatR els) _ 0 (fun i hi => by rw [Nat.zero_add]; exact h3 i hi) (flatR_length hs).symm]
theorem OwnF.vw {s : HS} {v : HV} {sz n : Nat} {F : Ky -> Prop} {els : List (List HV)} (h : OwnF s v sz F els) (hd : isDLL els = true) : Vw s (n + 2) v (.psl els) := by
 have hc := h
 obtain ⟨hs, _, hv⟩ := h
 rcases hv with ⟨rfl, rfl⟩ | ⟨o, t, hi, g, rest, rfl, hb, hh, _⟩
 ·exact .nils
 ·exact Vw.sl (l := flatR els) (l' := flatR els) hc.cells.2 (.data (by rw [isDL_flatR]; exact hd)) (fun _ => chunk_flatR hs) (fun h => List.eq_nil_of_length_eq_zero h)
theorem OwnF.at {s : HS} {v : HV} {sz : Nat} {F : Ky -> Prop} {els : List (List HV)} (h : OwnF s v sz F els) {k : IntKind} (i : Nat) (hi : i < els.length) : ∃ o, iaV (some v) (some (.int k (i : Int))) sz s = .v (.ptr o (i * sz)) s /\ F o /\ (∀ j, j < sz -> obCell (tget s.h o) (i * sz + j) = (els[i])[j]?) /\ obCells (tget s.h o) (i * sz) sz = some els[i] := by
 obtain ⟨hs, _, hv⟩ := h
 rcases hv with ⟨rfl, rfl⟩ | ⟨o, t, hii, g, rest, rfl, hb, hh, hn, hg, _, hF, _⟩
 ·simp at hi
 ·have hlt : i * sz + sz <= els.length * sz := by rw [<- Nat.succ_mul]; exact Nat.mul_le_mul_right _ hi
  refine ⟨o, by simp [hi], hF o List.mem_cons_self, fun j hj => ?_, ?_⟩
  ·rw [hb]
   show (if 0 <= i * sz + j then if i * sz + j < hii then nget t (i * sz + j) else none else none) = _
   rw [if_pos (Nat.zero_le _), if_pos (by omega), hn _ (by omega), flatR_get hs i j hi hj]
  ·rw [hb]
   show (if 0 <= i * sz then if i * sz + sz <= hii then getL t sz (i * sz) else none else none) = _
   have hr : els[i].length = sz := hs _ (List.getElem_mem hi)
   rw [if_pos (Nat.zero_le _), if_pos (by omega), getL_some' t els[i] _ _ (fun j hj => by rw [hn _ (by omega), flatR_get hs i j hi hj]) hr.symm]
theorem OwnF.append {s : HS} {v : HV} {sz mxl : Nat} {F : Ky -> Prop} {els new : List (List HV)} (h : OwnF s v sz F els) (hn : Sz sz new) (h0 : new ≠ []) (hm : els.length + new.length <= mxl) :
    ∃ v' s', appR sz mxl none (some v) (some (.psl new)) s = .v v' s' /\ OwnF s' v' sz (fun k => F k ∨ k = s.nx) (els ++ new) /\ Frm F s s' /\ s'.nx = s.nx.succ := by
  have hc0 : new.length ≠ 0 := by simpa using h0
  have hsucc := Ky.toNat_succ s.nx
  rw [appR_psl h.isSl h0 hn]
  obtain ⟨hs, hbd, hv⟩ := h
  rcases hv with ⟨rfl, rfl⟩ | ⟨o, t, hi, g, rest, rfl, hb, hh, hct, hg, hnd, hmem, hFg⟩
  · rw [append_nils hc0 (by simpa using hm), newT_eq]
    refine ⟨_, _, rfl, ⟨hn, fun k hk => ?_, .inr ⟨s.nx, Lst (flatR new), (flatR new).length, s.nx, [], rfl, by rw [tget_tset, if_pos rfl], by rw [flatR_length hn]; exact Nat.le_refl _, fun j hj => nget_Lst, by rw [tget_tset, if_pos rfl], by simp, fun m hm => ?_, .inr rfl⟩⟩, ⟨by simp only; omega, rfl, fun p hp _ => ?_, fun p hp _ => ?_⟩, rfl⟩
    · simp only
      rcases hk with hk | rfl
      · have := hbd k hk; omega
      · omega
    · simp only [List.mem_singleton] at hm; exact .inr hm
    · simp only; rw [tget_tset, if_neg fun e => by subst e; omega]
    · simp only; rw [tget_tset, if_neg fun e => by subst e; omega]
  · rw [append_sl hc0 hb hg]
    obtain ⟨k1, k2⟩ := keepN_frame rest s.h 11
    rw [show (12 : Nat) = 11 + 1 from rfl, keepN_head]
    generalize hh1 : (keepN s.h 11 rest).1 = h1 at k1
    generalize hr1 : (keepN s.h 11 rest).2 = r1 at k2
    obtain ⟨j1, j2⟩ := killAll_frame o (0 + els.length * sz) (0 + els.length * sz + lenL (flatR new)) r1 h1
    have hkill := killAll_head h1 o (0 + els.length * sz) (0 + els.length * sz + lenL (flatR new)) r1
    generalize hh2 : (killAll h1 o (0 + els.length * sz) (0 + els.length * sz + lenL (flatR new)) r1).1 = h2 at j1 hkill
    generalize hr2 : (killAll h1 o (0 + els.length * sz) (0 + els.length * sz + lenL (flatR new)) r1).2 = r2 at j2 hkill
    have hmem2 : ∀ m ∈ r2, m ∈ rest := fun m hm => k2 m (j2 m hm)
    have ho : tget h2 o = some (.cells t 0 hi g) := by rw [j1 o (.inr rfl), k1 o hnd, hb]
    have hres : appG s sz mxl none o 0 els.length (flatR new) new.length g (h1, o :: r1) = .v (.sl s.nx 0 (els.length + new.length) sz) { h := tset (some (.cells (setL (flatR new) (0 + els.length * sz) t) 0 (0 + els.length * sz + (flatR new).length) g)) s.nx (tset (some (.cells t 0 (0 + els.length * sz) g)) o h2), nx := s.nx.succ, gr := tset (some (s.nx :: o :: r2)) g s.gr, ty := s.ty } := by
      show (match killAll h1 o (0 + els.length * sz) (0 + els.length * sz + lenL (flatR new)) (o :: r1) with
          | (h', ms') => match tget h' o with
            | some (.cells t lo hi _) =>
              bif hasK o ms' && Nat.ble lo 0 && Nat.ble (0 + els.length * sz) hi && Nat.ble (els.length + new.length) mxl then
                Res.v (.sl s.nx 0 (els.length + new.length) sz) { h := tset (some (.cells (setL (flatR new) (0 + els.length * sz) t) 0 (0 + els.length * sz + lenL (flatR new)) g)) s.nx (tset (some (.cells t lo (0 + els.length * sz) g)) o h'), nx := s.nx.succ, gr := tset (some (s.nx :: ms')) g s.gr, ty := tagS none o s }
              else .bad
            | _ => .bad) = _
      rw [hkill]
      show (match tget h2 o with
            | some (.cells t lo hi _) =>
              bif hasK o (o :: r2) && Nat.ble lo 0 && Nat.ble (0 + els.length * sz) hi && Nat.ble (els.length + new.length) mxl then
                Res.v (.sl s.nx 0 (els.length + new.length) sz) { h := tset (some (.cells (setL (flatR new) (0 + els.length * sz) t) 0 (0 + els.length * sz + lenL (flatR new)) g)) s.nx (tset (some (.cells t lo (0 + els.length * sz) g)) o h2), nx := s.nx.succ, gr := tset (some (s.nx :: o :: r2)) g s.gr, ty := tagS none o s }
              else .bad
            | _ => .bad) = _
      rw [ho]
      show (bif hasK o (o :: r2) && Nat.ble 0 0 && Nat.ble (0 + els.length * sz) hi && Nat.ble (els.length + new.length) mxl then
                Res.v (.sl s.nx 0 (els.length + new.length) sz) { h := tset (some (.cells (setL (flatR new) (0 + els.length * sz) t) 0 (0 + els.length * sz + lenL (flatR new)) g)) s.nx (tset (some (.cells t 0 (0 + els.length * sz) g)) o h2), nx := s.nx.succ, gr := tset (some (s.nx :: o :: r2)) g s.gr, ty := tagS none o s }
              else .bad) = _
      rw [show hasK o (o :: r2) = true by simp [hasK, (Ky.beq_iff o o).2 rfl], nble_dec, nble_dec, nble_dec, decide_eq_true (Nat.le_refl 0), decide_eq_true (show 0 + els.length * sz <= hi by omega), decide_eq_true hm, lenL_len]
      rfl
    have hle : (flatR els).length = els.length * sz := flatR_length hs
    have hln : (flatR new).length = new.length * sz := flatR_length hn
    refine ⟨_, _, hres, ⟨Sz.append hs hn, fun k hk => ?_, .inr ⟨s.nx, _, _, g, o :: r2, by rw [List.length_append], by rw [tget_tset, if_pos rfl], ?_, fun j hj => ?_, by rw [tget_tset, if_pos rfl], ?_, fun m hm => ?_, .inl hFg⟩⟩, ⟨by simp only; omega, rfl, fun p hp hF => ?_, fun p hp hF => ?_⟩, rfl⟩
    · simp only
      rcases hk with hk | rfl
      · have := hbd k hk; omega
      · omega
    · rw [List.length_append, hln, Nat.add_mul]; omega
    · rw [List.length_append, Nat.add_mul] at hj
      rw [nget_setL, flatR_append]
      by_cases hjl : j < els.length * sz
      · rw [if_neg (by omega), hct j hjl, List.getElem?_append_left (by omega)]
      · rw [if_pos (by omega), List.getElem?_append_right (by omega), hle, Nat.zero_add]
    · intro hx
      rcases List.mem_cons.1 hx with hx | hx
      · have := hbd o (hmem o List.mem_cons_self); rw [<- hx] at this; omega
      · have := hbd _ (hmem _ (List.mem_cons_of_mem _ (hmem2 _ hx))); omega
    · rcases List.mem_cons.1 hm with rfl | hm
      · exact .inr rfl
      · refine .inl (hmem m ?_)
        rcases List.mem_cons.1 hm with rfl | hm
        · exact List.mem_cons_self
        · exact List.mem_cons_of_mem _ (hmem2 _ hm)
    · have hpo : p ≠ o := fun e => by subst e; exact hF (hmem p List.mem_cons_self)
      have hpr : p ∉ rest := fun hx => hF (hmem p (List.mem_cons_of_mem _ hx))
      have hpn : p ≠ s.nx := fun e => by subst e; omega
      simp only
      rw [tget_tset, if_neg hpn, tget_tset, if_neg hpo, j1 p (.inl fun hx => hpr (k2 p hx)), k1 p hpr]
    · simp only
      rw [tget_tset, if_neg fun e => by subst e; exact hF hFg]
theorem OwnF.cut {s : HS} {v : HV} {sz : Nat} {F : Ky -> Prop} {els : List (List HV)} (h : OwnF s v sz F els) (n : Nat) (hn : n <= els.length) (h0 : els ≠ []) : ∃ o, v = .sl o 0 els.length sz /\ OwnF s (.sl o 0 n sz) sz F (els.take n) := by
 obtain ⟨hs, hb, hv⟩ := h
 rcases hv with ⟨rfl, rfl⟩ | ⟨o, t, hi, g, rest, rfl, h1, h2, h3, h4, h5, h6, h7⟩
 ·exact absurd rfl h0
 ·have hl : (els.take n).length = n := by rw [List.length_take]; omega
  have hle : n * sz <= els.length * sz := Nat.mul_le_mul_right _ hn
  have hst : Sz sz (els.take n) := fun r hr => hs r (List.mem_of_mem_take hr)
  refine ⟨o, rfl, hst, hb, .inr ⟨o, t, hi, g, rest, by rw [hl], h1, by rw [hl]; omega, fun j hj => ?_, h4, h5, h6, h7⟩⟩
  rw [hl] at hj
  rw [h3 j (by omega)]
  have : flatR els = flatR (els.take n) ++ flatR (els.drop n) := by rw [<- flatR_append, List.take_append_drop]
  rw [this, List.getElem?_append_left (by rw [flatR_length hst, hl]; omega)]
theorem flatR_set1 {els : List (List HV)} (hs : Sz 1 els) (i : Nat) (v : HV) (j : Nat) (hj : j < els.length) (hi : i < els.length) : (flatR (els.set i [v]))[j]? = if j = i then some v else (flatR els)[j]? := by
 have hs' : Sz 1 (els.set i [v]) := by
  intro r hr
  rcases List.mem_or_eq_of_mem_set hr with h | rfl
  ·exact hs r h
  ·rfl
 have h1 := flatR_get hs' j 0 (by rw [List.length_set]; exact hj) (by omega)
 have h2 := flatR_get hs j 0 hj (by omega)
 rw [Nat.mul_one, Nat.add_zero] at h1 h2
 rw [h1, h2, List.getElem_set]
 by_cases h : i = j
 ·subst h; simp
 ·simp [h, Ne.symm h]
theorem OwnF.set1 {s : HS} {v : HV} {F : Ky -> Prop} {els : List (List HV)} (h : OwnF s v 1 F els) (i : Nat) (hi : i < els.length) (x : HV) (hx : cellsOf x = some [x]) :
  ∃ o s', iaV (some v) (some (.int .i64 (i : Int))) 1 s = .v (.ptr o (i * 1)) s /\ stV 1 (some (.ptr o (i * 1))) (some x) s = .v .undef s' /\ OwnF s' v 1 F (els.set i [x]) /\ Frm F s s' /\ s'.nx = s.nx := by
 obtain ⟨hs, hbd, hv⟩ := h
 rcases hv with ⟨rfl, rfl⟩ | ⟨o, t, hii, g, rest, rfl, hb, hh, hn, hg, hnd, hF, hFg⟩
 ·simp at hi
 ·have hlt : i * 1 + 1 <= els.length * 1 := by omega
  have hs' : Sz 1 (els.set i [x]) := by
   intro r hr
   rcases List.mem_or_eq_of_mem_set hr with h | rfl
   ·exact hs r h
   ·rfl
  have hst : stV 1 (some (.ptr o (i * 1))) (some x) s = opt (s.store1 o (i * 1) [x] t 0 hii g (o :: rest)) (fun s' => .v .undef s') .bad := by
   rw [stV_ptr, hx]
   simp only [opt_some, List.length_singleton, if_true]
   rw [store_eq, hb]
   show opt (if 0 <= i * 1 then if i * 1 + [x].length <= hii then (match tget s.gr g with | some ms => s.store1 o (i * 1) [x] t 0 hii g ms | none => none) else none else none) _ _ = _
   rw [if_pos (Nat.zero_le _), if_pos (by simp only [List.length_singleton]; omega), hg]
  refine ⟨o, ?_⟩
  rw [hst]
  have hcont : ∀ j, j < els.length * 1 -> nget (setL [x] (i * 1) t) j = (flatR (els.set i [x]))[j]? := by
   intro j hj
   rw [nget_setL, flatR_set1 hs i x j (by omega) hi]
   simp only [List.length_singleton, Nat.mul_one]
   by_cases hji : j = i
   ·subst hji; simp
   ·rw [if_neg (by omega), if_neg hji, hn j hj]
  cases rest with
  | nil =>
   refine ⟨_, by simp [hi], rfl, ⟨hs', hbd, .inr ⟨o, _, hii, g, [], by rw [List.length_set], by rw [tget_tset, if_pos rfl], by rw [List.length_set]; exact hh, by rw [List.length_set]; exact hcont, hg, hnd, hF, hFg⟩⟩, ⟨Nat.le_refl _, rfl, fun p hp hpF => ?_, fun p hp hpF => rfl⟩, rfl⟩
   simp only
   rw [tget_tset, if_neg fun e => by subst e; exact hpF (hF p List.mem_cons_self)]
  | cons m rest =>
   obtain ⟨j1, j2⟩ := killAll_frame o (i * 1) (Nat.add (i * 1) (lenL [x])) (m :: rest) s.h
   have hkill := killAll_head s.h o (i * 1) (Nat.add (i * 1) (lenL [x])) (m :: rest)
   generalize hh2 : (killAll s.h o (i * 1) (Nat.add (i * 1) (lenL [x])) (m :: rest)).1 = h2 at j1 hkill
   generalize hr2 : (killAll s.h o (i * 1) (Nat.add (i * 1) (lenL [x])) (m :: rest)).2 = r2 at j2 hkill
   have hres : s.store1 o (i * 1) [x] t 0 hii g (o :: m :: rest) = some { h := tset (some (.cells (setL [x] (i * 1) t) 0 hii g)) o h2, nx := s.nx, gr := tset (some (o :: r2)) g s.gr, ty := s.ty } := by
    show (match killAll s.h o (i * 1) (Nat.add (i * 1) (lenL [x])) (o :: m :: rest) with | (h', ms') => some (HS.mk (tset (some (.cells (setL [x] (i * 1) t) 0 hii g)) o h') s.nx (tset (some ms') g s.gr) s.ty)) = _
    rw [hkill]
   rw [hres]
   refine ⟨_, by simp [hi], rfl, ⟨hs', hbd, .inr ⟨o, _, hii, g, r2, by rw [List.length_set], by rw [tget_tset, if_pos rfl], by rw [List.length_set]; exact hh, by rw [List.length_set]; exact hcont, by rw [tget_tset, if_pos rfl], fun hx => hnd (j2 o hx), fun p hp => ?_, hFg⟩⟩, ⟨Nat.le_refl _, rfl, fun p hp hpF => ?_, fun p hp hpF => ?_⟩, rfl⟩
   ·rcases List.mem_cons.1 hp with rfl | hp
    ·exact hF p List.mem_cons_self
    ·exact hF p (List.mem_cons_of_mem _ (j2 p hp))
   ·simp only
    rw [tget_tset, if_neg fun e => by subst e; exact hpF (hF p List.mem_cons_self)]
    exact j1 p (.inl fun hx => hpF (hF p (List.mem_cons_of_mem _ hx)))
   ·simp only
    rw [tget_tset, if_neg fun e => by subst e; exact hpF hFg]
def Cel (s : HS) (o : Ky) (l : List HV) : Prop := tget s.h o = some (.cells (Lst l) 0 l.length o) /\ tget s.gr o = some [o] /\ o.toNat < s.nx.toNat
theorem Cel.frame {s s' : HS} {o : Ky} {l : List HV} {F : Ky -> Prop} (h : Cel s o l) (hf : Frm F s s') (hF : ¬ F o) : Cel s' o l := ⟨by rw [hf.2.2.1 o h.2.2 hF]; exact h.1, by rw [hf.2.2.2 o h.2.2 hF]; exact h.2.1, Nat.lt_of_lt_of_le h.2.2 hf.1⟩
theorem Cel.set {s : HS} {o : Ky} {l : List HV} (h : Cel s o l) (k : Nat) (hk : k < l.length) (x : HV) (hx : cellsOf x = some [x]) : ∃ s', stV 1 (some (.ptr o k)) (some x) s = .v .undef s' /\ Cel s' o (l.set k x) /\ Frm (fun p => p = o) s s' /\ s'.nx = s.nx := by
 refine ⟨{ h := tset (some (.cells (Lst (l.set k x)) 0 l.length o)) o s.h, nx := s.nx, gr := s.gr, ty := s.ty }, ?_, ⟨by rw [tget_tset, if_pos rfl, List.length_set], h.2.1, h.2.2⟩, ⟨Nat.le_refl _, rfl, fun p hp hpF => by simp only; rw [tget_tset, if_neg hpF], fun p hp hpF => rfl⟩, rfl⟩
 rw [stV_ptr, hx]
 simp only [opt_some, List.length_singleton, if_true]
 rw [store_eq, h.1, obStore_c (Nat.zero_le _) (by simp only [List.length_singleton]; omega), h.2.1, storeG_1 (by simp only [List.length_singleton]; omega)]
 rfl
theorem Cel.get {s : HS} {o : Ky} {l : List HV} (h : Cel s o l) (k : Nat) (hk : k < l.length) : obCell (tget s.h o) k = l[k]? := by
 rw [h.1, obCell_c, if_pos (Nat.zero_le _), if_pos hk]
theorem Frm.refl {F : Ky -> Prop} {s : HS} : Frm F s s := ⟨Nat.le_refl _, rfl, fun _ _ _ => rfl, fun _ _ _ => rfl⟩
abbrev LEnt := HV × Nat × List (List HV)
structure MemL (s : HS) (o : Ky) (cells : List HV) (col : Ky -> Option Nat) (L : List LEnt) : Prop where
 cel : Cel s o cells
 co : col o = none
 own : ∀ i v sz els, L[i]? = some (v, sz, els) -> OwnF s v sz (fun k => col k = some i) els
section
variable {s : HS} {o : Ky} {cells : List HV} {col : Ky -> Option Nat} {L : List LEnt}
theorem OwnF.one {v : HV} {sz : Nat} {F : Ky -> Prop} {els : List (List HV)} (h : OwnF s v sz F els) : cellsOf v = some [v] := by
 rcases h.2.2 with ⟨rfl, _⟩ | ⟨o, t, hi, g, rest, rfl, _⟩ <;> rfl
theorem MemL.append (h : MemL s o cells col L) (i : Nat) {v : HV} {sz : Nat} {els : List (List HV)} (hi : L[i]? = some (v, sz, els)) {new : List (List HV)} (hn : Sz sz new) (h0 : new ≠ []) {mxl : Nat} (hm : els.length + new.length <= mxl) :
  ∃ v' s' col', appR sz mxl none (some v) (some (.psl new)) s = .v v' s' /\ cellsOf v' = some [v'] /\ MemL s' o cells col' (L.set i (v', sz, els ++ new)) := by
 have hil := (List.getElem?_eq_some_iff.1 hi).1
 obtain ⟨v', s', ha, how, hfr, hnx⟩ := (h.own i v sz els hi).append hn h0 hm
 have hsucc := Ky.toNat_succ s.nx
 refine ⟨v', s', fun k => if k = s.nx then some i else col k, ha, how.one, h.cel.frame hfr (by rw [h.co]; simp), ?_, fun j w sz' els' hj => ?_⟩
 ·rw [if_neg fun e => by have := h.cel.2.2; rw [e] at this; omega]; exact h.co
 ·rw [List.getElem?_set] at hj
  by_cases hij : i = j
  ·subst hij
   rw [if_pos rfl, if_pos hil] at hj
   cases hj
   refine how.mono (fun k hk => ?_) (fun k hk => ?_)
   ·rcases hk with hk | rfl
    ·show (if k = s.nx then some i else col k) = some i
     split
     ·rfl
     ·exact hk
    ·show (if s.nx = s.nx then some i else col s.nx) = some i
     rw [if_pos rfl]
   ·have hk : (if k = s.nx then some i else col k) = some i := hk
    rw [hnx]
    split at hk
    ·rename_i e; subst e; omega
    ·have := (h.own i v sz els hi).2.1 k hk; omega
  ·rw [if_neg hij] at hj
   have hw := h.own j w sz' els' hj
   refine (hw.frame hfr (fun k hk hk' => by have hk' : col k = some i := hk'; have hk : col k = some j := hk; rw [hk] at hk'; cases hk'; exact hij rfl)).mono (fun k hk => ?_) (fun k hk => ?_)
   ·have hb := hw.2.1 k hk
    show (if k = s.nx then some i else col k) = some j
    rw [if_neg fun e => by subst e; omega]; exact hk
   ·have hk : (if k = s.nx then some i else col k) = some j := hk
    rw [hnx]
    split at hk
    ·cases hk; exact absurd rfl hij
    ·have := hw.2.1 k hk; omega
theorem MemL.field (h : MemL s o cells col L) (k : Nat) (hk : k < cells.length) {x : HV} (hx : cellsOf x = some [x]) : ∃ s', stV 1 (some (.ptr o k)) (some x) s = .v .undef s' /\ MemL s' o (cells.set k x) col L := by
 obtain ⟨s', h1, h2, h3, h4⟩ := h.cel.set k hk x hx
 exact ⟨s', h1, h2, h.co, fun i v sz els hi => (h.own i v sz els hi).frame h3 (fun p hp e => by subst e; have hp : col p = some i := hp; rw [h.co] at hp; cases hp)⟩
theorem MemL.set1 (h : MemL s o cells col L) (i : Nat) {v : HV} {els : List (List HV)} (hi : L[i]? = some (v, 1, els)) (j : Nat) (hj : j < els.length) {x : HV} (hx : cellsOf x = some [x]) :
  ∃ o1 s', iaV (some v) (some (.int .i64 (j : Int))) 1 s = .v (.ptr o1 (j * 1)) s /\ stV 1 (some (.ptr o1 (j * 1))) (some x) s = .v .undef s' /\ MemL s' o cells col (L.set i (v, 1, els.set j [x])) := by
 have hil := (List.getElem?_eq_some_iff.1 hi).1
 obtain ⟨o1, s', h1, h2, h3, h4, h5⟩ := (h.own i v 1 els hi).set1 j hj x hx
 refine ⟨o1, s', h1, h2, h.cel.frame h4 (by rw [h.co]; simp), h.co, fun k w sz' els' hk => ?_⟩
 rw [List.getElem?_set] at hk
 by_cases hik : i = k
 ·subst hik
  rw [if_pos rfl, if_pos hil] at hk
  cases hk
  exact h3
 ·rw [if_neg hik] at hk
  exact (h.own k w sz' els' hk).frame h4 (fun p hp hp' => by have hp' : col p = some i := hp'; have hp : col p = some k := hp; rw [hp] at hp'; cases hp'; exact hik rfl)
theorem MemL.cut (h : MemL s o cells col L) (i : Nat) {v : HV} {sz : Nat} {els : List (List HV)} (hi : L[i]? = some (v, sz, els)) (n : Nat) (hn : n <= els.length) (h0 : els ≠ []) : ∃ o1, v = .sl o1 0 els.length sz /\ MemL s o cells col (L.set i (.sl o1 0 n sz, sz, els.take n)) := by
 have hil := (List.getElem?_eq_some_iff.1 hi).1
 obtain ⟨o1, h1, h2⟩ := (h.own i v sz els hi).cut n hn h0
 refine ⟨o1, h1, h.cel, h.co, fun k w sz' els' hk => ?_⟩
 rw [List.getElem?_set] at hk
 by_cases hik : i = k
 ·subst hik
  rw [if_pos rfl, if_pos hil] at hk
  cases hk
  exact h2
 ·rw [if_neg hik] at hk
  exact h.own k w sz' els' hk
theorem MemL.get (h : MemL s o cells col L) (k : Nat) {x : HV} (hx : cells[k]? = some x) : obCell (tget s.h o) k = some x := by
 rw [h.cel.get k (List.getElem?_eq_some_iff.1 hx).1, hx]
theorem MemL.len (h : MemL s o cells col L) (i : Nat) {v : HV} {sz : Nat} {els : List (List HV)} (hi : L[i]? = some (v, sz, els)) (s1 : HS) : lenR 0 (some v) s1 = .v (.int .i64 (els.length : Int)) s1 := (h.own i v sz els hi).len
theorem MemL.at1 (h : MemL s o cells col L) (i : Nat) {v : HV} {els : List (List HV)} (hi : L[i]? = some (v, 1, els)) (j : Nat) (hj : j < els.length) : ∃ o1, iaV (some v) (some (.int .i64 (j : Int))) 1 s = .v (.ptr o1 (j * 1)) s /\ obCell (tget s.h o1) (j * 1) = (els[j])[0]? := by
 obtain ⟨o1, h1, _, h3, _⟩ := (h.own i v 1 els hi).at (k := .i64) j hj
 exact ⟨o1, h1, by have := h3 0 (by omega); rwa [Nat.add_zero] at this⟩
theorem MemL.start (h : Cel s o cells) (hL : ∀ e ∈ L, e.1 = .nils /\ e.2.2 = []) : MemL s o cells (fun _ => none) L := by
 refine ⟨h, rfl, fun i v sz els hi => ?_⟩
 obtain ⟨h1, h2⟩ := hL _ (List.mem_of_getElem? hi)
 simp only at h1 h2
 subst h1; subst h2
 exact ⟨Sz.nil, fun k hk => (by cases hk), .inl ⟨rfl, rfl⟩⟩
end
structure MemC (s : HS) (col : Ky -> Option Nat) (L : List LEnt) : Prop where
 bd : ∀ k i, col k = some i -> k.toNat < s.nx.toNat
 top : ∀ k i, col k = some i -> i < L.length
 own : ∀ i v sz els, L[i]? = some (v, sz, els) -> OwnF s v sz (fun k => col k = some i) els
section
variable {s : HS} {col : Ky -> Option Nat} {L : List LEnt}
theorem MemC.append (h : MemC s col L) (i : Nat) {v : HV} {sz : Nat} {els : List (List HV)} (hi : L[i]? = some (v, sz, els)) {new : List (List HV)} (hn : Sz sz new) (h0 : new ≠ []) {mxl : Nat} (hm : els.length + new.length <= mxl) :
  ∃ v' s' col', appR sz mxl none (some v) (some (.psl new)) s = .v v' s' /\ cellsOf v' = some [v'] /\ MemC s' col' (L.set i (v', sz, els ++ new)) := by
 have hil := (List.getElem?_eq_some_iff.1 hi).1
 obtain ⟨v', s', ha, how, hfr, hnx⟩ := (h.own i v sz els hi).append hn h0 hm
 have hsucc := Ky.toNat_succ s.nx
 refine ⟨v', s', fun k => if k = s.nx then some i else col k, ha, how.one, fun k j hk => ?_, fun k j hk => ?_, fun j w sz' els' hj => ?_⟩
 ·rw [hnx]
  split at hk
  ·rename_i e; subst e; omega
  ·have := h.bd k j hk; omega
 ·rw [List.length_set]
  split at hk
  ·cases hk; exact hil
  ·exact h.top k j hk
 ·rw [List.getElem?_set] at hj
  by_cases hij : i = j
  ·subst hij
   rw [if_pos rfl, if_pos hil] at hj
   cases hj
   refine how.mono (fun k hk => ?_) (fun k hk => ?_)
   ·rcases hk with hk | rfl
    ·show (if k = s.nx then some i else col k) = some i
     split
     ·rfl
     ·exact hk
    ·show (if s.nx = s.nx then some i else col s.nx) = some i
     rw [if_pos rfl]
   ·have hk : (if k = s.nx then some i else col k) = some i := hk
    rw [hnx]
    split at hk
    ·rename_i e; subst e; omega
    ·have := h.bd k i hk; omega
  ·rw [if_neg hij] at hj
   have hw := h.own j w sz' els' hj
   refine (hw.frame hfr (fun k hk hk' => by have hk' : col k = some i := hk'; have hk : col k = some j := hk; rw [hk] at hk'; cases hk'; exact hij rfl)).mono (fun k hk => ?_) (fun k hk => ?_)
   ·have hb := hw.2.1 k hk
    show (if k = s.nx then some i else col k) = some j
    rw [if_neg fun e => by subst e; omega]; exact hk
   ·have hk : (if k = s.nx then some i else col k) = some j := hk
    rw [hnx]
    split at hk
    ·cases hk; exact absurd rfl hij
    ·have := h.bd k j hk; omega
theorem MemC.set1 (h : MemC s col L) (i : Nat) {v : HV} {els : List (List HV)} (hi : L[i]? = some (v, 1, els)) (j : Nat) (hj : j < els.length) {x : HV} (hx : cellsOf x = some [x]) :
  ∃ o1 s', iaV (some v) (some (.int .i64 (j : Int))) 1 s = .v (.ptr o1 (j * 1)) s /\ stV 1 (some (.ptr o1 (j * 1))) (some x) s = .v .undef s' /\ MemC s' col (L.set i (v, 1, els.set j [x])) := by
 have hil := (List.getElem?_eq_some_iff.1 hi).1
 obtain ⟨o1, s', h1, h2, h3, h4, h5⟩ := (h.own i v 1 els hi).set1 j hj x hx
 refine ⟨o1, s', h1, h2, fun k i hk => by rw [h5]; exact h.bd k i hk, fun k i hk => by rw [List.length_set]; exact h.top k i hk, fun k w sz' els' hk => ?_⟩
 rw [List.getElem?_set] at hk
 by_cases hik : i = k
 ·subst hik
  rw [if_pos rfl, if_pos hil] at hk
  cases hk
  exact h3
 ·rw [if_neg hik] at hk
  exact (h.own k w sz' els' hk).frame h4 (fun p hp hp' => by have hp' : col p = some i := hp'; have hp : col p = some k := hp; rw [hp] at hp'; cases hp'; exact hik rfl)
theorem MemC.len (h : MemC s col L) (i : Nat) {v : HV} {sz : Nat} {els : List (List HV)} (hi : L[i]? = some (v, sz, els)) (s1 : HS) : lenR 0 (some v) s1 = .v (.int .i64 (els.length : Int)) s1 := (h.own i v sz els hi).len
theorem MemC.at1 (h : MemC s col L) (i : Nat) {v : HV} {els : List (List HV)} (hi : L[i]? = some (v, 1, els)) (j : Nat) (hj : j < els.length) : ∃ o1, iaV (some v) (some (.int .i64 (j : Int))) 1 s = .v (.ptr o1 (j * 1)) s /\ obCell (tget s.h o1) (j * 1) = (els[j])[0]? := by
 obtain ⟨o1, h1, _, h3, _⟩ := (h.own i v 1 els hi).at (k := .i64) j hj
 exact ⟨o1, h1, by have := h3 0 (by omega); rwa [Nat.add_zero] at this⟩
theorem MemC.push (h : MemC s col L) (sz : Nat) : MemC s col (L ++ [(.nils, sz, [])]) := by
 have hc : ∀ k, col k ≠ some L.length := fun k hk => by have := h.top k _ hk; omega
 refine ⟨h.bd, fun k i hk => by have := h.top k i hk; simp; omega, fun i v sz' els hi => ?_⟩
 rw [List.getElem?_append] at hi
 split at hi
 ·exact h.own i v sz' els hi
 ·rename_i hl
  obtain ⟨hi1, hi2⟩ := List.getElem?_eq_some_iff.1 hi
  simp only [List.length_singleton] at hi1
  have : i = L.length := by omega
  subst this
  simp at hi2
  obtain ⟨rfl, rfl, rfl⟩ := hi2
  exact ⟨Sz.nil, fun k hk => absurd hk (hc k), .inl ⟨rfl, rfl⟩⟩
theorem MemC.start (hL : ∀ e ∈ L, e.1 = .nils /\ e.2.2 = []) : MemC s (fun _ => none) L := by
 refine ⟨fun k i hk => (by cases hk), fun k i hk => (by cases hk), fun i v sz els hi => ?_⟩
 obtain ⟨h1, h2⟩ := hL _ (List.mem_of_getElem? hi)
 simp only at h1 h2
 subst h1; subst h2
 exact ⟨Sz.nil, fun k hk => (by cases hk), .inl ⟨rfl, rfl⟩⟩
theorem VwL.map {α : Type} {n : Nat} {f g : α -> HV} : ∀ {l : List α}, (∀ x ∈ l, Vw s n (f x) (g x)) -> VwL s n (l.map f) (l.map g)
 | [], _ => .nil
 | x :: r, h => .cons (h x List.mem_cons_self) (VwL.map fun y hy => h y (List.mem_cons_of_mem _ hy))
theorem OwnF.vwH {v : HV} {n : Nat} {F : Ky -> Prop} {α : Type} {f g : α -> HV} {l : List α} (h : OwnF s v 1 F (l.map fun x => [f x])) (hv : ∀ x ∈ l, Vw s n (f x) (g x)) : Vw s (n + 1) v (.psl (l.map fun x => [g x])) := by
 have hc := h
 have hfl : ∀ (h : α -> HV) (l : List α), flatR (l.map fun x => [h x]) = l.map h := by
  intro h l
  induction l with
  | nil => rfl
  | cons x r ih => simp [ih]
 obtain ⟨hs, _, hv'⟩ := h
 rcases hv' with ⟨rfl, h0⟩ | ⟨o, t, hi, g', rest, rfl, hb, hh, _⟩
 ·have : l = [] := by simpa using h0
  subst this
  exact .nils
 ·have hs' : Sz 1 (l.map fun x => [g x]) := Sz.map (f := fun x => [g x]) (fun x => rfl) l
  refine Vw.sl (l := l.map f) (l' := l.map g) (by rw [<- hfl f l]; exact hc.cells.2) (VwL.map hv) (fun _ => ?_) (fun h => ?_)
  ·rw [<- hfl g l]
   have := chunk_flatR hs'
   simpa using this
  ·simp only [List.length_map] at h
   rw [List.length_eq_zero_iff.1 h]; rfl
theorem MemC.frame {s' : HS} (h : MemC s col L) (hf : Frm (fun _ => False) s s') : MemC s' col L :=
 ⟨fun k i hk => Nat.lt_of_lt_of_le (h.bd k i hk) hf.1, h.top, fun i v sz els hi => (h.own i v sz els hi).frame hf (fun _ _ h => h)⟩
theorem Frm.alloc (b : Ob) (ms : List Ky) : Frm (fun _ => False) s { h := tset (some b) s.nx s.h, nx := s.nx.succ, gr := tset (some ms) s.nx s.gr, ty := s.ty } := by
 have hn := Ky.toNat_succ s.nx
 refine ⟨by simp only; omega, rfl, fun p hp _ => ?_, fun p hp _ => ?_⟩
 ·simp only; rw [tget_tset, if_neg fun e => by subst e; omega]
 ·simp only; rw [tget_tset, if_neg fun e => by subst e; omega]
theorem OwnF.hdr {v : HV} {sz : Nat} {F : Ky -> Prop} {els : List (List HV)} (h : OwnF s v sz F els) (h0 : els ≠ []) : ∃ o, v = .sl o 0 els.length sz := by
 rcases h.2.2 with ⟨rfl, h1⟩ | ⟨o, t, hi, g, rest, rfl, _⟩
 ·exact absurd h1 h0
 ·exact ⟨o, rfl⟩
theorem OwnF.cell {o : Ky} {n : Nat} {F : Ky -> Prop} {els : List (List HV)} (h : OwnF s (.sl o 0 n 1) 1 F els) (j : Nat) (hj : j < els.length) : obCell (tget s.h o) j = (els[j])[0]? := by
 obtain ⟨o', h1, _, h3, _⟩ := h.at (k := .i64) j hj
 rcases h.2.2 with ⟨h1, _⟩ | ⟨o2, t, hi, g, rest, he, _⟩
 ·cases h1
 ·cases he
  rw [iaV_s, if_pos hj, if_pos rfl] at h1
  simp at h1
  subst h1
  have := h3 0 (by omega)
  simpa using this
open Classical in
theorem MemC.join {s' : HS} (h : MemC s col L) (hf : Frm (fun _ => False) s s') {v : HV} {sz : Nat} {F : Ky -> Prop} {els : List (List HV)} (ho : OwnF s' v sz F els) (hb : ∀ k, F k -> s.nx.toNat <= k.toNat) : MemC s' (fun k => if F k then some L.length else col k) (L ++ [(v, sz, els)]) := by
 have hcol : ∀ k i, i < L.length -> ((if F k then some L.length else col k) = some i ↔ col k = some i) := by
  intro k i hi
  by_cases hk : F k
  ·have : col k ≠ some i := fun hc => by have := h.bd k i hc; have := hb k hk; omega
   simp only [hk, if_true]
   constructor
   ·intro hx; cases hx; omega
   ·intro hx; exact absurd hx this
  ·simp only [hk, if_false]
 refine ⟨fun k i hk => ?_, fun k i hk => ?_, fun i w sz' els' hi => ?_⟩
 ·split at hk
  ·rename_i hF; exact ho.2.1 k hF
  ·exact Nat.lt_of_lt_of_le (h.bd k i hk) hf.1
 ·rw [List.length_append, List.length_singleton]
  split at hk
  ·cases hk; omega
  ·have := h.top k i hk; omega
 ·rw [List.getElem?_append] at hi
  split at hi
  ·rename_i hil
   have hw := (h.own i w sz' els' hi).frame hf (fun _ _ h => h)
   refine hw.mono (fun k hk => (hcol k i hil).2 hk) (fun k hk => ?_)
   exact hw.2.1 k ((hcol k i hil).1 hk)
  ·rename_i hil
   obtain ⟨hi1, hi2⟩ := List.getElem?_eq_some_iff.1 hi
   simp only [List.length_singleton] at hi1
   have hie : i = L.length := by omega
   subst hie
   simp at hi2
   obtain ⟨rfl, rfl, rfl⟩ := hi2
   refine ho.mono (fun k hk => by show (if F k then some L.length else col k) = some L.length; rw [if_pos hk]) (fun k hk => ?_)
   have hk : (if F k then some L.length else col k) = some L.length := hk
   split at hk
   ·rename_i hF; exact ho.2.1 k hF
   ·have := h.top k _ hk; omega
end
section call
variable {L : Libs} {prog : Nat -> Option HF}
theorem R_loopN {c : HC} {e : En} {s : HS} {o : Out} (h : ev (lim L prog) (.loop c) e s = o) (ho : Good o) : lim L prog (.loop c e s) = o := lim_step h ho
theorem ev_loop {c : HC} {e : En} {s : HS} : ev (lim L prog) (.loop c) e s = (ev (lim L prog) c e s).asNormal (fun e' s' => lim L prog (.loop c e' s')) := rfl
theorem loopN_up {c : HC} (n : Nat) (I : Nat -> En -> HS -> Prop) (Q : Out -> Prop) (i : Nat) (e : En) (s : HS) (hi : i <= n) (hI : I i e s)
  (round : ∀ i e s, i < n -> I i e s -> (∃ e' s', ev (lim L prog) c e s = .code .normal e' s' /\ I (i + 1) e' s') ∨ (Stops (ev (lim L prog) c e s) /\ Q (ev (lim L prog) c e s)))
  (last : ∀ e s, I n e s -> Stops (ev (lim L prog) c e s) /\ Q (ev (lim L prog) c e s)) :
  ∃ o, ev (lim L prog) (.loop c) e s = o /\ Stops o /\ Q o := by
 obtain ⟨k, hk⟩ : ∃ k, n - i = k := ⟨_, rfl⟩
 induction k generalizing i e s with
 | zero =>
  obtain rfl : i = n := by omega
  obtain ⟨h1, h2⟩ := last e s hI
  exact ⟨_, by rw [ev_loop, h1.asNormal], h1, h2⟩
 | succ k ih =>
  rcases round i e s (by omega) hI with ⟨e', s', h1, h2⟩ | ⟨h1, h2⟩
  ·obtain ⟨o, g1, g2, g3⟩ := ih (i + 1) e' s' (by omega) h2 (by omega)
   exact ⟨o, by rw [ev_loop, h1, asNormal_normal]; exact R_loopN g1 g2.good, g2, g3⟩
  ·exact ⟨_, by rw [ev_loop, h1.asNormal], h1, h2⟩
theorem loopN_use {c : HC} {e : En} {s : HS} {o : Out} (ho : ev (lim L prog) (.loop c) e s = o) (n : Nat) (I : Nat -> En -> HS -> Prop) (Q : Out -> Prop) (i : Nat) (hi : i <= n) (hI : I i e s)
  (round : ∀ i e s r, i < n -> I i e s -> ev (lim L prog) c e s = r -> (∃ e' s', r = .code .normal e' s' /\ I (i + 1) e' s') ∨ (Stops r /\ Q r))
  (last : ∀ e s r, I n e s -> ev (lim L prog) c e s = r -> Stops r /\ Q r) : Q o := by
 obtain ⟨o', h1, h2, h3⟩ := loopN_up n I Q i e s hi hI (fun i e s hi hI => round i e s _ hi hI rfl) (fun e s hI => last e s _ hI rfl)
 rw [<- ho, h1]
 exact h3
abbrev Up (N : Nat) : Ky -> Prop := fun k => N <= k.toNat
def Stab (N : Nat) (p : HS -> Prop) : Prop := ∀ s1 s2, p s1 -> Frm (Up N) s1 s2 -> p s2
def Iter (L : Libs) (prog : Nat -> Option HF) (f : Nat) (pre post items : List HV) : Prop :=
 ∀ (l : Ky) (G : Ky -> Prop) (I : List HV -> HS -> Prop) (Fn : HS -> Prop) (s : HS), (∀ k, G k -> k.toNat < s.nx.toNat) -> (∀ x, Stab s.nx.toNat (I x)) -> Stab s.nx.toNat Fn ->
  (∀ x rest s1, s.nx.toNat <= s1.nx.toNat -> I (x :: rest) s1 -> ∃ b s2, lim L prog (.round l [x] s1) = .val (.bool b) s2 /\ Frm G s1 s2 /\ (b = true -> I rest s2) /\ (b = false -> Fn s2)) ->
  ∀ rest, I (items ++ rest) s -> ∃ s', lim L prog (.call f (pre ++ [.yld l] ++ post) s) = .val (.tup []) s' /\ Frm (fun k => G k ∨ Up s.nx.toNat k) s s' /\ (I rest s' ∨ Fn s')
end call
theorem Frm.mono {F G : Ky -> Prop} {s s' : HS} (h : Frm F s s') (hg : ∀ k, F k -> G k) : Frm G s s' := ⟨h.1, h.2.1, fun p hp hG => h.2.2.1 p hp fun hF => hG (hg p hF), fun p hp hG => h.2.2.2 p hp fun hF => hG (hg p hF)⟩
theorem Frm.trans {F : Ky -> Prop} {s s' s'' : HS} (h : Frm F s s') (k : Frm F s' s'') : Frm F s s'' := ⟨Nat.le_trans h.1 k.1, k.2.1.trans h.2.1, fun p hp hF => (k.2.2.1 p (Nat.lt_of_lt_of_le hp h.1) hF).trans (h.2.2.1 p hp hF), fun p hp hF => (k.2.2.2 p (Nat.lt_of_lt_of_le hp h.1) hF).trans (h.2.2.2 p hp hF)⟩
section
variable {L : Libs} {prog : Nat -> Option HF} {l : Ky} {s s1 s2 : HS} {e e1 e2 : En} {ps : List Nat} {asg body : HC}
abbrev lpO (st : Nat) (pd : Option HC) (e : En) (ps : List Nat) (asg body : HC) : Option Ob := some (.loop st pd e ps asg body)
theorem R_round {v : HV} {p : Nat} {o : Out} (hl : tget s.h l = lpO 0 none e [p] asg body) (ha : ev (lim L prog) asg (.cons p v e) s = .code .normal e1 s1) (h1 : tget s1.h l = lpO 0 none e [p] asg body)
    (hb : ev (lim L prog) body e1 (s1.setOb l (.loop 2 none e [p] asg body)) = o) (ho : ∀ e2 s2, (o = .code .normal e2 s2 ∨ o = .code .ret e2 s2) -> tget s2.h l = lpO 2 none e [p] asg body) :
    (∀ e2 s2, o = .code .normal e2 s2 -> lim L prog (.round l [v] s) = .val (.bool true) (s2.setOb l (.loop 0 none e [p] asg body))) /\
    (∀ e2 s2, o = .code .ret e2 s2 -> lim L prog (.round l [v] s) = .val (.bool false) (s2.setOb l (.loop 1 (some .ret) e [p] asg body))) := by
  have hstep : ∀ e2 s2 x b st pend, o = .code x e2 s2 -> ((x = .normal /\ b = true /\ st = 0 /\ pend = none) ∨ (x = .ret /\ b = false /\ st = 1 /\ pend = some HC.ret)) -> lim L prog (.round l [v] s) = .val (.bool b) (s2.setOb l (.loop st pend e [p] asg body)) := by
    intro e2 s2 x b st pend hx hk
    refine lim_step ?_ trivial
    show stepRound (lim L prog) l [v] s = _
    unfold stepRound
    rw [hl]
    show (bif Nat.beq (lenL [v]) (lenL [p]) then _ else _) = _
    rw [lenL_len, lenL_len, nbeq_dec]
    simp only [List.length_singleton, decide_true, cond_true]
    have hp : putPs e [p] [v] = .cons p v e := by simp [putPs]
    rw [hp, ha]
    show (match tget s1.h l with
        | some (.loop st pd e' ps' asg' body') => bif Nat.beq st 0 then (match ev (lim L prog) body e1 (s1.setOb l (.loop 2 pd e' ps' asg' body')) with
          | .code .normal _ s2 => endRd l 0 none s2
          | .code .ret _ s2 => endRd l 1 (some .ret) s2
          | .code (.exit i) _ s2 => endRd l 1 (some (.exit i)) s2
          | _ => .bad 11) else .bad 17
        | _ => .bad 18) = _
    rw [h1]
    show (match ev (lim L prog) body e1 (s1.setOb l (.loop 2 none e [p] asg body)) with
          | .code .normal _ s2 => endRd l 0 none s2
          | .code .ret _ s2 => endRd l 1 (some .ret) s2
          | .code (.exit i) _ s2 => endRd l 1 (some (.exit i)) s2
          | _ => .bad 11) = _
    rw [hb, hx]
    rcases hk with ⟨rfl, rfl, rfl, rfl⟩ | ⟨rfl, rfl, rfl, rfl⟩
    · show endRd l 0 none s2 = _
      unfold endRd
      rw [ho e2 s2 (.inl hx)]
      rfl
    · show endRd l 1 (some .ret) s2 = _
      unfold endRd
      rw [ho e2 s2 (.inr hx)]
      rfl
  exact ⟨fun e2 s2 h => hstep e2 s2 .normal true 0 none h (.inl ⟨rfl, rfl, rfl, rfl⟩), fun e2 s2 h => hstep e2 s2 .ret false 1 (some .ret) h (.inr ⟨rfl, rfl, rfl, rfl⟩)⟩
noncomputable def rfS (s : HS) (e : En) (ps : List Nat) (asg body : HC) : HS := { h := tset (some (.loop 0 none e ps asg body)) s.nx s.h, nx := s.nx.succ, gr := s.gr, ty := s.ty }
theorem evRf_of {x : X} {f : Nat} {a b : List HV} {v : HV} {e' : En} {ps' : List Nat} {asg' body' : HC} (hx : opd x e = some (.fn f a b)) (hc : lim L prog (.call f (a ++ [.yld s.nx] ++ b) (rfS s e ps asg body)) = .val v s2) :
  (tget s2.h s.nx = lpO 0 none e' ps' asg' body' -> evRf (lim L prog) x ps asg body e s = .code .normal e (s2.kill s.nx)) /\ (tget s2.h s.nx = lpO 1 (some .ret) e' ps' asg' body' -> evRf (lim L prog) x ps asg body e s = .code .ret e (s2.kill s.nx)) := by
 have hc : lim L prog (.call f (a ++ [HV.yld s.nx] ++ b) { h := tset (some (.loop 0 none e ps asg body)) s.nx s.h, nx := s.nx.succ, gr := s.gr, ty := s.ty }) = .val v s2 := hc
 constructor
 ·intro h
  unfold evRf
  rw [hx]
  simp only [hc, h]
  rfl
 ·intro h
  unfold evRf
  rw [hx]
  simp only [hc, h]
  rfl
theorem setOb_get {o p : Ky} {b : Ob} : tget (s.setOb o b).h p = if p = o then some b else tget s.h p := by
 show tget (tset (some b) o s.h) p = _
 rw [tget_tset]
theorem Frm.setOb {G : Ky -> Prop} {o : Ky} {b : Ob} (hG : G o) : Frm G s (s.setOb o b) := by
 refine ⟨Nat.le_refl _, rfl, fun p hp hn => ?_, fun p hp hn => rfl⟩
 rw [setOb_get, if_neg fun e => by subst e; exact hn hG]
@[simp] theorem kill_get {o p : Ky} : tget (s.kill o).h p = if p = o then none else tget s.h p := by
 show tget (tset none o s.h) p = _
 rw [tget_tset]
theorem Frm.rf : Frm (fun _ => False) s (rfS s e ps asg body) := by
 have hn := Ky.toNat_succ s.nx
 refine ⟨by simp only [rfS]; omega, rfl, fun p hp _ => ?_, fun p hp _ => rfl⟩
 simp only [rfS]; rw [tget_tset, if_neg fun e => by subst e; omega]
end
theorem ovr_all : ∀ (new a l : List HV), new.length = l.length -> ovr (a ++ l) a.length new = a ++ new
 | [], a, l, h => by
  have : l = [] := List.eq_nil_of_length_eq_zero h.symm
  subst this; rfl
 | v :: r, a, [], h => by simp at h
 | v :: r, a, w :: l, h => by
  rw [ovr_cons]
  have := ovr_all r (a ++ [v]) l (by simpa using h)
  simpa using this
theorem Cel.put {s : HS} {o : Ky} {l new : List HV} {v : HV} (h : Cel s o l) (hv : cellsOf v = some new) (hn : new.length = l.length) : ∃ s', stV l.length (some (.ptr o 0)) (some v) s = .v .undef s' /\ Cel s' o new /\ Frm (fun p => p = o) s s' /\ s'.nx = s.nx := by
 refine ⟨{ h := tset (some (.cells (Lst new) 0 l.length o)) o s.h, nx := s.nx, gr := s.gr, ty := s.ty }, ?_, ⟨by rw [tget_tset, if_pos rfl, hn], h.2.1, h.2.2⟩, ⟨Nat.le_refl _, rfl, fun p hp hpF => by simp only; rw [tget_tset, if_neg hpF], fun p hp hpF => rfl⟩, rfl⟩
 rw [stV_ptr, hv]
 simp only [opt_some, hn, if_true]
 rw [store_eq, h.1, obStore_c (Nat.zero_le _) (by omega), h.2.1, storeG_1 (by omega)]
 have := ovr_all new [] l hn
 simp only [List.nil_append, List.length_nil] at this
 rw [this]; rfl
theorem Cel.load {s : HS} {o : Ky} {l : List HV} (h : Cel s o l) : obCells (tget s.h o) 0 l.length = some l := by
 rw [h.1, obCells_c (Nat.le_refl _) (by omega) (by omega)]; simp
theorem Cel.kill {s : HS} {o k : Ky} {l : List HV} (h : Cel s o l) (hne : o ≠ k) : Cel (s.kill k) o l := ⟨by rw [kill_get, if_neg hne]; exact h.1, h.2.1, h.2.2⟩
def LU : Libs := { bt := 211, byt := 5, copyCheck := 155, str := 136, fmt := 236, tru := some 12 }
noncomputable abbrev R : Task -> Out := lim LU U.prog
section
variable {args l : List HV} {v : HV} {s : HS}
theorem q5 (hn : args.length = 3) (ha : isDL args = true) (h : outP [.tmp 6] (evP R U.b5 (args0 args 0) s0) = some v) : R (.call 5 args s) = .val v s := R_pure 5 U.f5 args v s rfl rfl rfl hn ha h
theorem v5 (ha : pureL args = false) (hv : VwL s 16 args l) (hd : isDL l = true) (hf : flatR0 v = true) (h : ∀ s, R (.call 5 l s) = .val v s) : R (.call 5 args s) = .val v s := R_view 5 U.f5 args l v s rfl rfl rfl ha hv hd hf (h s0)
theorem q9 (hn : args.length = 1) (ha : isDL args = true) (h : outP [.tmp 2] (evP R U.b9 (args0 args 0) s0) = some v) : R (.call 9 args s) = .val v s := R_pure 9 U.f9 args v s rfl rfl rfl hn ha h
theorem v9 (ha : pureL args = false) (hv : VwL s 16 args l) (hd : isDL l = true) (hf : flatR0 v = true) (h : ∀ s, R (.call 9 l s) = .val v s) : R (.call 9 args s) = .val v s := R_view 9 U.f9 args l v s rfl rfl rfl ha hv hd hf (h s0)
theorem q15 (hn : args.length = 1) (ha : isDL args = true) (h : outP [.tmp 2] (evP R U.b15 (args0 args 0) s0) = some v) : R (.call 15 args s) = .val v s := R_pure 15 U.f15 args v s rfl rfl rfl hn ha h
theorem q17 (hn : args.length = 3) (ha : isDL args = true) (h : outP [.tmp 6, .tmp 7] (evP R U.b17 (args0 args 0) s0) = some v) : R (.call 17 args s) = .val v s := R_pure 17 U.f17 args v s rfl rfl rfl hn ha h
theorem q18 (hn : args.length = 1) (ha : isDL args = true) (h : outP [.cell 2 (some 4)] (evP R U.b18 (args0 args 0) s0) = some v) : R (.call 18 args s) = .val v s := R_pure 18 U.f18 args v s rfl rfl rfl hn ha h
theorem q19 (hn : args.length = 3) (ha : isDL args = true) (h : outP [.tmp 6, .tmp 7] (evP R U.b19 (args0 args 0) s0) = some v) : R (.call 19 args s) = .val v s := R_pure 19 U.f19 args v s rfl rfl rfl hn ha h
theorem q24 (hn : args.length = 1) (ha : isDL args = true) (h : outP [.tmp 2] (evP R U.b24 (args0 args 0) s0) = some v) : R (.call 24 args s) = .val v s := R_pure 24 U.f24 args v s rfl rfl rfl hn ha h
theorem q25 (hn : args.length = 2) (ha : isDL args = true) (h : outP [.tmp 4] (evP R U.b25 (args0 args 0) s0) = some v) : R (.call 25 args s) = .val v s := R_pure 25 U.f25 args v s rfl rfl rfl hn ha h
theorem q26 (hn : args.length = 2) (ha : isDL args = true) (h : outP [.cell 4 (some 4), .tmp 5] (evP R U.b26 (args0 args 0) s0) = some v) : R (.call 26 args s) = .val v s := R_pure 26 U.f26 args v s rfl rfl rfl hn ha h
theorem q27 (hn : args.length = 2) (ha : isDL args = true) (h : outP [.cell 4 (some 4), .tmp 5] (evP R U.b27 (args0 args 0) s0) = some v) : R (.call 27 args s) = .val v s := R_pure 27 U.f27 args v s rfl rfl rfl hn ha h
theorem q28 (hn : args.length = 1) (ha : isDL args = true) (h : outP [.tmp 2] (evP R U.b28 (args0 args 0) s0) = some v) : R (.call 28 args s) = .val v s := R_pure 28 U.f28 args v s rfl rfl rfl hn ha h
theorem q45 (hn : args.length = 2) (ha : isDL args = true) (h : outP [.tmp 4, .tmp 5] (evP R U.b45 (args0 args 0) s0) = some v) : R (.call 45 args s) = .val v s := R_pure 45 U.f45 args v s rfl rfl rfl hn ha h
theorem q47 (hn : args.length = 3) (ha : isDL args = true) (h : outP [.tmp 6] (evP R U.b47 (args0 args 0) s0) = some v) : R (.call 47 args s) = .val v s := R_pure 47 U.f47 args v s rfl rfl rfl hn ha h
theorem q49 (hn : args.length = 2) (ha : isDL args = true) (h : outP [.tmp 4] (evP R U.b49 (args0 args 0) s0) = some v) : R (.call 49 args s) = .val v s := R_pure 49 U.f49 args v s rfl rfl rfl hn ha h
theorem q56 (hn : args.length = 3) (ha : isDL args = true) (h : outP [.tmp 6] (evP R U.b56 (args0 args 0) s0) = some v) : R (.call 56 args s) = .val v s := R_pure 56 U.f56 args v s rfl rfl rfl hn ha h
theorem q57 (hn : args.length = 1) (ha : isDL args = true) (h : outP [.cell 2 (some 3)] (evP R U.b57 (args0 args 0) s0) = some v) : R (.call 57 args s) = .val v s := R_pure 57 U.f57 args v s rfl rfl rfl hn ha h
theorem q59 (hn : args.length = 1) (ha : isDL args = true) (h : outP [.tmp 2] (evP R U.b59 (args0 args 0) s0) = some v) : R (.call 59 args s) = .val v s := R_pure 59 U.f59 args v s rfl rfl rfl hn ha h
theorem q60 (hn : args.length = 1) (ha : isDL args = true) (h : outP [.tmp 2] (evP R U.b60 (args0 args 0) s0) = some v) : R (.call 60 args s) = .val v s := R_pure 60 U.f60 args v s rfl rfl rfl hn ha h
theorem q61 (hn : args.length = 2) (ha : isDL args = true) (h : outP [.tmp 4, .tmp 5] (evP R U.b61 (args0 args 0) s0) = some v) : R (.call 61 args s) = .val v s := R_pure 61 U.f61 args v s rfl rfl rfl hn ha h
theorem q62 (hn : args.length = 3) (ha : isDL args = true) (h : outP [.tmp 6] (evP R U.b62 (args0 args 0) s0) = some v) : R (.call 62 args s) = .val v s := R_pure 62 U.f62 args v s rfl rfl rfl hn ha h
theorem q63 (hn : args.length = 2) (ha : isDL args = true) (h : outP [.tmp 4, .tmp 5, .tmp 6] (evP R U.b63 (args0 args 0) s0) = some v) : R (.call 63 args s) = .val v s := R_pure 63 U.f63 args v s rfl rfl rfl hn ha h
theorem q64 (hn : args.length = 1) (ha : isDL args = true) (h : outP [.tmp 2] (evP R U.b64 (args0 args 0) s0) = some v) : R (.call 64 args s) = .val v s := R_pure 64 U.f64 args v s rfl rfl rfl hn ha h
theorem q65 (hn : args.length = 1) (ha : isDL args = true) (h : outP [.tmp 2] (evP R U.b65 (args0 args 0) s0) = some v) : R (.call 65 args s) = .val v s := R_pure 65 U.f65 args v s rfl rfl rfl hn ha h
theorem v65 (ha : pureL args = false) (hv : VwL s 16 args l) (hd : isDL l = true) (hf : flatR0 v = true) (h : ∀ s, R (.call 65 l s) = .val v s) : R (.call 65 args s) = .val v s := R_view 65 U.f65 args l v s rfl rfl rfl ha hv hd hf (h s0)
theorem q75 (hn : args.length = 1) (ha : isDL args = true) (h : outP [.tmp 2] (evP R U.b75 (args0 args 0) s0) = some v) : R (.call 75 args s) = .val v s := R_pure 75 U.f75 args v s rfl rfl rfl hn ha h
theorem q82 (hn : args.length = 1) (ha : isDL args = true) (h : outP [.tmp 2] (evP R U.b82 (args0 args 0) s0) = some v) : R (.call 82 args s) = .val v s := R_pure 82 U.f82 args v s rfl rfl rfl hn ha h
theorem q86 (hn : args.length = 2) (ha : isDL args = true) (h : outP [.tmp 4, .tmp 5] (evP R U.b86 (args0 args 0) s0) = some v) : R (.call 86 args s) = .val v s := R_pure 86 U.f86 args v s rfl rfl rfl hn ha h
theorem q87 (hn : args.length = 2) (ha : isDL args = true) (h : outP [.tmp 4, .tmp 5] (evP R U.b87 (args0 args 0) s0) = some v) : R (.call 87 args s) = .val v s := R_pure 87 U.f87 args v s rfl rfl rfl hn ha h
theorem q88 (hn : args.length = 1) (ha : isDL args = true) (h : outP [.tmp 2] (evP R U.b88 (args0 args 0) s0) = some v) : R (.call 88 args s) = .val v s := R_pure 88 U.f88 args v s rfl rfl rfl hn ha h
theorem q89 (hn : args.length = 2) (ha : isDL args = true) (h : outP [.tmp 4] (evP R U.b89 (args0 args 0) s0) = some v) : R (.call 89 args s) = .val v s := R_pure 89 U.f89 args v s rfl rfl rfl hn ha h
theorem q91 (hn : args.length = 1) (ha : isDL args = true) (h : outP [.cell 2 (some 4)] (evP R U.b91 (args0 args 0) s0) = some v) : R (.call 91 args s) = .val v s := R_pure 91 U.f91 args v s rfl rfl rfl hn ha h
theorem q94 (hn : args.length = 2) (ha : isDL args = true) (h : outP [.tmp 4, .tmp 5] (evP R U.b94 (args0 args 0) s0) = some v) : R (.call 94 args s) = .val v s := R_pure 94 U.f94 args v s rfl rfl rfl hn ha h
theorem q95 (hn : args.length = 1) (ha : isDL args = true) (h : outP [.cell 2 (some 4), .tmp 3] (evP R U.b95 (args0 args 0) s0) = some v) : R (.call 95 args s) = .val v s := R_pure 95 U.f95 args v s rfl rfl rfl hn ha h
theorem q112 (hn : args.length = 1) (ha : isDL args = true) (h : outP [.tmp 2] (evP R U.b112 (args0 args 0) s0) = some v) : R (.call 112 args s) = .val v s := R_pure 112 U.f112 args v s rfl rfl rfl hn ha h
theorem q113 (hn : args.length = 1) (ha : isDL args = true) (h : outP [.tmp 2] (evP R U.b113 (args0 args 0) s0) = some v) : R (.call 113 args s) = .val v s := R_pure 113 U.f113 args v s rfl rfl rfl hn ha h
theorem q114 (hn : args.length = 1) (ha : isDL args = true) (h : outP [.tmp 2] (evP R U.b114 (args0 args 0) s0) = some v) : R (.call 114 args s) = .val v s := R_pure 114 U.f114 args v s rfl rfl rfl hn ha h
theorem q115 (hn : args.length = 2) (ha : isDL args = true) (h : outP [.tmp 4] (evP R U.b115 (args0 args 0) s0) = some v) : R (.call 115 args s) = .val v s := R_pure 115 U.f115 args v s rfl rfl rfl hn ha h
theorem q116 (hn : args.length = 1) (ha : isDL args = true) (h : outP [.tmp 2] (evP R U.b116 (args0 args 0) s0) = some v) : R (.call 116 args s) = .val v s := R_pure 116 U.f116 args v s rfl rfl rfl hn ha h
theorem q117 (hn : args.length = 1) (ha : isDL args = true) (h : outP [.cell 2 (some 4), .tmp 3] (evP R U.b117 (args0 args 0) s0) = some v) : R (.call 117 args s) = .val v s := R_pure 117 U.f117 args v s rfl rfl rfl hn ha h
theorem q118 (hn : args.length = 3) (ha : isDL args = true) (h : outP [.cell 6 (some 5), .cell 7 none] (evP R U.b118 (args0 args 0) s0) = some v) : R (.call 118 args s) = .val v s := R_pure 118 U.f118 args v s rfl rfl rfl hn ha h
theorem q125 (hn : args.length = 2) (ha : isDL args = true) (h : outP [.tmp 4] (evP R U.b125 (args0 args 0) s0) = some v) : R (.call 125 args s) = .val v s := R_pure 125 U.f125 args v s rfl rfl rfl hn ha h
theorem q126 (hn : args.length = 3) (ha : isDL args = true) (h : outP [.tmp 6, .tmp 7] (evP R U.b126 (args0 args 0) s0) = some v) : R (.call 126 args s) = .val v s := R_pure 126 U.f126 args v s rfl rfl rfl hn ha h
theorem q127 (hn : args.length = 1) (ha : isDL args = true) (h : outP [.tmp 2, .tmp 3] (evP R U.b127 (args0 args 0) s0) = some v) : R (.call 127 args s) = .val v s := R_pure 127 U.f127 args v s rfl rfl rfl hn ha h
theorem v127 (ha : pureL args = false) (hv : VwL s 16 args l) (hd : isDL l = true) (hf : flatR0 v = true) (h : ∀ s, R (.call 127 l s) = .val v s) : R (.call 127 args s) = .val v s := R_view 127 U.f127 args l v s rfl rfl rfl ha hv hd hf (h s0)
theorem q128 (hn : args.length = 2) (ha : isDL args = true) (h : outP [.tmp 4] (evP R U.b128 (args0 args 0) s0) = some v) : R (.call 128 args s) = .val v s := R_pure 128 U.f128 args v s rfl rfl rfl hn ha h
theorem v128 (ha : pureL args = false) (hv : VwL s 16 args l) (hd : isDL l = true) (hf : flatR0 v = true) (h : ∀ s, R (.call 128 l s) = .val v s) : R (.call 128 args s) = .val v s := R_view 128 U.f128 args l v s rfl rfl rfl ha hv hd hf (h s0)
theorem n129 {s' : HS} (hn : args.length = 2) (h : ∃ x e s1, ev R U.b129 (args0 args 0) s = .code x e s1 /\ (x = .normal ∨ x = .ret) /\ tupV (resOf e s1 []) s1 = .val v s') : R (.call 129 args s) = .val v s' := R_norm 129 U.f129 args v s s' rfl rfl rfl hn h
theorem q145 (hn : args.length = 1) (ha : isDL args = true) (h : outP [.tmp 2] (evP R U.b145 (args0 args 0) s0) = some v) : R (.call 145 args s) = .val v s := R_pure 145 U.f145 args v s rfl rfl rfl hn ha h
theorem q146 (hn : args.length = 2) (ha : isDL args = true) (h : outP [.tmp 4] (evP R U.b146 (args0 args 0) s0) = some v) : R (.call 146 args s) = .val v s := R_pure 146 U.f146 args v s rfl rfl rfl hn ha h
theorem q147 (hn : args.length = 2) (ha : isDL args = true) (h : outP [.tmp 4] (evP R U.b147 (args0 args 0) s0) = some v) : R (.call 147 args s) = .val v s := R_pure 147 U.f147 args v s rfl rfl rfl hn ha h
theorem n148 {s' : HS} (hn : args.length = 2) (h : ∃ x e s1, ev R U.b148 (args0 args 0) s = .code x e s1 /\ (x = .normal ∨ x = .ret) /\ tupV (resOf e s1 []) s1 = .val v s') : R (.call 148 args s) = .val v s' := R_norm 148 U.f148 args v s s' rfl rfl rfl hn h
theorem q151 (hn : args.length = 2) (ha : isDL args = true) (h : outP [.tmp 4, .tmp 5] (evP R U.b151 (args0 args 0) s0) = some v) : R (.call 151 args s) = .val v s := R_pure 151 U.f151 args v s rfl rfl rfl hn ha h
theorem q152 (hn : args.length = 2) (ha : isDL args = true) (h : outP [.tmp 4] (evP R U.b152 (args0 args 0) s0) = some v) : R (.call 152 args s) = .val v s := R_pure 152 U.f152 args v s rfl rfl rfl hn ha h
theorem v152 (ha : pureL args = false) (hv : VwL s 16 args l) (hd : isDL l = true) (hf : flatR0 v = true) (h : ∀ s, R (.call 152 l s) = .val v s) : R (.call 152 args s) = .val v s := R_view 152 U.f152 args l v s rfl rfl rfl ha hv hd hf (h s0)
theorem n153 {s' : HS} (hn : args.length = 2) (h : ∃ x e s1, ev R U.b153 (args0 args 0) s = .code x e s1 /\ (x = .normal ∨ x = .ret) /\ tupV (resOf e s1 []) s1 = .val v s') : R (.call 153 args s) = .val v s' := R_norm 153 U.f153 args v s s' rfl rfl rfl hn h
theorem q154 (hn : args.length = 2) (ha : isDL args = true) (h : outP [.tmp 4] (evP R U.b154 (args0 args 0) s0) = some v) : R (.call 154 args s) = .val v s := R_pure 154 U.f154 args v s rfl rfl rfl hn ha h
theorem q159 (hn : args.length = 2) (ha : isDL args = true) (h : outP [.tmp 4] (evP R U.b159 (args0 args 0) s0) = some v) : R (.call 159 args s) = .val v s := R_pure 159 U.f159 args v s rfl rfl rfl hn ha h
theorem q170 (hn : args.length = 2) (ha : isDL args = true) (h : outP [.cell 4 (some 5), .cell 5 none] (evP R U.b170 (args0 args 0) s0) = some v) : R (.call 170 args s) = .val v s := R_pure 170 U.f170 args v s rfl rfl rfl hn ha h
theorem q171 (hn : args.length = 1) (ha : isDL args = true) (h : outP [.tmp 2, .tmp 3] (evP R U.b171 (args0 args 0) s0) = some v) : R (.call 171 args s) = .val v s := R_pure 171 U.f171 args v s rfl rfl rfl hn ha h
theorem v171 (ha : pureL args = false) (hv : VwL s 16 args l) (hd : isDL l = true) (hf : flatR0 v = true) (h : ∀ s, R (.call 171 l s) = .val v s) : R (.call 171 args s) = .val v s := R_view 171 U.f171 args l v s rfl rfl rfl ha hv hd hf (h s0)
theorem q172 (hn : args.length = 1) (ha : isDL args = true) (h : outP [.tmp 2] (evP R U.b172 (args0 args 0) s0) = some v) : R (.call 172 args s) = .val v s := R_pure 172 U.f172 args v s rfl rfl rfl hn ha h
theorem q173 (hn : args.length = 1) (ha : isDL args = true) (h : outP [.tmp 2] (evP R U.b173 (args0 args 0) s0) = some v) : R (.call 173 args s) = .val v s := R_pure 173 U.f173 args v s rfl rfl rfl hn ha h
theorem v173 (ha : pureL args = false) (hv : VwL s 16 args l) (hd : isDL l = true) (hf : flatR0 v = true) (h : ∀ s, R (.call 173 l s) = .val v s) : R (.call 173 args s) = .val v s := R_view 173 U.f173 args l v s rfl rfl rfl ha hv hd hf (h s0)
theorem q174 (hn : args.length = 3) (ha : isDL args = true) (h : outP [.tmp 6] (evP R U.b174 (args0 args 0) s0) = some v) : R (.call 174 args s) = .val v s := R_pure 174 U.f174 args v s rfl rfl rfl hn ha h
theorem q175 (hn : args.length = 3) (ha : isDL args = true) (h : outP [.tmp 6] (evP R U.b175 (args0 args 0) s0) = some v) : R (.call 175 args s) = .val v s := R_pure 175 U.f175 args v s rfl rfl rfl hn ha h
theorem q176 (hn : args.length = 1) (ha : isDL args = true) (h : outP [.tmp 2] (evP R U.b176 (args0 args 0) s0) = some v) : R (.call 176 args s) = .val v s := R_pure 176 U.f176 args v s rfl rfl rfl hn ha h
theorem q177 (hn : args.length = 1) (ha : isDL args = true) (h : outP [.tmp 2] (evP R U.b177 (args0 args 0) s0) = some v) : R (.call 177 args s) = .val v s := R_pure 177 U.f177 args v s rfl rfl rfl hn ha h
theorem q178 (hn : args.length = 1) (ha : isDL args = true) (h : outP [.tmp 2] (evP R U.b178 (args0 args 0) s0) = some v) : R (.call 178 args s) = .val v s := R_pure 178 U.f178 args v s rfl rfl rfl hn ha h
theorem q179 (hn : args.length = 1) (ha : isDL args = true) (h : outP [.tmp 2] (evP R U.b179 (args0 args 0) s0) = some v) : R (.call 179 args s) = .val v s := R_pure 179 U.f179 args v s rfl rfl rfl hn ha h
theorem q180 (hn : args.length = 2) (ha : isDL args = true) (h : outP [.tmp 4] (evP R U.b180 (args0 args 0) s0) = some v) : R (.call 180 args s) = .val v s := R_pure 180 U.f180 args v s rfl rfl rfl hn ha h
theorem q181 (hn : args.length = 3) (ha : isDL args = true) (h : outP [.tmp 6] (evP R U.b181 (args0 args 0) s0) = some v) : R (.call 181 args s) = .val v s := R_pure 181 U.f181 args v s rfl rfl rfl hn ha h
theorem q182 (hn : args.length = 4) (ha : isDL args = true) (h : outP [.tmp 8] (evP R U.b182 (args0 args 0) s0) = some v) : R (.call 182 args s) = .val v s := R_pure 182 U.f182 args v s rfl rfl rfl hn ha h
theorem n208 {s' : HS} (hn : args.length = 2) (h : ∃ x e s1, ev R U.b208 (args0 args 0) s = .code x e s1 /\ (x = .normal ∨ x = .ret) /\ tupV (resOf e s1 []) s1 = .val v s') : R (.call 208 args s) = .val v s' := R_norm 208 U.f208 args v s s' rfl rfl rfl hn h
theorem q209 (hn : args.length = 1) (ha : isDL args = true) (h : outP [.tmp 2] (evP R U.b209 (args0 args 0) s0) = some v) : R (.call 209 args s) = .val v s := R_pure 209 U.f209 args v s rfl rfl rfl hn ha h
theorem q210 (hn : args.length = 3) (ha : isDL args = true) (h : outP [.cell 6 (some 2), .tmp 7] (evP R U.b210 (args0 args 0) s0) = some v) : R (.call 210 args s) = .val v s := R_pure 210 U.f210 args v s rfl rfl rfl hn ha h
theorem q211 (hn : args.length = 3) (ha : isDL args = true) (h : outP [.tmp 6] (evP R U.b211 (args0 args 0) s0) = some v) : R (.call 211 args s) = .val v s := R_pure 211 U.f211 args v s rfl rfl rfl hn ha h
theorem n222 {s' : HS} (hn : args.length = 2) (h : ∃ x e s1, ev R U.b222 (args0 args 0) s = .code x e s1 /\ (x = .normal ∨ x = .ret) /\ tupV (resOf e s1 []) s1 = .val v s') : R (.call 222 args s) = .val v s' := R_norm 222 U.f222 args v s s' rfl rfl rfl hn h
theorem q223 (hn : args.length = 2) (ha : isDL args = true) (h : outP [.tmp 4] (evP R U.b223 (args0 args 0) s0) = some v) : R (.call 223 args s) = .val v s := R_pure 223 U.f223 args v s rfl rfl rfl hn ha h
theorem q229 (hn : args.length = 1) (ha : isDL args = true) (h : outP [.cell 2 (some 4)] (evP R U.b229 (args0 args 0) s0) = some v) : R (.call 229 args s) = .val v s := R_pure 229 U.f229 args v s rfl rfl rfl hn ha h
theorem q230 (hn : args.length = 2) (ha : isDL args = true) (h : outP [.cell 4 (some 4)] (evP R U.b230 (args0 args 0) s0) = some v) : R (.call 230 args s) = .val v s := R_pure 230 U.f230 args v s rfl rfl rfl hn ha h
theorem n231 {s' : HS} (hn : args.length = 3) (h : ∃ x e s1, ev R U.b231 (args0 args 0) s = .code x e s1 /\ (x = .normal ∨ x = .ret) /\ tupV (resOf e s1 []) s1 = .val v s') : R (.call 231 args s) = .val v s' := R_norm 231 U.f231 args v s s' rfl rfl rfl hn h
theorem q232 (hn : args.length = 2) (ha : isDL args = true) (h : outP [.cell 4 (some 4)] (evP R U.b232 (args0 args 0) s0) = some v) : R (.call 232 args s) = .val v s := R_pure 232 U.f232 args v s rfl rfl rfl hn ha h
theorem v232 (ha : pureL args = false) (hv : VwL s 16 args l) (hd : isDL l = true) (hf : flatR0 v = true) (h : ∀ s, R (.call 232 l s) = .val v s) : R (.call 232 args s) = .val v s := R_view 232 U.f232 args l v s rfl rfl rfl ha hv hd hf (h s0)
end
set_option maxRecDepth 10000
set_option linter.unusedSimpArgs false
def escB (m : Mv) : Bool := m.kind = 3 /\ m.n = -1
def askB (m : Mv) : Bool := m.kind = 1 ∨ m.kind = 2
def turned (m : Mv) : Mv := ⟨m.arg, 0, m.kind, m.n⟩
def baseB (b : Bs) : Bool := 1 <= b.n /\ b.n <= 64
theorem w28 (m : Mv) (s : HS) : R (.call 28 [.agg m.c] s) = .val (.bool (escB m)) s := by
 refine q28 rfl (by simp) ?_
 by_cases h : m.kind = 3 <;> simp -implicitDefEqProofs [U.b28, h, dataV_data, escB]
theorem w62 (n a b : Int) (s : HS) : R (.call 62 [iV n, iV a, iV b] s) = .val (.bool (a <= n /\ n <= b)) s := by
 refine q62 rfl (by simp) ?_
 by_cases h : a <= n <;> simp -implicitDefEqProofs [U.b62, h, dataV_data]
theorem w60 (b : Bs) (s : HS) : R (.call 60 [.agg b.c] s) = .val (.bool (baseB b)) s := by
 refine q60 rfl (by simp) ?_
 simp -implicitDefEqProofs [U.b60, dataV_data, baseB, w62]
theorem w75 (m : Mv) (s : HS) : R (.call 75 [.agg m.c] s) = .val (.bool (askB m)) s := by
 refine q75 rfl (by simp) ?_
 by_cases h : m.kind = 1 <;> simp -implicitDefEqProofs [U.b75, h, dataV_data, askB]
theorem w88 (m : Mv) (s : HS) : R (.call 88 [.agg m.c] s) = .val (.bool (escB m)) s := by
 refine q88 rfl (by simp) ?_
 by_cases h : m.kind = 3 <;> simp -implicitDefEqProofs [U.b88, h, dataV_data, escB]
theorem w91 (m : Mv) (s : HS) : R (.call 91 [.agg m.c] s) = .val (.agg (turned m).c) s := by
 refine q91 rfl (by simp) ?_
 simp -implicitDefEqProofs [U.b91, dataV_data, turned, s0, obStore_c, storeG_1, obCells_c]
def isTyB (t : Ty) : Bool := baseB t.res && t.ps.all baseB && (t.ps.isEmpty || !t.res.cell)
def longB (t : Ty) : Bool := 5 < t.ps.length
def arCheck (a : Ar) : Int := if 8 < a.ids.length ∨ a.ids.any longB then 5 else if !baseB a.root || a.ids.any (fun t => !isTyB t) then 4 else 0
def ArOk (a : Ar) : Prop := a.ids.length < 4611686018427387904 /\ ∀ t ∈ a.ids, t.ps.length < 4611686018427387904
theorem w116 (b : Bs) (s : HS) : R (.call 116 [.agg b.c] s) = .val (.bool (baseB b)) s := by
 refine q116 rfl (by simp) ?_
 by_cases h : 1 <= b.n <;> simp -implicitDefEqProofs [U.b116, h, dataV_data, baseB]
theorem w145 (b : Bs) (s : HS) : R (.call 145 [.agg b.c] s) = .val (.bool (!baseB b)) s := by
 refine q145 rfl (by simp) ?_
 have := w116 b
 simp at this
 simp -implicitDefEqProofs [U.b145, dataV_data, this]
theorem w112 (t : Ty) (s : HS) : R (.call 112 [.agg t.c] s) = .val (.bool (longB t)) s := by
 refine q112 rfl (by simp) ?_
 simp -implicitDefEqProofs [U.b112, dataV_data, longB]
 omega
theorem w159 (p : Bs -> Bool) (k : Nat) (l : List Bs) (h : ∀ b ∈ l, ∀ s, R (.call k [.agg b.c] s) = .val (.bool (p b)) s) (hl : l.length < 4611686018427387904) (s : HS) : R (.call 159 [.psl (l.map Bs.c), .fn k [] []] s) = .val (iV (if l.any p then l.findIdx p else -1)) s := by
 refine q159 rfl (by simp) ?_
 simp -implicitDefEqProofs [U.b159]
 generalize ho : evP R (.loop U.c159_0) _ _ = o
 have hq := loop_use ho l.length
  (fun i e s' => s' = s0 /\ look e 0 = some (.psl (l.map Bs.c)) /\ look e 1 = some (.fn k [] []) /\ look e 7 = some (iV l.length) /\ look e 8 = some (iV i) /\ ∀ j (hj : j < i) (hl : j < l.length), p l[j] = false)
  (fun o => (∃ i e', ∃ hi : i < l.length, o = .code .ret e' s0 /\ look e' 4 = some (iV i) /\ p l[i] = true /\ ∀ j (hj : j < i) (hl : j < l.length), p l[j] = false) ∨ (∃ e', o = .code (.exit 0) e' s0 /\ ∀ j (hl : j < l.length), p l[j] = false))
  0 (by omega) (by simp)
  (fun i e s' r hi ⟨hs, h0, h1, h7, h8, hp⟩ hr => by
   subst hs
   have hc := h l[i] (List.getElem_mem hi)
   simp at hc
   cases hb : p l[i]
   ·simp -implicitDefEqProofs [U.c159_0, h0, h1, h7, h8, hi, wrap1 hi (Nat.le_of_lt hl), hc, hb] at hr
    subst hr
    refine .inl ⟨_, _, rfl, rfl, by simp [h0], by simp [h1], by simp [h7], by simp, fun j hj hl => ?_⟩
    by_cases hji : j = i
    ·subst hji; exact hb
    ·exact hp j (by omega) hl
   ·simp -implicitDefEqProofs [U.c159_0, h0, h1, h7, h8, hi, hc, hb] at hr
    subst hr
    exact .inr ⟨by simp, .inl ⟨i, _, hi, rfl, by simp, hb, hp⟩⟩)
  (fun e s' r ⟨hs, h0, h1, h7, h8, hp⟩ hr => by
   subst hs
   simp -implicitDefEqProofs [U.c159_0, h7, h8] at hr
   subst hr
   exact ⟨by simp, .inr ⟨_, rfl, fun j hl => hp j hl hl⟩⟩)
 clear ho
 rcases hq with ⟨i, e', hi, rfl, h4, hb, hp⟩ | ⟨e', rfl, hp⟩
 ·simp [h4, dataV_data]
  rw [if_pos ⟨_, List.getElem_mem hi, hb⟩, (List.findIdx_eq hi).2 ⟨hb, fun j hj => hp j hj (by omega)⟩]
 ·simp [dataV_data]
  intro x hx
  obtain ⟨j, hj, rfl⟩ := List.mem_iff_getElem.1 hx
  exact hp j hj
theorem w147 (p : Ty -> Bool) (k : Nat) (l : List Ty) (h : ∀ b ∈ l, ∀ s, R (.call k [.agg b.c] s) = .val (.bool (p b)) s) (hl : l.length < 4611686018427387904) (s : HS) : R (.call 147 [.psl (l.map Ty.c), .fn k [] []] s) = .val (iV (if l.any p then l.findIdx p else -1)) s := by
 refine q147 rfl (by simp) ?_
 simp -implicitDefEqProofs [U.b147]
 generalize ho : evP R (.loop U.c147_0) _ _ = o
 have hq := loop_use ho l.length
  (fun i e s' => s' = s0 /\ look e 0 = some (.psl (l.map Ty.c)) /\ look e 1 = some (.fn k [] []) /\ look e 7 = some (iV l.length) /\ look e 8 = some (iV i) /\ ∀ j (hj : j < i) (hl : j < l.length), p l[j] = false)
  (fun o => (∃ i e', ∃ hi : i < l.length, o = .code .ret e' s0 /\ look e' 4 = some (iV i) /\ p l[i] = true /\ ∀ j (hj : j < i) (hl : j < l.length), p l[j] = false) ∨ (∃ e', o = .code (.exit 0) e' s0 /\ ∀ j (hl : j < l.length), p l[j] = false))
  0 (by omega) (by simp)
  (fun i e s' r hi ⟨hs, h0, h1, h7, h8, hp⟩ hr => by
   subst hs
   have hc := h l[i] (List.getElem_mem hi)
   simp at hc
   cases hb : p l[i]
   ·simp -implicitDefEqProofs [U.c147_0, h0, h1, h7, h8, hi, wrap1 hi (Nat.le_of_lt hl), hc, hb] at hr
    subst hr
    refine .inl ⟨_, _, rfl, rfl, by simp [h0], by simp [h1], by simp [h7], by simp, fun j hj hl => ?_⟩
    by_cases hji : j = i
    ·subst hji; exact hb
    ·exact hp j (by omega) hl
   ·simp -implicitDefEqProofs [U.c147_0, h0, h1, h7, h8, hi, hc, hb] at hr
    subst hr
    exact .inr ⟨by simp, .inl ⟨i, _, hi, rfl, by simp, hb, hp⟩⟩)
  (fun e s' r ⟨hs, h0, h1, h7, h8, hp⟩ hr => by
   subst hs
   simp -implicitDefEqProofs [U.c147_0, h7, h8] at hr
   subst hr
   exact ⟨by simp, .inr ⟨_, rfl, fun j hl => hp j hl hl⟩⟩)
 clear ho
 rcases hq with ⟨i, e', hi, rfl, h4, hb, hp⟩ | ⟨e', rfl, hp⟩
 ·simp [h4, dataV_data]
  rw [if_pos ⟨_, List.getElem_mem hi, hb⟩, (List.findIdx_eq hi).2 ⟨hb, fun j hj => hp j hj (by omega)⟩]
 ·simp [dataV_data]
  intro x hx
  obtain ⟨j, hj, rfl⟩ := List.mem_iff_getElem.1 hx
  exact hp j hj
theorem w146 (p : Bs -> Bool) (k : Nat) (l : List Bs) (h : ∀ b ∈ l, ∀ s, R (.call k [.agg b.c] s) = .val (.bool (p b)) s) (hl : l.length < 4611686018427387904) (s : HS) : R (.call 146 [.psl (l.map Bs.c), .fn k [] []] s) = .val (.bool (l.any p)) s := by
 refine q146 rfl (by simp) ?_
 simp -implicitDefEqProofs [U.b146, w159 p k l h hl]
 by_cases hx : ∃ x, x ∈ l /\ p x = true
 ·simp [hx, dataV_data]
 ·simp [hx, dataV_data]; simpa using hx
theorem w115 (p : Ty -> Bool) (k : Nat) (l : List Ty) (h : ∀ b ∈ l, ∀ s, R (.call k [.agg b.c] s) = .val (.bool (p b)) s) (hl : l.length < 4611686018427387904) (s : HS) : R (.call 115 [.psl (l.map Ty.c), .fn k [] []] s) = .val (.bool (l.any p)) s := by
 refine q115 rfl (by simp) ?_
 simp -implicitDefEqProofs [U.b115, w147 p k l h hl]
 by_cases hx : ∃ x, x ∈ l /\ p x = true
 ·simp [hx, dataV_data]
 ·simp [hx, dataV_data]; simpa using hx
theorem any_not {α : Type} (p : α -> Bool) (l : List α) : (l.any fun x => !p x) = !l.all p := by
 induction l with
 | nil => rfl
 | cons x r ih => simp [ih]
theorem w114 (t : Ty) (hl : t.ps.length < 4611686018427387904) (s : HS) : R (.call 114 [.agg t.c] s) = .val (.bool (isTyB t)) s := by
 refine q114 rfl (by simp) ?_
 have h1 := w116 t.res
 simp only [Bs.c] at h1
 have h2 := w146 (fun b => !baseB b) 145 t.ps (fun b _ => w145 b) hl
 rw [any_not] at h2
 cases ha : baseB t.res
 ·simp -implicitDefEqProofs [U.b114, h1, ha, dataV_data, isTyB]
 ·cases hb : t.ps.all baseB
  ·simp -implicitDefEqProofs [U.b114, h1, h2, ha, hb, dataV_data, isTyB]
  ·cases hp : t.ps.isEmpty
   ·have hp' : ¬ t.ps.length = 0 := by intro h; rw [List.length_eq_zero_iff] at h; simp [h] at hp
    simp -implicitDefEqProofs [U.b114, h1, h2, ha, hb, hp', hp, dataV_data, isTyB]
   ·have hp' : t.ps.length = 0 := by rw [List.length_eq_zero_iff]; simpa using hp
    simp -implicitDefEqProofs [U.b114, h1, h2, ha, hb, hp', hp, dataV_data, isTyB]
theorem w113 (t : Ty) (hl : t.ps.length < 4611686018427387904) (s : HS) : R (.call 113 [.agg t.c] s) = .val (.bool (!isTyB t)) s := by
 refine q113 rfl (by simp) ?_
 have h := w114 t hl
 simp at h
 simp -implicitDefEqProofs [U.b113, dataV_data, h]
theorem w82 (a : Ar) (ok : ArOk a) (s : HS) : R (.call 82 [.agg a.c] s) = .val (iV (arCheck a)) s := by
 refine q82 rfl (by simp) ?_
 have h1 := w116 a.root
 simp only [Bs.c] at h1
 have h2 := w115 longB 112 a.ids (fun t _ => w112 t) ok.1
 have h3 := w115 (fun t => !isTyB t) 113 a.ids (fun t ht => w113 t (ok.2 t ht)) ok.1
 by_cases hl : (8 : Int) < a.ids.length
 ·have hl' : 8 < a.ids.length := by omega
  simp -implicitDefEqProofs [U.b82, dataV_data, hl, hl', arCheck]
 ·have hl' : ¬ 8 < a.ids.length := by omega
  cases hb : a.ids.any longB
  ·cases hr : baseB a.root
   ·simp -implicitDefEqProofs [U.b82, dataV_data, hl, hl', arCheck, h1, h2, h3, hr, hb]
   ·cases ht : a.ids.any (fun t => !isTyB t)
    ·simp -implicitDefEqProofs [U.b82, dataV_data, hl, hl', arCheck, h1, h2, h3, hr, hb, ht]
    ·simp -implicitDefEqProofs [U.b82, dataV_data, hl, hl', arCheck, h1, h2, h3, hr, hb, ht]
  ·simp -implicitDefEqProofs [U.b82, dataV_data, hl, hl', arCheck, h1, h2, h3, hb]
theorem w59 (t : Ty) (hl : t.ps.length < 4611686018427387904) (s : HS) : R (.call 59 [.agg t.c] s) = .val (.bool (isTyB t)) s := by
 refine q59 rfl (by simp) ?_
 have hres := w60 t.res
 simp only [Bs.c] at hres
 simp -implicitDefEqProofs [U.b59]
 generalize ho : evP R (.loop U.c59_0) _ _ = o
 have hq := loop_use ho t.ps.length
  (fun i e s' => s' = s0 /\ look e 1 = some (.pptr t.c) /\ look e 3 = some (iV i) /\ ∀ j (hj : j < i) (hl : j < t.ps.length), baseB t.ps[j] = true)
  (fun o => (∃ e', o = .code .ret e' s0 /\ look e' 2 = some (.bool false) /\ t.ps.all baseB = false) ∨ (∃ e', o = .code (.exit 0) e' s0 /\ look e' 1 = some (.pptr t.c) /\ t.ps.all baseB = true))
  0 (by omega) (by simp)
  (fun i e s' r hi ⟨hs, h1, h3, hp⟩ hr => by
   subst hs
   have hc := w60 t.ps[i]
   simp only [Bs.c] at hc
   cases hb : baseB t.ps[i]
   ·simp -implicitDefEqProofs [U.c59_0, h1, h3, hi, hc, hb] at hr
    subst hr
    exact .inr ⟨by simp, .inl ⟨_, rfl, by simp, by rw [List.all_eq_false]; exact ⟨_, List.getElem_mem hi, by simp [hb]⟩⟩⟩
   ·simp -implicitDefEqProofs [U.c59_0, h1, h3, hi, wrap1 hi (Nat.le_of_lt hl), hc, hb] at hr
    subst hr
    refine .inl ⟨_, _, rfl, rfl, by simp [h1], by simp, fun j hj hl => ?_⟩
    by_cases hji : j = i
    ·subst hji; exact hb
    ·exact hp j (by omega) hl)
  (fun e s' r ⟨hs, h1, h3, hp⟩ hr => by
   subst hs
   simp -implicitDefEqProofs [U.c59_0, h1, h3] at hr
   subst hr
   refine ⟨by simp, .inr ⟨_, rfl, by simp [h1], ?_⟩⟩
   rw [List.all_eq_true]
   intro x hx
   obtain ⟨j, hj, rfl⟩ := List.mem_iff_getElem.1 hx
   exact hp j hj hj)
 clear ho
 rcases hq with ⟨e', rfl, h2, hb⟩ | ⟨e', rfl, h1, hb⟩
 ·simp [h2, dataV_data, isTyB, hb]
 ·cases ha : baseB t.res
  ·simp -implicitDefEqProofs [h1, hres, ha, dataV_data, isTyB]
  ·cases hp : t.ps.isEmpty
   ·have hp' : ¬ t.ps.length = 0 := by intro h; rw [List.length_eq_zero_iff] at h; simp [h] at hp
    simp -implicitDefEqProofs [h1, hres, ha, hb, hp', hp, dataV_data, isTyB]
   ·have hp' : t.ps.length = 0 := by rw [List.length_eq_zero_iff]; simpa using hp
    simp -implicitDefEqProofs [h1, hres, ha, hb, hp', hp, dataV_data, isTyB]
theorem w24 (a : Ar) (ok : ArOk a) (s : HS) : R (.call 24 [.agg a.c] s) = .val (iV (arCheck a)) s := by
 refine q24 rfl (by simp) ?_
 have hroot := w60 a.root
 simp only [Bs.c] at hroot
 have hl := ok.1
 by_cases h8 : (8 : Int) < a.ids.length
 ·have h8' : 8 < a.ids.length := by omega
  simp -implicitDefEqProofs [U.b24, dataV_data, h8, h8', arCheck]
 have h8' : ¬ 8 < a.ids.length := by omega
 simp -implicitDefEqProofs [U.b24, h8]
 generalize ho : evP R (.loop U.c24_0) _ _ = o
 have hq := loop_use ho a.ids.length
  (fun i e s' => s' = s0 /\ look e 1 = some (.pptr a.c) /\ look e 3 = some (iV i) /\ ∀ j (hj : j < i) (hl : j < a.ids.length), longB a.ids[j] = false)
  (fun o => (∃ e', o = .code .ret e' s0 /\ look e' 2 = some (iV 5) /\ a.ids.any longB = true) ∨ (∃ e', o = .code (.exit 0) e' s0 /\ look e' 1 = some (.pptr a.c) /\ a.ids.any longB = false))
  0 (by omega) (by simp)
  (fun i e s' r hi ⟨hs, h1, h3, hp⟩ hr => by
   subst hs
   by_cases hb : (5 : Int) < a.ids[i].ps.length
   ·simp -implicitDefEqProofs [U.c24_0, h1, h3, hi, hb] at hr
    subst hr
    exact .inr ⟨by simp, .inl ⟨_, rfl, by simp, by rw [List.any_eq_true]; exact ⟨_, List.getElem_mem hi, by simp [longB]; omega⟩⟩⟩
   ·simp -implicitDefEqProofs [U.c24_0, h1, h3, hi, wrap1 hi (Nat.le_of_lt hl), hb] at hr
    subst hr
    refine .inl ⟨_, _, rfl, rfl, by simp [h1], by simp, fun j hj hl => ?_⟩
    by_cases hji : j = i
    ·subst hji; simp [longB]; omega
    ·exact hp j (by omega) hl)
  (fun e s' r ⟨hs, h1, h3, hp⟩ hr => by
   subst hs
   simp -implicitDefEqProofs [U.c24_0, h1, h3] at hr
   subst hr
   refine ⟨by simp, .inr ⟨_, rfl, by simp [h1], ?_⟩⟩
   rw [List.any_eq_false]
   intro x hx
   obtain ⟨j, hj, rfl⟩ := List.mem_iff_getElem.1 hx
   simp [hp j hj hj])
 clear ho
 rcases hq with ⟨e', rfl, h2, hb⟩ | ⟨e', rfl, h1, hb⟩
 ·simp [h2, dataV_data, arCheck, hb]
 simp -implicitDefEqProofs [h1]
 generalize ho : evP R (.loop U.c24_1) _ _ = o
 have hq := loop_use ho a.ids.length
  (fun i e s' => s' = s0 /\ look e 1 = some (.pptr a.c) /\ look e 4 = some (iV i) /\ ∀ j (hj : j < i) (hl : j < a.ids.length), isTyB a.ids[j] = true)
  (fun o => (∃ e', o = .code .ret e' s0 /\ look e' 2 = some (iV 4) /\ (a.ids.any fun t => !isTyB t) = true) ∨ (∃ e', o = .code (.exit 2) e' s0 /\ look e' 1 = some (.pptr a.c) /\ (a.ids.any fun t => !isTyB t) = false))
  0 (by omega) (by simp [h1])
  (fun i e s' r hi ⟨hs, h1, h3, hp⟩ hr => by
   subst hs
   have hc := w59 a.ids[i] (ok.2 _ (List.getElem_mem hi))
   simp only [Ty.c] at hc
   cases hb : isTyB a.ids[i]
   ·simp -implicitDefEqProofs [U.c24_1, h1, h3, hi, hc, hb] at hr
    subst hr
    exact .inr ⟨by simp, .inl ⟨_, rfl, by simp, by rw [List.any_eq_true]; exact ⟨_, List.getElem_mem hi, by simp [hb]⟩⟩⟩
   ·simp -implicitDefEqProofs [U.c24_1, h1, h3, hi, wrap1 hi (Nat.le_of_lt hl), hc, hb] at hr
    subst hr
    refine .inl ⟨_, _, rfl, rfl, by simp [h1], by simp, fun j hj hl => ?_⟩
    by_cases hji : j = i
    ·subst hji; exact hb
    ·exact hp j (by omega) hl)
  (fun e s' r ⟨hs, h1, h3, hp⟩ hr => by
   subst hs
   simp -implicitDefEqProofs [U.c24_1, h1, h3] at hr
   subst hr
   refine ⟨by simp, .inr ⟨_, rfl, by simp [h1], ?_⟩⟩
   rw [List.any_eq_false]
   intro x hx
   obtain ⟨j, hj, rfl⟩ := List.mem_iff_getElem.1 hx
   simp [hp j hj hj])
 clear ho
 rcases hq with ⟨e', rfl, h2, ht⟩ | ⟨e', rfl, h1, ht⟩
 ·simp [h2, dataV_data, arCheck, hb, ht, h8']
 ·cases hr : baseB a.root
  ·simp -implicitDefEqProofs [h1, hroot, hr, dataV_data, arCheck, hb, ht, h8']
  ·simp -implicitDefEqProofs [h1, hroot, hr, dataV_data, arCheck, hb, ht, h8']
set_option maxRecDepth 10000
set_option linter.unusedSimpArgs false
theorem w117 (a : Ar) (ok : ArOk a) (s : HS) : R (.call 117 [.agg a.c] s) = .val (.tup [.agg a.c, iV (arCheck a)]) s := by
 refine q117 rfl (by simp) ?_
 have h := w82 a ok
 simp only [Ar.c] at h
 simp -implicitDefEqProofs [U.b117, h, s0, obStore_c, storeG_1, obCells_c]
 exact dataV_of (.tup (.data (by simp)))
def topV (l : List Int) : List HV := match l.getLast? with
 | none => [iV (-1), .bool false]
 | some n => [iV n, .bool true]
abbrev iC (n : Int) : List HV := [iV n]
abbrev bC (b : Bool) : List HV := [.bool b]
@[simp] theorem isDL_ints (l : List Int) : isDLL (l.map iC) = true := isDLL_map (fun x => by simp) l
@[simp] theorem isDL_bools (l : List Bool) : isDLL (l.map bC) = true := isDLL_map (fun x => by simp) l
theorem w171 (l : List Int) (hl : l.length <= 4611686018427387904) (s : HS) : R (.call 171 [.agg [.psl (l.map iC)]] s) = .val (.tup (topV l)) s := by
 refine q171 rfl (by simp) ?_
 rcases List.eq_nil_or_concat l with rfl | ⟨r, x, rfl⟩
 ·simp -implicitDefEqProofs [U.b171, topV]
  exact dataV_of (.tup (.data (by simp)))
 ·have h1 : ¬ ((r.length : Int) + 1 = 0) := by omega
  have h2 : wrapF .i64 (r.length : Int) = r.length := wrapF_id (by omega) (by simp at hl; omega)
  simp -implicitDefEqProofs [U.b171, topV, h1, h2]
  exact dataV_of (.tup (.data (by simp)))
def placeO (a : Ar) (id arg : Int) : Option (Bs × Bool) :=
 if id = 0 /\ arg = 0 then some (a.root, a.jumps)
 else if 1 <= id /\ id <= a.ids.length then
  match a.ids[(id - 1).toNat]? with
  | none => none
  | some t => if arg = 0 then some (t.res, a.jumps || !t.ps.isEmpty) else if 1 <= arg /\ arg <= t.ps.length then (t.ps[(arg - 1).toNat]?).map (fun b => (b, true)) else none
 else none
def placeV (o : Option (Bs × Bool)) : List HV := match o with
 | none => [.agg [.bool false, .int .i64 0], .bool false]
 | some (b, _) => [.agg b.c, .bool true]
theorem w210 (a : Ar) (ok : ArOk a) (id arg : Int) (s : HS) : R (.call 210 [.agg a.c, iV id, iV arg] s) = .val (.tup (placeV (placeO a id arg))) s := by
 refine q210 rfl (by simp) ?_
 have hl := ok.1
 have h62 := w62
 by_cases h0 : id = 0 /\ arg = 0
 ·obtain ⟨rfl, rfl⟩ := h0
  simp -implicitDefEqProofs [U.b210, placeO, placeV, s0, obStore_c, storeG_1, obCells_c]
  exact dataV_of (.tup (.data (by simp)))
 by_cases hz : id = 0
 ·subst hz
  have ha : ¬ arg = 0 := fun h => h0 ⟨rfl, h⟩
  simp -implicitDefEqProofs [U.b210, placeO, placeV, s0, obStore_c, storeG_1, obCells_c, ha, h62]
  exact dataV_of (.tup (.data (by simp)))
 by_cases hin : 1 <= id /\ id <= a.ids.length
 case neg =>
  have hd : decide (1 <= id /\ id <= (a.ids.length : Int)) = false := by simpa using hin
  simp -implicitDefEqProofs [U.b210, placeO, placeV, s0, obStore_c, storeG_1, obCells_c, hz, h62, hd, hin]
  exact dataV_of (.tup (.data (by simp)))
 obtain ⟨i, rfl⟩ : ∃ i : Nat, id = (i : Int) + 1 := ⟨(id - 1).toNat, by omega⟩
 have hi : i < a.ids.length := by omega
 have hd : decide (1 <= (i : Int) + 1 /\ (i : Int) + 1 <= (a.ids.length : Int)) = true := by simpa using hin
 have hw : wrapF .i64 (i : Int) = i := wrapF_id (by omega) (by omega)
 have ht := List.getElem?_eq_getElem hi
 generalize a.ids[i] = t at ht
 have hps := ok.2 t (List.mem_of_getElem? ht)
 by_cases ha0 : arg = 0
 ·subst ha0
  simp -implicitDefEqProofs [U.b210, placeO, placeV, s0, obStore_c, storeG_1, obCells_c, hz, h62, hd, hin, hw, ht]
  exact dataV_of (.tup (.data (by simp)))
 by_cases hia : 1 <= arg /\ arg <= t.ps.length
 case neg =>
  have hda : decide (1 <= arg /\ arg <= (t.ps.length : Int)) = false := by simpa using hia
  simp -implicitDefEqProofs [U.b210, placeO, placeV, s0, obStore_c, storeG_1, obCells_c, hz, h62, hd, hin, hw, ht, ha0, hda, hia]
  exact dataV_of (.tup (.data (by simp)))
 obtain ⟨k, rfl⟩ : ∃ k : Nat, arg = (k : Int) + 1 := ⟨(arg - 1).toNat, by omega⟩
 have hk : k < t.ps.length := by omega
 have hda : decide (1 <= (k : Int) + 1 /\ (k : Int) + 1 <= (t.ps.length : Int)) = true := by simpa using hia
 have hwk : wrapF .i64 (k : Int) = k := wrapF_id (by omega) (by omega)
 have hb := List.getElem?_eq_getElem hk
 generalize t.ps[k] = b at hb
 simp -implicitDefEqProofs [U.b210, placeO, placeV, s0, obStore_c, storeG_1, obCells_c, hz, h62, hd, hin, hw, ht, ha0, hda, hia, hwk, hb]
 exact dataV_of (.tup (.data (by simp)))
set_option maxRecDepth 10000
set_option linter.unusedSimpArgs false
theorem arCheck_base {a : Ar} (h : arCheck a = 0) : baseB a.root = true /\ ∀ t ∈ a.ids, isTyB t = true := by
 unfold arCheck at h
 split at h
 ·cases h
 ·split at h
  ·cases h
  ·rename_i h1
   simp only [Bool.or_eq_true, Bool.not_eq_true', List.any_eq_true, not_or, Bool.not_eq_false] at h1
   exact ⟨h1.1, fun t ht => by
    cases hb : isTyB t
    ·exact absurd ⟨t, ht, hb⟩ h1.2
    ·rfl⟩
theorem placeO_base {a : Ar} (h : arCheck a = 0) {id arg : Int} {b : Bs} {esc : Bool} (hp : placeO a id arg = some (b, esc)) : baseB b = true := by
 obtain ⟨hr, ht⟩ := arCheck_base h
 unfold placeO at hp
 split at hp
 ·cases hp; exact hr
 ·split at hp
  ·split at hp
   ·cases hp
   ·rename_i t hi
    have h2 := ht t (List.mem_of_getElem? hi)
    simp only [isTyB, Bool.and_eq_true, List.all_eq_true] at h2
    split at hp
    ·cases hp; exact h2.1.1
    ·split at hp
     ·obtain ⟨x, hx, hxe⟩ := Option.map_eq_some_iff.1 hp
      cases hxe
      exact h2.1.2 _ (List.mem_of_getElem? hx)
     ·cases hp
  ·cases hp
def putM (id arg : Int) (n : Nat) : Mv := ⟨id, arg, 2, n⟩
def tellM (id arg : Int) (n : Nat) : Mv := ⟨id, arg, 3, n⟩
def questionsL (b : Bs) (id arg : Int) : List Mv := ⟨id, arg, 1, 0⟩ :: (List.range (if b.cell then b.n.toNat else 0)).map (putM id arg)
def toldL (b : Bs) (esc : Bool) (id arg : Int) : List Mv := (if esc then [⟨id, arg, 3, -1⟩] else []) ++ (List.range b.n.toNat).map (tellM id arg)
def questionsO (a : Ar) (id arg : Int) : List Mv := match placeO a id arg with
 | none => []
 | some (b, _) => questionsL b id arg
def toldO (a : Ar) (id arg : Int) : List Mv := match placeO a id arg with
 | none => []
 | some (b, e) => toldL b e id arg
theorem Sz.mv (l : List Mv) : Sz 4 (l.map Mv.c) := Sz.map (fun x => by simp) l
theorem range_succ_map {α : Type} (f : Nat -> α) (n : Nat) : (List.range (n + 1)).map f = (List.range n).map f ++ [f n] := by
 rw [List.range_succ, List.map_append]; rfl
theorem w181 (a : Ar) (ok : ArOk a) (hc : arCheck a = 0) (id arg : Int) (s : HS) : R (.call 181 [.agg a.c, iV id, iV arg] s) = .val (.psl ((questionsO a id arg).map Mv.c)) s := by
 refine q181 rfl (by simp) ?_
 have hpl := w210 a ok id arg
 simp only [Ar.c, iV] at hpl
 unfold questionsO
 cases hp : placeO a id arg with
 | none =>
  rw [hp] at hpl
  simp only [placeV] at hpl
  simp -implicitDefEqProofs [U.b181, hpl, s0, obStore_c, storeG_1]
  exact dataV_of .nils
 | some be =>
 obtain ⟨b, esc⟩ := be
 rw [hp] at hpl
 simp only [placeV, Bs.c] at hpl
 have hb := placeO_base hc hp
 simp only [baseB, decide_eq_true_eq] at hb
 simp -implicitDefEqProofs [U.b181, hpl, s0, obStore_c, storeG_1]
 generalize ho : evP R (.loop U.c181_0) _ _ = o
 have hq := loop_use ho (if b.cell then b.n.toNat else 0)
  (fun i e s' => ∃ v, look e 1 = some (iV id) /\ look e 2 = some (iV arg) /\ look e 7 = some (.ptr .e 0) /\ look e 9 = some v /\ look e 10 = some (iV i) /\
   tget s'.h .e = some (.cells (Lst b.c) 0 2 .e) /\ Own s' v 4 1 (((⟨id, arg, 1, 0⟩ : Mv) :: (List.range i).map (putM id arg)).map Mv.c))
  (fun o => ∃ e' s' v, o = .code (.exit 0) e' s' /\ look e' 9 = some v /\ Own s' v 4 1 ((questionsL b id arg).map Mv.c))
  0 (by omega) ⟨_, by simp, by simp, by simp, by simp; rfl, by simp, by simp, by
   refine ⟨Sz.mv _, by simp [Ky.toNat], .inr ⟨.z .e, _, .z .e, [], by simp, rfl, by simp, rfl, by simp, by simp [Ky.toNat], by simp [Ky.toNat]⟩⟩⟩
  (fun i e s' r hi ⟨v, h1, h2, h7, h9, h10, hm, hw⟩ hr => by
   have hi' : i < 64 := by split at hi <;> omega
   have hcell : b.cell = true := by cases hx : b.cell <;> simp [hx] at hi ⊢
   have hlt : (i : Int) < b.n := by rw [hcell, if_pos rfl] at hi; omega
   obtain ⟨v', s'', ha, how, hlow⟩ := hw.append (mxl := 4398046511104) (new := [Mv.c (putM id arg i)]) (Sz.cons rfl Sz.nil) (by simp) (by simp; omega)
   simp only [Mv.c, putM] at ha
   simp -implicitDefEqProofs [U.c181_0, h1, h2, h7, h9, h10, hm, hcell, hlt, ha, wrap1 (n := 64) hi' (by omega)] at hr
   subst hr
   refine .inl ⟨_, _, rfl, v', by simp [h1], by simp [h2], by simp [h7], by simp, by simp, ?_, ?_⟩
   ·rw [hlow.2.2.1 _ (by decide)]; exact hm
   ·rw [range_succ_map, <- List.cons_append, List.map_append]
    exact how)
  (fun e s' r ⟨v, h1, h2, h7, h9, h10, hm, hw⟩ hr => by
   cases hcell : b.cell with
   | false =>
    simp -implicitDefEqProofs [U.c181_0, h1, h2, h7, h9, h10, hm, hcell] at hr
    subst hr
    refine ⟨by simp, _, _, v, rfl, by simp [h9], ?_⟩
    rw [hcell] at hw
    unfold questionsL
    rw [hcell]; exact hw
   | true =>
    rw [hcell, if_pos rfl] at h10 hw
    have hge : ¬ (max b.n 0 < b.n) := by omega
    simp -implicitDefEqProofs [U.c181_0, h1, h2, h7, h9, h10, hm, hcell, hge] at hr
    subst hr
    refine ⟨by simp, _, _, v, rfl, by simp [h9], ?_⟩
    unfold questionsL
    rw [hcell]; exact hw)
 clear ho
 obtain ⟨e', s', v, rfl, h9, hw⟩ := hq
 simp [h9]
 exact dataV_of (hw.vw (by simp))
theorem w211 (a : Ar) (ok : ArOk a) (id arg : Int) (b : Bs) (esc : Bool) (hp : placeO a id arg = some (b, esc)) (s : HS) : R (.call 211 [.agg a.c, iV id, iV arg] s) = .val (.bool esc) s := by
 refine q211 rfl (by simp) ?_
 have hl := ok.1
 unfold placeO at hp
 split at hp
 ·rename_i h0
  obtain ⟨rfl, rfl⟩ := h0
  cases hp
  cases hj : a.jumps <;> simp -implicitDefEqProofs [U.b211, hj, dataV_data]
 ·rename_i h0
  split at hp
  ·rename_i h1
   obtain ⟨i, rfl⟩ : ∃ i : Nat, id = (i : Int) + 1 := ⟨(id - 1).toNat, by omega⟩
   rw [show ((i : Int) + 1 - 1).toNat = i by omega] at hp
   split at hp
   ·cases hp
   ·rename_i t ht
    have hw : wrapF .i64 (i : Int) = i := wrapF_id (by omega) (by omega)
    have hpos : (0 : Int) < (i : Int) + 1 := by omega
    split at hp
    ·rename_i ha
     subst ha
     cases hp
     cases hj : a.jumps
     ·cases hps : t.ps.isEmpty
      ·have hps' : t.ps ≠ [] := by intro h; simp [h] at hps
       have hps'' : 0 < t.ps.length := List.length_pos_iff.2 hps'
       simp -implicitDefEqProofs [U.b211, hj, dataV_data, ht, hw, hpos, hps'']
      ·have hps' : t.ps.length = 0 := by rw [List.length_eq_zero_iff]; simpa using hps
       simp -implicitDefEqProofs [U.b211, hj, dataV_data, ht, hw, hpos, hps']
     ·simp -implicitDefEqProofs [U.b211, hj, dataV_data, ht, hw, hpos]
    ·split at hp
     ·rename_i ha
      obtain ⟨x, hx, hxe⟩ := Option.map_eq_some_iff.1 hp
      cases hxe
      have hpa : (0 : Int) < arg := by omega
      simp -implicitDefEqProofs [U.b211, dataV_data, hpa]
     ·cases hp
  ·cases hp
theorem w182 (a : Ar) (ok : ArOk a) (hc : arCheck a = 0) (id arg : Int) (s : HS) : R (.call 182 [.agg a.c, iV id, iV arg, .int .u8 1] s) = .val (.psl ((toldO a id arg).map Mv.c)) s := by
 refine q182 rfl (by simp) ?_
 have hpl := w210 a ok id arg
 simp only [Ar.c, iV] at hpl
 unfold toldO
 cases hp : placeO a id arg with
 | none =>
  rw [hp] at hpl
  simp only [placeV] at hpl
  simp -implicitDefEqProofs [U.b182, hpl, s0, obStore_c, storeG_1]
  exact dataV_of .nils
 | some be =>
 obtain ⟨b, esc⟩ := be
 rw [hp] at hpl
 simp only [placeV, Bs.c] at hpl
 have hesc := w211 a ok id arg b esc hp
 simp only [Ar.c, iV] at hesc
 have hb := placeO_base hc hp
 simp only [baseB, decide_eq_true_eq] at hb
 have main : ∀ (e : En) (s1 : HS) (v : HV) (o : Out), evP R (.loop U.c182_0) e s1 = o -> look e 1 = some (iV id) -> look e 2 = some (iV arg) -> look e 3 = some (.int .u8 1) -> look e 9 = some (.ptr .e 0) -> look e 11 = some v -> look e 12 = some (iV 0) ->
   tget s1.h .e = some (.cells (Lst b.c) 0 2 .e) -> Own s1 v 4 1 ((if esc then [⟨id, arg, 3, -1⟩] else [] : List Mv).map Mv.c) ->
   ∃ e' s' v, o = .code (.exit 0) e' s' /\ look e' 11 = some v /\ Own s' v 4 1 ((toldL b esc id arg).map Mv.c) := by
  intro e s1 v o ho h1 h2 h3 h9 h11 h12 hm hw
  refine loop_use ho b.n.toNat
   (fun i e s' => ∃ v, look e 1 = some (iV id) /\ look e 2 = some (iV arg) /\ look e 3 = some (.int .u8 1) /\ look e 9 = some (.ptr .e 0) /\ look e 11 = some v /\ look e 12 = some (iV i) /\
    tget s'.h .e = some (.cells (Lst b.c) 0 2 .e) /\ Own s' v 4 1 (((if esc then [⟨id, arg, 3, -1⟩] else [] : List Mv) ++ (List.range i).map (tellM id arg)).map Mv.c))
   (fun o => ∃ e' s' v, o = .code (.exit 0) e' s' /\ look e' 11 = some v /\ Own s' v 4 1 ((toldL b esc id arg).map Mv.c))
   0 (by omega) ⟨v, h1, h2, h3, h9, h11, h12, hm, by simpa using hw⟩
   (fun i e s' r hi ⟨v, h1, h2, h3, h9, h11, h12, hm, hw⟩ hr => ?_) (fun e s' r ⟨v, h1, h2, h3, h9, h11, h12, hm, hw⟩ hr => ?_)
  ·have hi' : i < 64 := by omega
   have hlt : (i : Int) < b.n := by omega
   obtain ⟨v', s'', ha, how, hlow⟩ := hw.append (mxl := 4398046511104) (new := [Mv.c (tellM id arg i)]) (Sz.cons rfl Sz.nil) (by simp) (by simp; split <;> simp <;> omega)
   simp only [Mv.c, tellM] at ha
   have hr' : r = .code .normal (((e.upd 43 (.bool true)).upd 11 v').upd 12 (iV (i + 1))) s'' := by
    rw [<- hr]
    rcases Nat.eq_zero_or_pos i with rfl | hpos
    ·have hw1 : wrapF .i64 1 = 1 := wrapF_id (by omega) (by omega)
     simp at ha h12 hlt
     simp -implicitDefEqProofs [U.c182_0, h1, h2, h3, h9, h11, h12, hm, hlt, ha, hw1]
    ·have hi0 : ¬ i = 0 := by omega
     simp -implicitDefEqProofs [U.c182_0, h1, h2, h3, h9, h11, h12, hm, hlt, ha, wrap1 (n := 64) hi' (by omega), hi0]
   subst hr'
   refine .inl ⟨_, _, rfl, v', by simp [h1], by simp [h2], by simp [h3], by simp [h9], by simp, by simp, ?_, ?_⟩
   ·rw [hlow.2.2.1 _ (by decide)]; exact hm
   ·rw [range_succ_map, <- List.append_assoc, List.map_append]
    exact how
  ·have hge : ¬ (max b.n 0 < b.n) := by omega
   simp -implicitDefEqProofs [U.c182_0, h1, h2, h3, h9, h11, h12, hm, hge] at hr
   subst hr
   exact ⟨by simp, _, _, v, rfl, by simp [h11], hw⟩
 cases hesc1 : esc with
 | false =>
  rw [hesc1] at hesc main
  simp -implicitDefEqProofs [U.b182, hpl, hesc, s0, obStore_c, storeG_1, obCells_c]
  generalize ho : evP R (.loop U.c182_0) _ _ = o
  obtain ⟨e', s', v, rfl, h11, hw⟩ := main _ _ _ _ ho (by simp) (by simp) (by simp) (by simp) (by simp) (by simp) (by simp) (Own.nils (by simp [Ky.toNat]))
  clear ho
  simp [h11]
  exact dataV_of (hw.vw (by simp))
 | true =>
  rw [hesc1] at hesc main
  simp -implicitDefEqProofs [U.b182, hpl, hesc, s0, obStore_c, storeG_1, obCells_c]
  generalize ho : evP R (.loop U.c182_0) _ _ = o
  obtain ⟨e', s', v, rfl, h11, hw⟩ := main _ _ _ _ ho (by simp) (by simp) (by simp) (by simp) (by simp; rfl) (by simp) (by simp)
   ⟨Sz.mv _, by simp [Ky.toNat], .inr ⟨.z .e, _, .z .e, [], by simp, rfl, by simp, rfl, by simp, by simp [Ky.toNat], by simp [Ky.toNat]⟩⟩
  clear ho
  simp [h11]
  exact dataV_of (hw.vw (by simp))
set_option maxRecDepth 10000
set_option linter.unusedSimpArgs false
theorem eqK_mv (a b : Mv) : eqK ⟨true, [0,0,0,0]⟩ (.agg a.c) (.agg b.c) = some (decide (a = b)) := by
 rw [eqK_agg _ _ _ rfl rfl]
 simp only [Mv.c]
 rw [eqL_cons _ _ _ _ _ _ (eq0_int ..) (eqL_cons _ _ _ _ _ _ (eq0_int ..) (eqL_cons _ _ _ _ _ _ (eq0_int ..) (eqL_cons _ _ _ _ _ _ (eq0_int ..) eqL_nil)))]
 cases a; cases b
 simp [Bool.decide_and]
theorem w180 (l : List Mv) (hl : l.length < 4611686018427387904) (m : Mv) (s : HS) : R (.call 180 [.psl (l.map Mv.c), .agg m.c] s) = .val (iV (if m ∈ l then l.findIdx (fun x => x = m) else -1)) s := by
 refine q180 rfl (by simp) ?_
 simp -implicitDefEqProofs [U.b180]
 generalize ho : evP R (.loop U.c180_0) _ _ = o
 have hq := loop_use ho l.length
  (fun i e s' => s' = s0 /\ look e 0 = some (.psl (l.map Mv.c)) /\ look e 3 = some (.pptr m.c) /\ look e 5 = some (iV i) /\ ∀ j (hj : j < i) (hl : j < l.length), l[j] ≠ m)
  (fun o => (∃ i e', ∃ hi : i < l.length, o = .code .ret e' s0 /\ look e' 4 = some (iV i) /\ l[i] = m /\ ∀ j (hj : j < i) (hl : j < l.length), l[j] ≠ m) ∨ (∃ e', o = .code (.exit 0) e' s0 /\ m ∉ l))
  0 (by omega) (by simp)
  (fun i e s' r hi ⟨hs, h0, h3, h5, hp⟩ hr => by
   subst hs
   have hk := eqK_mv l[i] m
   simp only [Mv.c] at hk
   by_cases hb : l[i] = m
   ·rw [decide_eq_true hb] at hk
    simp -implicitDefEqProofs [U.c180_0, h0, h3, h5, hi, hk] at hr
    subst hr
    exact .inr ⟨by simp, .inl ⟨i, _, hi, rfl, by simp, hb, hp⟩⟩
   ·rw [decide_eq_false hb] at hk
    simp -implicitDefEqProofs [U.c180_0, h0, h3, h5, hi, hk, wrap1 hi (Nat.le_of_lt hl)] at hr
    subst hr
    refine .inl ⟨_, _, rfl, rfl, by simp [h0], by simp [h3], by simp, fun j hj hl => ?_⟩
    by_cases hji : j = i
    ·subst hji; exact hb
    ·exact hp j (by omega) hl)
  (fun e s' r ⟨hs, h0, h3, h5, hp⟩ hr => by
   subst hs
   simp -implicitDefEqProofs [U.c180_0, h0, h5] at hr
   subst hr
   refine ⟨by simp, .inr ⟨_, rfl, fun hx => ?_⟩⟩
   obtain ⟨j, hj, he⟩ := List.mem_iff_getElem.1 hx
   exact hp j hj hj he)
 clear ho
 rcases hq with ⟨i, e', hi, rfl, h4, hb, hp⟩ | ⟨e', rfl, hp⟩
 ·simp [h4, dataV_data]
  rw [if_pos (hb ▸ List.getElem_mem hi), (List.findIdx_eq hi).2 ⟨by simpa using hb, fun j hj => by simpa using hp j hj (by omega)⟩]
 ·simp [dataV_data, hp]
def hasB (a : Ar) (m : Mv) : Bool := m ∈ questionsO a m.id m.arg ∨ m ∈ toldO a m.id m.arg
theorem questionsO_len {a : Ar} (hc : arCheck a = 0) (id arg : Int) : (questionsO a id arg).length <= 65 := by
 unfold questionsO
 cases hp : placeO a id arg with
 | none => simp
 | some be =>
  have hb := placeO_base hc (b := be.1) (esc := be.2) hp
  simp only [baseB, decide_eq_true_eq] at hb
  simp [questionsL]
  split <;> omega
theorem toldO_len {a : Ar} (hc : arCheck a = 0) (id arg : Int) : (toldO a id arg).length <= 65 := by
 unfold toldO
 cases hp : placeO a id arg with
 | none => simp
 | some be =>
  have hb := placeO_base hc (b := be.1) (esc := be.2) hp
  simp only [baseB, decide_eq_true_eq] at hb
  simp [toldL]
  split <;> simp <;> omega
theorem w154 (a : Ar) (ok : ArOk a) (hc : arCheck a = 0) (m : Mv) (s : HS) : R (.call 154 [.agg a.c, .agg m.c] s) = .val (.bool (hasB a m)) s := by
 refine q154 rfl (by simp) ?_
 have h1 := w181 a ok hc m.id m.arg
 have h2 := w182 a ok hc m.id m.arg
 have h3 := w180 (questionsO a m.id m.arg) (by have := questionsO_len hc m.id m.arg; omega) m
 have h4 := w180 (toldO a m.id m.arg) (by have := toldO_len hc m.id m.arg; omega) m
 simp only [Ar.c, iV, Mv.c] at h1 h2 h3 h4
 unfold hasB
 by_cases hq : m ∈ questionsO a m.id m.arg
 ·have hpos : (0 : Int) <= ((questionsO a m.id m.arg).findIdx (fun x => decide (x = m)) : Int) := by omega
  simp only [hq, if_true] at h3
  simp -implicitDefEqProofs [U.b154, h1, h2, h3, h4, hq, hpos, dataV_data]
 ·simp only [hq, if_false] at h3
  by_cases ht : m ∈ toldO a m.id m.arg
  ·have hpos : (0 : Int) <= ((toldO a m.id m.arg).findIdx (fun x => decide (x = m)) : Int) := by omega
   simp only [ht, if_true] at h4
   simp -implicitDefEqProofs [U.b154, h1, h2, h3, h4, hq, ht, hpos, dataV_data]
  ·simp only [ht, if_false] at h4
   simp -implicitDefEqProofs [U.b154, h1, h2, h3, h4, hq, ht, dataV_data]
set_option maxRecDepth 10000
set_option linter.unusedSimpArgs false
abbrev nC (n : Nat) : List HV := [iV n]
@[simp] theorem isDL_nats (l : List Nat) : isDLL (l.map nC) = true := isDLL_map (fun x => by simp) l
structure Wk where
 a : Ar
 w : List Mv
 op : List Nat
 pt : List Int
 js : List Int
 lost : Bool
 most : Int
@[simp] def Wk.c (x : Wk) : List HV := [.psl (x.a.ids.map Ty.c), .bool x.a.root.cell, .int .i64 x.a.root.n, .bool x.a.jumps, .psl (x.w.map Mv.c), .psl (x.op.map nC), .psl (x.pt.map iC), .psl (x.js.map iC), .bool x.lost, .int .i64 x.most]
def lastForced (w : List Mv) : Bool := match w.getLast? with
 | none => false
 | some m => escB m && decide (0 < m.arg)
def topM (x : Wk) : Option Mv := match x.op.getLast? with
 | none => none
 | some n => x.w[n]?
def ansB (t m : Mv) : Bool := m.id = t.id /\ m.arg = t.arg /\ m.kind = 3 /\ (t.kind = 1 ∨ m.n <= 0)
def canB (x : Wk) (m : Mv) : Bool := hasB x.a m && (if x.w = [] then decide (m.id = 0) && askB m else match topM x with
 | none => false
 | some t => if x.lost || lastForced x.w then ansB t m && escB m else
  if askB m then (if 0 < t.id /\ t.arg = 0 then m.id = t.id /\ 0 < m.arg else 0 < m.id /\ m.arg = 0) else
  if escB m /\ t.arg = 0 then ansB t m && decide (0 < t.id) && x.a.jumps else ansB t m)
structure WkOk (x : Wk) : Prop where
 ok : ArOk x.a
 chk : arCheck x.a = 0
 len : x.w.length <= 400
 op : ∀ n ∈ x.op, n < x.w.length
 opl : x.op.length <= x.w.length
 ptl : x.pt.length = x.w.length
 jsl : x.js.length = x.w.length
theorem w65 (x : Wk) (hx : WkOk x) (s : HS) : R (.call 65 [.pptr x.c] s) = .val (.bool (lastForced x.w)) s := by
 refine q65 rfl (by simp) ?_
 have hl := hx.len
 unfold lastForced
 rcases List.eq_nil_or_concat x.w with hw | ⟨r, m, hw⟩
 ·simp -implicitDefEqProofs [U.b65, hw, dataV_data]
 ·rw [hw] at hl ⊢
  simp only [List.concat_eq_append, List.length_append, List.length_singleton] at hl
  have h1 : (0 : Int) < (r.length : Int) + 1 := by omega
  have h2 : wrapF .i64 (r.length : Int) = r.length := wrapF_id (by omega) (by omega)
  have h3 := w28 m
  simp only [Mv.c] at h3
  cases he : escB m
  ·simp -implicitDefEqProofs [U.b65, hw, dataV_data, h1, h2, h3, he]
  ·simp -implicitDefEqProofs [U.b65, hw, dataV_data, h1, h2, h3, he]
def topR (o : Option Mv) : List HV := match o with
 | none => [.agg [.int .i64 0, .int .i64 0, .int .u8 0, .int .i64 0], .bool false]
 | some m => [.agg m.c, .bool true]
theorem w95 (x : Wk) (hx : WkOk x) (s : HS) : R (.call 95 [.pptr x.c] s) = .val (.tup (topR (topM x))) s := by
 refine q95 rfl (by simp) ?_
 have hl := hx.len
 have hol := hx.opl
 unfold topM
 rcases List.eq_nil_or_concat x.op with hw | ⟨r, n, hw⟩
 ·simp -implicitDefEqProofs [U.b95, hw, s0, obStore_c, storeG_1, obCells_c, topR]
  exact dataV_of (.tup (.data (by simp)))
 ·have hn := hx.op n (by rw [hw]; simp)
  rw [hw] at hol ⊢
  simp only [List.concat_eq_append, List.length_append, List.length_singleton] at hol
  have h1 : ¬ ((r.length : Int) + 1 = 0) := by omega
  have h2 : wrapF .i64 (r.length : Int) = r.length := wrapF_id (by omega) (by omega)
  have hm := List.getElem?_eq_getElem hn
  generalize x.w[n] = m at hm
  simp -implicitDefEqProofs [U.b95, hw, s0, obStore_c, storeG_1, obCells_c, topR, h1, h2, hm]
  exact dataV_of (.tup (.data (by simp)))
theorem g128 {e : En} {s : HS} {t m : Mv} (h3 : look e 3 = some (.pptr m.c)) (h5 : look e 5 = some (.ptr .e 0)) (hm : tget s.h .e = some (.cells (Lst t.c) 0 4 .e)) : evP R U.r128_1 e s = .code .normal (e.upd 7 (.bool (ansB t m))) s := by
 by_cases h1 : m.id = t.id
 ·by_cases h2 : m.arg = t.arg
  ·by_cases hk : m.kind = 3
   ·by_cases hq : t.kind = 1
    ·simp -implicitDefEqProofs [h3, h5, hm, h1, h2, hk, hq, ansB]
    ·simp -implicitDefEqProofs [h3, h5, hm, h1, h2, hk, hq, ansB]
   ·simp -implicitDefEqProofs [h3, h5, hm, h1, h2, hk, ansB]
  ·simp -implicitDefEqProofs [h3, h5, hm, h1, h2, ansB]
 ·simp -implicitDefEqProofs [h3, h5, hm, h1, ansB]
theorem w128 (x : Wk) (hx : WkOk x) (m : Mv) (s : HS) : R (.call 128 [.pptr x.c, .agg m.c] s) = .val (.bool (canB x m)) s := by
 refine q128 rfl (by simp) ?_
 have h154 := w154 x.a hx.ok hx.chk m
 have h75 := w75 m
 have h28 := w28 m
 have h95 := w95 x hx
 have h65 := w65 x hx
 have hg := fun (e : En) (s : HS) (t : Mv) => @g128 e s t m
 obtain ⟨mi, ma, mk, mn⟩ := m
 simp only [Ar.c, Mv.c, Wk.c] at h154 h75 h28 h95 h65
 unfold canB
 cases hh : hasB x.a ⟨mi, ma, mk, mn⟩
 ·simp -implicitDefEqProofs [U.b128, h154, hh, dataV_data]
 by_cases hw : x.w = []
 ·by_cases hi : mi = 0
  ·subst hi
   simp -implicitDefEqProofs [U.b128, h154, h75, hh, hw, dataV_data]
  ·simp -implicitDefEqProofs [U.b128, h154, h75, hh, hw, hi, dataV_data]
 have hwl : ¬ x.w.length = 0 := by simpa using hw
 cases ht : topM x with
 | none =>
  rw [ht] at h95
  simp only [topR] at h95
  simp -implicitDefEqProofs [U.b128, h154, h75, h95, hh, hw, hwl, dataV_data, s0, obStore_c, storeG_1, obCells_c]
 | some t =>
  rw [ht] at h95
  have hg := fun e s => hg e s t
  obtain ⟨ti, ta, tk, tn⟩ := t
  simp only [topR, Mv.c] at h95 hg
  have hF : ∀ (e : En) (s : HS), look e 0 = some (.pptr x.c) -> evP R U.r128_2 e s = .code .normal (e.upd 69 (.bool (x.lost || lastForced x.w))) s := by
   intro e s h0
   simp only [Wk.c] at h0
   cases hlo : x.lost <;> rw [hlo] at h0 h65 <;> simp -implicitDefEqProofs [h0, h65]
  simp only [Wk.c] at hF
  cases hf : (x.lost || lastForced x.w)
  ·rw [hf] at hF
   cases hq : askB ⟨mi, ma, mk, mn⟩
   ·cases ha : ansB ⟨ti, ta, tk, tn⟩ ⟨mi, ma, mk, mn⟩
    ·rw [ha] at hg
     cases he : escB ⟨mi, ma, mk, mn⟩
     ·simp -implicitDefEqProofs [-U.r128_1, -U.r128_2, U.b128, h154, h75, h95, h28, hh, hw, hwl, dataV_data, s0, obStore_c, storeG_1, obCells_c, hF, hg, ha, hq, he]
     ·by_cases hta : ta = 0
      ·subst hta
       simp -implicitDefEqProofs [-U.r128_1, -U.r128_2, U.b128, h154, h75, h95, h28, hh, hw, hwl, dataV_data, s0, obStore_c, storeG_1, obCells_c, hF, hg, ha, hq, he]
      ·simp -implicitDefEqProofs [-U.r128_1, -U.r128_2, U.b128, h154, h75, h95, h28, hh, hw, hwl, dataV_data, s0, obStore_c, storeG_1, obCells_c, hF, hg, ha, hq, he, hta]
    ·rw [ha] at hg
     cases he : escB ⟨mi, ma, mk, mn⟩
     ·simp -implicitDefEqProofs [-U.r128_1, -U.r128_2, U.b128, h154, h75, h95, h28, hh, hw, hwl, dataV_data, s0, obStore_c, storeG_1, obCells_c, hF, hg, ha, hq, he]
     ·by_cases hta : ta = 0
      ·subst hta
       by_cases hti : 0 < ti
       ·simp -implicitDefEqProofs [-U.r128_1, -U.r128_2, U.b128, h154, h75, h95, h28, hh, hw, hwl, dataV_data, s0, obStore_c, storeG_1, obCells_c, hF, hg, ha, hq, he, hti]
       ·simp -implicitDefEqProofs [-U.r128_1, -U.r128_2, U.b128, h154, h75, h95, h28, hh, hw, hwl, dataV_data, s0, obStore_c, storeG_1, obCells_c, hF, hg, ha, hq, he, hti]
      ·simp -implicitDefEqProofs [-U.r128_1, -U.r128_2, U.b128, h154, h75, h95, h28, hh, hw, hwl, dataV_data, s0, obStore_c, storeG_1, obCells_c, hF, hg, ha, hq, he, hta]
   ·by_cases hti : 0 < ti
    ·by_cases hta : ta = 0
     ·subst hta
      by_cases hmi : mi = ti
      ·subst hmi
       simp -implicitDefEqProofs [-U.r128_1, -U.r128_2, U.b128, h154, h75, h95, h28, hh, hw, hwl, dataV_data, s0, obStore_c, storeG_1, obCells_c, hF, hg, hq, hti]
      ·simp -implicitDefEqProofs [-U.r128_1, -U.r128_2, U.b128, h154, h75, h95, h28, hh, hw, hwl, dataV_data, s0, obStore_c, storeG_1, obCells_c, hF, hg, hq, hti, hmi]
     ·by_cases hmi : 0 < mi
      ·simp -implicitDefEqProofs [-U.r128_1, -U.r128_2, U.b128, h154, h75, h95, h28, hh, hw, hwl, dataV_data, s0, obStore_c, storeG_1, obCells_c, hF, hg, hq, hti, hta, hmi]
      ·simp -implicitDefEqProofs [-U.r128_1, -U.r128_2, U.b128, h154, h75, h95, h28, hh, hw, hwl, dataV_data, s0, obStore_c, storeG_1, obCells_c, hF, hg, hq, hti, hta, hmi]
    ·by_cases hmi : 0 < mi
     ·simp -implicitDefEqProofs [-U.r128_1, -U.r128_2, U.b128, h154, h75, h95, h28, hh, hw, hwl, dataV_data, s0, obStore_c, storeG_1, obCells_c, hF, hg, hq, hti, hmi]
     ·simp -implicitDefEqProofs [-U.r128_1, -U.r128_2, U.b128, h154, h75, h95, h28, hh, hw, hwl, dataV_data, s0, obStore_c, storeG_1, obCells_c, hF, hg, hq, hti, hmi]
  ·rw [hf] at hF
   cases ha : ansB ⟨ti, ta, tk, tn⟩ ⟨mi, ma, mk, mn⟩
   ·rw [ha] at hg
    simp -implicitDefEqProofs [-U.r128_1, -U.r128_2, U.b128, h154, h75, h95, hh, hw, hwl, dataV_data, s0, obStore_c, storeG_1, obCells_c, hF, hg, ha]
   ·rw [ha] at hg
    simp -implicitDefEqProofs [-U.r128_1, -U.r128_2, U.b128, h154, h75, h95, h28, hh, hw, hwl, dataV_data, s0, obStore_c, storeG_1, obCells_c, hF, hg, ha]
set_option maxRecDepth 10000
set_option linter.unusedSimpArgs false
def wkL (x : Wk) (v1 v2 v3 v4 : HV) : List HV := [.psl (x.a.ids.map Ty.c), .bool x.a.root.cell, .int .i64 x.a.root.n, .bool x.a.jumps, v1, v2, v3, v4, .bool x.lost, .int .i64 x.most]
def wkN (x : Wk) (v1 v2 v3 v4 : HV) : List LEnt := [(v1, 4, x.w.map Mv.c), (v2, 1, x.op.map nC), (v3, 1, x.pt.map iC), (v4, 1, x.js.map iC)]
def WkE (s : HS) (o : Ky) (x : Wk) : Prop := ∃ v1 v2 v3 v4 col, MemL s o (wkL x v1 v2 v3 v4) col (wkN x v1 v2 v3 v4)
theorem WkE.vw1 {n : Nat} {s : HS} {o : Ky} {x : Wk} (h : WkE s o x) : Vw s (n + 4) (.ptr o 0) (.pptr x.c) := by
 obtain ⟨v1, v2, v3, v4, col, h⟩ := h
 refine Vw.ptr h.cel.1 rfl ?_
 exact .cons (.data (by simp)) (.cons (.data (by simp)) (.cons (.data (by simp)) (.cons (.data (by simp)) (.cons ((h.own 0 _ _ _ rfl).vw (by simp)) (.cons ((h.own 1 _ _ _ rfl).vw (by simp)) (.cons ((h.own 2 _ _ _ rfl).vw (by simp)) (.cons ((h.own 3 _ _ _ rfl).vw (by simp)) (.cons (.data (by simp)) (.cons (.data (by simp)) .nil)))))))))
theorem WkE.vw {s : HS} {o : Ky} {x : Wk} (h : WkE s o x) : VwL s 16 [.ptr o 0] [.pptr x.c] := .cons h.vw1 .nil
def takeW (x : Wk) (m : Mv) : Wk :=
 if askB m then { x with w := x.w ++ [m], op := x.op ++ [x.w.length], pt := x.pt ++ [-1], js := x.js ++ [if 0 < m.arg then ((x.op.getLastD 0 : Nat) : Int) else if 0 < m.id then 0 else -1], most := max x.most (x.op.length + 1) }
 else { x with w := x.w ++ [m], op := x.op.dropLast, pt := x.pt.set (x.op.getLastD 0) x.w.length ++ [((x.op.getLastD 0 : Nat) : Int)], js := x.js ++ [((x.op.getLastD 0 : Nat) : Int)], lost := x.lost || (escB m && decide (0 < m.id) && decide (m.arg = 0) && !lastForced x.w) }
theorem pureL_ptr {o : Ky} {k : Nat} {l : List HV} : pureL (.ptr o k :: l) = false := by rw [pureL]; simp [pureV]
theorem w129a (x : Wk) (hx : WkOk x) (m : Mv) (hq : askB m = true) (hop : 0 < m.arg -> x.op ≠ []) (s : HS) (o : Ky) (h : WkE s o x) :
  ∃ s', R (.call 129 [.ptr o 0, .agg m.c] s) = .val (.tup []) s' /\ WkE s' o (takeW x m) := by
 have h65 : R (.call 65 [.ptr o 0] s) = .val (.bool (lastForced x.w)) s := v65 pureL_ptr h.vw (by simp) rfl (w65 x hx)
 obtain ⟨v1, v2, v3, v4, col, h⟩ := h
 have hl := hx.len
 have h75 := w75 m
 simp only [Mv.c] at h75
 have f4 := h.get 4 rfl
 have l1 := h.len 0 rfl
 obtain ⟨v1', s1, col1, a1, c1, h1⟩ := h.append 0 rfl (new := [m.c]) (Sz.cons rfl Sz.nil) (by simp) (mxl := 4398046511104) (by simp; omega)
 obtain ⟨s2, b1, h2⟩ := h1.field 4 (by simp [wkL]) c1
 have g4 := h2.get 4 rfl
 have g5 := h2.get 5 rfl
 have l5 := h2.len 1 rfl
 simp only [Mv.c] at a1
 generalize hj : (if 0 < m.arg then ((x.op.getLastD 0 : Nat) : Int) else if 0 < m.id then 0 else -1) = j
 have key : ∀ (e : En) (r : Out), ev R U.k129_0 e s2 = r -> look e 0 = some (.ptr o 0) -> look e 3 = some (.pptr m.c) -> look e 6 = some (iV (-1)) -> ∃ e', r = .code .normal e' s2 /\ look e' 6 = some (iV j) /\ look e' 0 = some (.ptr o 0) /\ look e' 4 = look e 4 := by
  intro e r hr e0 e3 e6
  by_cases ha : 0 < m.arg
  ·obtain ⟨k, n, hkn⟩ : ∃ k n, x.op = k ++ [n] := by
    rcases List.eq_nil_or_concat x.op with hn | ⟨k, n, hn⟩
    ·exact absurd hn (hop ha)
    ·exact ⟨k, n, by simpa using hn⟩
   have hlen : x.op.length = k.length + 1 := by rw [hkn]; simp
   obtain ⟨o1, i1, i2⟩ := h2.at1 1 rfl k.length (by simp [hlen])
   have hkl := hx.opl
   have hw : wrapF .i64 (k.length : Int) = k.length := wrapF_id (by omega) (by omega)
   simp [hkn] at i1 i2 l5
   simp -implicitDefEqProofs [U.k129_0, e0, e3, ha, g5, l5, hw, i1, i2] at hr
   subst hr
   refine ⟨_, rfl, ?_, by simp [e0], by simp⟩
   rw [<- hj, if_pos ha, hkn]; simp
  ·by_cases hi : 0 < m.id
   ·simp -implicitDefEqProofs [U.k129_0, e0, e3, ha, hi] at hr
    subst hr
    exact ⟨_, rfl, by simp [<- hj, ha, hi], by simp [e0], by simp⟩
   ·simp -implicitDefEqProofs [U.k129_0, e0, e3, ha, hi] at hr
    subst hr
    exact ⟨_, rfl, by simp [<- hj, ha, hi, e6], by simp [e0], by simp⟩
 have p5 := h2.get 5 rfl
 have p6 := h2.get 6 rfl
 have p7 := h2.get 7 rfl
 obtain ⟨v2', s3, col3, a2, c2, h3⟩ := h2.append 1 rfl (new := [[iV x.w.length]]) (Sz.cons rfl Sz.nil) (by simp) (mxl := 17592186044416) (by have := hx.opl; simp; omega)
 have q6 := h3.get 6 rfl
 have q7 := h3.get 7 rfl
 obtain ⟨v3', s4, col4, a3, c3, h4⟩ := h3.append 2 rfl (new := [[iV (-1)]]) (Sz.cons rfl Sz.nil) (by simp) (mxl := 17592186044416) (by have := hx.ptl; simp; omega)
 have r7 := h4.get 7 rfl
 obtain ⟨v4', s5, col5, a4, c4, h5⟩ := h4.append 3 rfl (new := [[iV j]]) (Sz.cons rfl Sz.nil) (by simp) (mxl := 17592186044416) (by have := hx.jsl; simp; omega)
 obtain ⟨s6, b2, h6⟩ := h5.field 5 (by simp [wkL]) c2
 obtain ⟨s7, b3, h7⟩ := h6.field 6 (by simp [wkL]) c3
 obtain ⟨s8, b4, h8⟩ := h7.field 7 (by simp [wkL]) c4
 have t9 := h8.get 9 rfl
 have t5 := h8.get 5 rfl
 have lt := h8.len 1 rfl
 obtain ⟨s9, b5, h9⟩ := h8.field 9 (by simp [wkL]) (x := .int .i64 (max x.most (x.op.length + 1))) rfl
 simp at a2 a3 a4 lt l1
 have hE : ∃ e', ev R U.b129 (args0 [.ptr o 0, .agg m.c] 0) s = .code .ret e' s9 := by
  generalize hr : ev R U.b129 (args0 [.ptr o 0, .agg m.c] 0) s = r
  simp -implicitDefEqProofs [U.b129, l1, f4, h65, a1, b1, g4, h75, hq] at hr
  generalize hk : ev R U.k129_0 _ s2 = r1 at hr
  obtain ⟨e1, k1, k2, k3, k4⟩ := key _ _ hk (by simp) (by simp) (by simp)
  clear hk
  subst k1
  simp at k4
  simp -implicitDefEqProofs [k2, k3, k4, p5, p6, p7, q6, q7, r7, a2, a3, a4, b2, b3, b4, t9, t5, lt, b5] at hr
  subst hr
  exact ⟨_, rfl⟩
 obtain ⟨e', hE⟩ := hE
 refine ⟨s9, n129 rfl ⟨.ret, _, s9, hE, .inr rfl, by simp⟩, v1', v2', v3', v4', col5, ?_⟩
 unfold takeW
 rw [if_pos hq, hj]
 simpa [wkL, wkN] using h9
theorem w129b (x : Wk) (hx : WkOk x) (m : Mv) (hq : askB m = false) (hop : x.op ≠ []) (s : HS) (o : Ky) (h : WkE s o x) :
  ∃ s', R (.call 129 [.ptr o 0, .agg m.c] s) = .val (.tup []) s' /\ WkE s' o (takeW x m) := by
 have h65 : R (.call 65 [.ptr o 0] s) = .val (.bool (lastForced x.w)) s := v65 pureL_ptr h.vw (by simp) rfl (w65 x hx)
 obtain ⟨v1, v2, v3, v4, col, h⟩ := h
 have hl := hx.len
 have hopl := hx.opl
 have h75 := w75 m
 have h28 := w28 m
 simp only [Mv.c] at h75 h28
 obtain ⟨r, n, hrn⟩ : ∃ k n, x.op = k ++ [n] := by
  rcases List.eq_nil_or_concat x.op with hn | ⟨k, n, hn⟩
  ·exact absurd hn hop
  ·exact ⟨k, n, by simpa using hn⟩
 have hlen : x.op.length = r.length + 1 := by rw [hrn]; simp
 have hn : n < x.pt.length := by rw [hx.ptl]; exact hx.op n (by rw [hrn]; simp)
 have hw : wrapF .i64 (r.length : Int) = r.length := wrapF_id (by omega) (by omega)
 have f4 := h.get 4 rfl
 have l1 := h.len 0 rfl
 obtain ⟨v1', s1, col1, a1, c1, h1⟩ := h.append 0 rfl (new := [m.c]) (Sz.cons rfl Sz.nil) (by simp) (mxl := 4398046511104) (by simp; omega)
 obtain ⟨s2, b1, h2⟩ := h1.field 4 (by simp [wkL]) c1
 have g5 := h2.get 5 rfl
 have l5 := h2.len 1 rfl
 obtain ⟨o1, i1, i2⟩ := h2.at1 1 rfl r.length (by simp [hlen])
 obtain ⟨o2, hv2, h3⟩ := h2.cut 1 rfl r.length (by simp [hlen]) (by simp [hop])
 obtain ⟨s4, b2, h4⟩ := h3.field 5 (x := .sl o2 0 r.length 1) (by simp [wkL]) rfl
 have g6 := h4.get 6 rfl
 obtain ⟨o3, s5, i3, b3, h5⟩ := h4.set1 2 rfl n (by simpa using hn) (x := iV x.w.length) rfl
 have p6 := h5.get 6 rfl
 have p7 := h5.get 7 rfl
 obtain ⟨v3', s6, col6, a3, c3, h6⟩ := h5.append 2 rfl (new := [[iV n]]) (Sz.cons rfl Sz.nil) (by simp) (mxl := 17592186044416) (by have := hx.ptl; simp; omega)
 have q7 := h6.get 7 rfl
 obtain ⟨v4', s7, col7, a4, c4, h7⟩ := h6.append 3 rfl (new := [[iV n]]) (Sz.cons rfl Sz.nil) (by simp) (mxl := 17592186044416) (by have := hx.jsl; simp; omega)
 obtain ⟨s8, b4, h8⟩ := h7.field 6 (by simp [wkL]) c3
 obtain ⟨s9, b5, h9⟩ := h8.field 7 (by simp [wkL]) c4
 obtain ⟨s10, b6, h10⟩ := h9.field 8 (by simp [wkL]) (x := .bool true) rfl
 simp only [Mv.c] at a1
 simp only [Nat.mul_one] at b3 i3
 simp [hrn] at i1 i2 l5 a3 a4 l1
 have key : ∀ (e : En) (r : Out), (ev R U.r129_16 e s9).asNormal (ev R (.cond (.t 157) U.r129_17 .skip)) = r -> look e 0 = some (.ptr o 0) -> look e 3 = some (.pptr m.c) -> look e 5 = some (.bool (lastForced x.w)) ->
   ∃ e' s', r = .code .normal e' s' /\ WkE s' o (takeW x m) := by
  intro e r1 hr e0 e3 e5
  have hno : (escB m && decide (0 < m.id) && decide (m.arg = 0) && !lastForced x.w) = false -> WkE s9 o (takeW x m) := by
   intro hno
   refine ⟨v1', .sl o2 0 r.length 1, v3', v4', col7, ?_⟩
   unfold takeW
   rw [hq, hno, hrn]
   simpa [wkL, wkN, hrn] using h9
  have hyes : (escB m && decide (0 < m.id) && decide (m.arg = 0) && !lastForced x.w) = true -> WkE s10 o (takeW x m) := by
   intro hno
   refine ⟨v1', .sl o2 0 r.length 1, v3', v4', col7, ?_⟩
   unfold takeW
   rw [hq, hno, hrn]
   simpa [wkL, wkN, hrn] using h10
  cases he : escB m
  ·simp -implicitDefEqProofs [e0, e3, e5, h28, he] at hr
   subst hr
   exact ⟨_, _, rfl, hno (by simp [he])⟩
  ·by_cases hi : 0 < m.id
   ·by_cases ha : m.arg = 0
    ·have h28' := h28
     rw [ha] at h28'
     cases hf : lastForced x.w
     ·rw [hf] at e5
      simp -implicitDefEqProofs [e0, e3, e5, h28', he, hi, ha, b6] at hr
      subst hr
      exact ⟨_, _, rfl, hyes (by simp [he, hi, ha, hf])⟩
     ·rw [hf] at e5
      simp -implicitDefEqProofs [e0, e3, e5, h28', he, hi, ha, b6] at hr
      subst hr
      exact ⟨_, _, rfl, hno (by simp [hf])⟩
    ·simp -implicitDefEqProofs [e0, e3, e5, h28, he, hi, ha] at hr
     subst hr
     exact ⟨_, _, rfl, hno (by simp [ha])⟩
   ·simp -implicitDefEqProofs [e0, e3, e5, h28, he, hi] at hr
    subst hr
    exact ⟨_, _, rfl, hno (by simp [hi])⟩
 have hE : ∃ e' s', ev R U.b129 (args0 [.ptr o 0, .agg m.c] 0) s = .code .normal e' s' /\ WkE s' o (takeW x m) := by
  generalize hr : ev R U.b129 (args0 [.ptr o 0, .agg m.c] 0) s = r1
  rw [hv2] at g5 i1
  simp [hrn] at g5 i1
  subst i1
  simp -implicitDefEqProofs [-U.r129_16, -U.r129_17, U.b129, l1, f4, h65, a1, b1, h75, hq, g5, l5, hw, i2, b2, g6, i3, b3, p6, p7, q7, a3, a4, b4, b5] at hr
  exact key _ _ hr (by simp) (by simp) (by simp)
 obtain ⟨e', s', hE, hW⟩ := hE
 exact ⟨s', n129 rfl ⟨.normal, _, s', hE, .inl rfl, by simp⟩, hW⟩
theorem hasB_place {a : Ar} {m : Mv} (h : hasB a m = true) : ∃ b e, placeO a m.id m.arg = some (b, e) := by
 unfold hasB questionsO toldO at h
 cases hp : placeO a m.id m.arg with
 | none => rw [hp] at h; simp at h
 | some be => exact ⟨be.1, be.2, rfl⟩
theorem hasB_root {a : Ar} {m : Mv} (h : hasB a m = true) (h0 : m.id = 0) : m.arg = 0 := by
 obtain ⟨b, e, hp⟩ := hasB_place h
 unfold placeO at hp
 split at hp
 ·rename_i h; exact h.2
 ·rw [h0] at hp
  simp at hp
theorem canB_has {x : Wk} {m : Mv} (h : canB x m = true) : hasB x.a m = true := by
 unfold canB at h
 simp only [Bool.and_eq_true] at h
 exact h.1
theorem canB_op {x : Wk} {m : Mv} (hc : canB x m = true) (hw : x.w ≠ []) : x.op ≠ [] := by
 intro ho
 unfold canB at hc
 rw [if_neg hw] at hc
 have : topM x = none := by unfold topM; rw [ho]; rfl
 rw [this] at hc
 simp at hc
theorem canB_first {x : Wk} {m : Mv} (hc : canB x m = true) (hw : x.w = []) : m.id = 0 /\ askB m = true := by
 unfold canB at hc
 rw [if_pos hw] at hc
 simp at hc
 exact hc.2
theorem w129 (x : Wk) (hx : WkOk x) (m : Mv) (hc : canB x m = true) (s : HS) (o : Ky) (h : WkE s o x) :
  ∃ s', R (.call 129 [.ptr o 0, .agg m.c] s) = .val (.tup []) s' /\ WkE s' o (takeW x m) := by
 cases hq : askB m with
 | true =>
  refine w129a x hx m hq (fun ha => ?_) s o h
  by_cases hw : x.w = []
  ·have := hasB_root (canB_has hc) (canB_first hc hw).1
   omega
  ·exact canB_op hc hw
 | false =>
  refine w129b x hx m hq ?_ s o h
  by_cases hw : x.w = []
  ·have := (canB_first hc hw).2
   rw [hq] at this; cases this
  ·exact canB_op hc hw
theorem takeW_a (x : Wk) (m : Mv) : (takeW x m).a = x.a := by unfold takeW; split <;> rfl
theorem takeW_w (x : Wk) (m : Mv) : (takeW x m).w = x.w ++ [m] := by unfold takeW; split <;> rfl
theorem WkOk.take {x : Wk} (hx : WkOk x) {m : Mv} (hl : x.w.length < 400) (hop : askB m = false -> x.op ≠ []) : WkOk (takeW x m) := by
 have h1 := hx.opl
 have h2 := hx.ptl
 have h3 := hx.jsl
 cases hq : askB m with
 | true =>
  unfold takeW
  rw [if_pos hq]
  refine ⟨hx.ok, hx.chk, by simp; omega, fun n hn => ?_, by simp; omega, by simp; omega, by simp; omega⟩
  simp only [List.mem_append, List.mem_singleton] at hn
  simp only [List.length_append, List.length_singleton]
  rcases hn with hn | rfl
  ·have := hx.op n hn; omega
  ·omega
 | false =>
  have ho := hop hq
  unfold takeW
  rw [hq]
  refine ⟨hx.ok, hx.chk, by simp; omega, fun n hn => ?_, by simp; omega, by simp; omega, by simp; omega⟩
  have := hx.op n ((List.dropLast_sublist _).subset hn)
  simp only [Bool.false_eq_true, if_false, List.length_append, List.length_singleton]
  omega
def runW (x : Wk) : List Mv -> Wk × Nat
 | [] => (x, 0)
 | m :: r => if canB x m then ((runW (takeW x m) r).1, (runW (takeW x m) r).2 + 1) else (x, 0)
def wk0 (a : Ar) : Wk := ⟨a, [], [], [], [], false, 0⟩
theorem WkOk.zero {a : Ar} (ok : ArOk a) (hc : arCheck a = 0) : WkOk (wk0 a) := ⟨ok, hc, by simp [wk0], by simp [wk0], by simp [wk0], by simp [wk0], by simp [wk0]⟩
theorem w94 (a : Ar) (ok : ArOk a) (hc : arCheck a = 0) (w : List Mv) (hl : w.length <= 400) (s : HS) : R (.call 94 [.agg a.c, .psl (w.map Mv.c)] s) = .val (.tup [.pptr (runW (wk0 a) w).1.c, iV (runW (wk0 a) w).2]) s := by
 refine q94 rfl (by simp) ?_
 simp -implicitDefEqProofs [U.b94, s0]
 generalize ho : evP R (.loop U.c94_0) _ _ = o
 have hq := loop_use ho w.length
  (fun i e s' => ∃ x, look e 1 = some (.psl (w.map Mv.c)) /\ look e 6 = some (.ptr .e 0) /\ look e 7 = some (iV i) /\ WkE s' .e x /\ WkOk x /\ x.w.length = i /\ runW (wk0 a) w = ((runW x (w.drop i)).1, (runW x (w.drop i)).2 + i))
  (fun o => ∃ e' s', (o = .code .ret e' s' ∨ o = .code (.exit 0) e' s') /\ ((o = .code .ret e' s' /\ look e' 4 = some (.ptr .e 0) /\ look e' 5 = some (iV (runW (wk0 a) w).2)) ∨ (o = .code (.exit 0) e' s' /\ look e' 1 = some (.psl (w.map Mv.c)) /\ look e' 6 = some (.ptr .e 0) /\ (runW (wk0 a) w).2 = w.length)) /\ WkE s' .e (runW (wk0 a) w).1)
  0 (by omega) ⟨wk0 a, by simp, by simp, by simp, by
   exact ⟨.nils, .nils, .nils, .nils, _, MemL.start ⟨by simp [wkL, wk0], by simp, by simp [Ky.toNat]⟩ (by simp [wkN, wk0])⟩, WkOk.zero ok hc, rfl, by simp⟩
  (fun i e s' r hi ⟨x, h1, h6, h7, hE, hok, hxl, hrun⟩ hr => by
   have hcan := v128 (args := [.ptr .e 0, .agg w[i].c]) (l := [.pptr x.c, .agg w[i].c]) (s := s') (v := .bool (canB x w[i])) pureL_ptr (.cons hE.vw1 (.data (by simp))) (by simp) rfl (fun s => w128 x hok w[i] s)
   have hd : w.drop i = w[i] :: w.drop (i + 1) := List.drop_eq_getElem_cons hi
   rw [hd] at hrun
   simp only [Mv.c] at hcan
   cases hc : canB x w[i] with
   | false =>
    rw [hc] at hcan
    simp only [runW, hc, Bool.false_eq_true, if_false] at hrun
    simp -implicitDefEqProofs [U.c94_0, h1, h6, h7, hi, hcan] at hr
    subst hr
    refine .inr ⟨by simp, _, _, .inl rfl, .inl ⟨rfl, by simp, by simp [hrun]⟩, by rw [hrun]; exact hE⟩
   | true =>
    rw [hc] at hcan
    simp only [runW, hc, if_true] at hrun
    obtain ⟨s'', htake, hE'⟩ := w129 x hok w[i] hc s' .e hE
    simp only [Mv.c] at htake
    simp -implicitDefEqProofs [U.c94_0, h1, h6, h7, hi, hcan, htake, wrap1 (n := 400) (show i < 400 by omega) (by omega)] at hr
    subst hr
    refine .inl ⟨_, _, rfl, takeW x w[i], by simp [h1], by simp [h6], by simp, hE', hok.take (by omega) (fun hq => ?_), by rw [takeW_w]; simp [hxl], ?_⟩
    ·by_cases hw : x.w = []
     ·have := (canB_first hc hw).2
      rw [hq] at this; cases this
     ·exact canB_op hc hw
    ·rw [hrun]; simp; omega)
  (fun e s' r ⟨x, h1, h6, h7, hE, hok, hxl, hrun⟩ hr => by
   rw [List.drop_length] at hrun
   simp only [runW] at hrun
   simp -implicitDefEqProofs [U.c94_0, h1, h6, h7] at hr
   subst hr
   exact ⟨by simp, _, _, .inr rfl, .inr ⟨rfl, by simp [h1], by simp [h6], by simp [hrun]⟩, by rw [hrun]; exact hE⟩)
 clear ho
 obtain ⟨e', s', _, hd, hE⟩ := hq
 have hv : Vw s' 15 (.ptr .e 0) (.pptr (runW (wk0 a) w).1.c) := hE.vw1
 rcases hd with ⟨rfl, h4, h5⟩ | ⟨rfl, h1, h6, hr⟩
 ·simp [h4, h5]
  exact dataV_of (.tup (.cons hv (.cons (.data (by simp)) .nil)))
 ·simp [h1, h6]
  rw [<- hr]
  exact dataV_of (.tup (.cons hv (.cons (.data (by simp)) .nil)))
set_option maxRecDepth 10000
set_option linter.unusedSimpArgs false
def wordE (a : Ar) (w : List Mv) : Int × Int := if arCheck a ≠ 0 then (0, arCheck a) else if 400 < w.length then (0, 5) else if (runW (wk0 a) w).2 < w.length then ((runW (wk0 a) w).2, 13) else (0, 0)
def beginV (a : Ar) (w : List Mv) : List HV := [if (wordE a w).2 = 0 then .pptr (runW (wk0 a) w).1.c else .nilp, iV (wordE a w).1, iV (wordE a w).2]
theorem w63 (a : Ar) (ok : ArOk a) (w : List Mv) (s : HS) : R (.call 63 [.agg a.c, .psl (w.map Mv.c)] s) = .val (.tup (beginV a w)) s := by
 refine q63 rfl (by simp) ?_
 have h1 := w24 a ok
 simp only [Ar.c] at h1
 unfold beginV wordE
 by_cases hc : arCheck a = 0
 ·by_cases hl : (400 : Int) < w.length
  ·have hl' : 400 < w.length := by omega
   simp -implicitDefEqProofs [U.b63, h1, hc, hl, hl']
   exact dataV_of (.tup (.data (by simp)))
  ·have hl' : ¬ 400 < w.length := by omega
   have h2 := w94 a ok hc w (by omega)
   simp only [Ar.c, iV] at h2
   by_cases hr : ((runW (wk0 a) w).2 : Int) < w.length
   ·have hr' : (runW (wk0 a) w).2 < w.length := by omega
    simp -implicitDefEqProofs [U.b63, h1, hc, hl, hl', h2, hr, hr']
    exact dataV_of (.tup (.data (by simp)))
   ·have hr' : ¬ (runW (wk0 a) w).2 < w.length := by omega
    simp -implicitDefEqProofs [U.b63, h1, hc, hl, hl', h2, hr, hr']
    exact dataV_of (.tup (.data (by simp)))
 ·simp -implicitDefEqProofs [U.b63, h1, hc]
  exact dataV_of (.tup (.data (by simp)))
theorem w61 (a : Ar) (ok : ArOk a) (w : List Mv) (s : HS) : R (.call 61 [.agg a.c, .psl (w.map Mv.c)] s) = .val (.tup [iV (wordE a w).1, iV (wordE a w).2]) s := by
 refine q61 rfl (by simp) ?_
 have h1 := w63 a ok w
 simp only [Ar.c, beginV] at h1
 simp -implicitDefEqProofs [U.b61, h1]
 exact dataV_of (.tup (.data (by simp)))
def callE (a : Ar) (id : Int) (w : List Mv) : Int := if arCheck a ≠ 0 then arCheck a else if (wordE a w).2 ≠ 0 then (wordE a w).2 else if 1 <= id /\ id <= a.ids.length then 0 else 7
set_option maxRecDepth 10000
set_option linter.unusedSimpArgs false
def forcedAt (w : List Mv) : Nat -> Bool
 | 0 => false
 | j + 1 => match w[j]? with
  | some m => escB m && decide (0 < m.arg)
  | none => false
abbrev hdr (e : LEnt) : List HV := [e.1]
section
variable {s : HS} {col : Ky -> Option Nat} {of : List Int} {inner : List LEnt} {v1 v2 : HV} {i : Nat}
end
def cstep (js : List Int) (id : Int) (w : List Mv) (st : List Int × List (List Nat)) (i : Nat) : List Int × List (List Nat) :=
 match w[i]? with
 | none => st
 | some m =>
  if m.id ≠ id then (st.1 ++ [-1], st.2)
  else if m.arg = 0 /\ m.kind ≠ 3 then (st.1 ++ [(st.2.length : Int)], st.2 ++ [[i]])
  else if m.arg = 0 /\ escB m = true /\ forcedAt w i = false then (st.1 ++ [-1], st.2)
  else (st.1 ++ [((st.1.getD (js.getD i 0).toNat 0).toNat : Int)], st.2.set (st.1.getD (js.getD i 0).toNat 0).toNat ((st.2.getD (st.1.getD (js.getD i 0).toNat 0).toNat []) ++ [i]))
def cst (js : List Int) (id : Int) (w : List Mv) : Nat -> List Int × List (List Nat)
 | 0 => ([], [])
 | i + 1 => cstep js id w (cst js id w i) i
def CallsOk (js : List Int) (id : Int) (w : List Mv) : Prop := ∀ i m, w[i]? = some m -> m.id = id -> ¬ (m.arg = 0 /\ m.kind ≠ 3) -> ¬ (m.arg = 0 /\ escB m = true /\ forcedAt w i = false) ->
 ∃ j k : Nat, js[i]? = some (j : Int) /\ (cst js id w i).1[j]? = some (k : Int) /\ k < (cst js id w i).2.length
theorem cst_len (js : List Int) (id : Int) (w : List Mv) : ∀ i, i <= w.length -> (cst js id w i).1.length = i /\ (cst js id w i).2.length <= i /\ ∀ c ∈ (cst js id w i).2, c.length <= i
 | 0, _ => ⟨rfl, Nat.le_refl _, fun c hc => by cases hc⟩
 | i + 1, hi => by
  obtain ⟨h1, h2, h3⟩ := cst_len js id w i (by omega)
  have hm := List.getElem?_eq_getElem (show i < w.length by omega)
  rw [cst]
  unfold cstep
  rw [hm]
  simp only
  split
  ·exact ⟨by simp [h1], by simp only; omega, fun c hc => by have := h3 c hc; omega⟩
  ·split
   ·refine ⟨by simp [h1], by simp; omega, fun c hc => ?_⟩
    rcases List.mem_append.1 hc with hc | hc
    ·have := h3 c hc; omega
    ·simp at hc; subst hc; simp
   ·split
    ·exact ⟨by simp [h1], by simp only; omega, fun c hc => by have := h3 c hc; omega⟩
    ·refine ⟨by simp [h1], by simp; omega, fun c hc => ?_⟩
     rcases List.mem_or_eq_of_mem_set hc with hc | rfl
     ·have := h3 c hc; omega
     ·rw [List.length_append, List.length_singleton, List.getD_eq_getElem?_getD]
      cases hx : (cst js id w i).2[((cst js id w i).1.getD (js.getD i 0).toNat 0).toNat]? with
      | none => simp
      | some c => have := h3 c (List.mem_of_getElem? hx); simp; omega
def callsOf (js : List Int) (id : Int) (w : List Mv) : List (List Nat) := (cst js id w w.length).2
def calC (c : List Nat) : List HV := [.psl (c.map nC)]
set_option maxRecDepth 10000
set_option linter.unusedSimpArgs false
theorem isDL_calC (l : List (List Nat)) : isDLL (l.map calC) = true := isDLL_map (fun x => by simp [calC]) l
theorem callE_word {a : Ar} {id : Int} {w : List Mv} (h : callE a id w = 0) : arCheck a = 0 /\ (wordE a w).2 = 0 /\ 1 <= id /\ id <= a.ids.length := by
 unfold callE at h
 by_cases h1 : arCheck a = 0
 ·by_cases h2 : (wordE a w).2 = 0
  ·by_cases h3 : 1 <= id /\ id <= (a.ids.length : Int)
   ·exact ⟨h1, h2, h3⟩
   ·simp [h1, h2, h3] at h
  ·simp [h1, h2] at h
 ·simp [h1] at h
theorem wordE_len {a : Ar} {w : List Mv} (h1 : arCheck a = 0) (h : (wordE a w).2 = 0) : w.length <= 400 := by
 unfold wordE at h
 by_cases hl : 400 < w.length
 ·simp [h1, hl] at h
 ·omega
def AllOk : Prop := ∀ (a : Ar) (id : Int) (w : List Mv), callE a id w = 0 -> CallsOk (runW (wk0 a) w).1.js id w
def callsR (a : Ar) (id : Int) (w : List Mv) : List (List Nat) := if callE a id w = 0 then callsOf (runW (wk0 a) w).1.js id w else []
def insideW (w : List Mv) (c : List Nat) : List Mv := c.map fun i => turned (w.getD i ⟨0, 0, 0, 0⟩)
def wordC (w : List Mv) : List HV := [.psl (w.map Mv.c)]
theorem isDL_wordC (l : List (List Mv)) : isDLL (l.map wordC) = true := isDLL_map (fun x => by simp [wordC]) l
theorem cst_bound (js : List Int) (id : Int) (w : List Mv) : ∀ i, i <= w.length -> ∀ c ∈ (cst js id w i).2, ∀ n ∈ c, n < i
 | 0, _ => fun c hc => by cases hc
 | i + 1, hi => by
  have h3 := cst_bound js id w i (by omega)
  have hm := List.getElem?_eq_getElem (show i < w.length by omega)
  rw [cst]
  unfold cstep
  rw [hm]
  simp only
  split
  ·exact fun c hc n hn => by have := h3 c hc n hn; omega
  ·split
   ·intro c hc n hn
    rcases List.mem_append.1 hc with hc | hc
    ·have := h3 c hc n hn; omega
    ·simp at hc; subst hc; simp at hn; omega
   ·split
    ·exact fun c hc n hn => by have := h3 c hc n hn; omega
    ·intro c hc n hn
     rcases List.mem_or_eq_of_mem_set hc with hc | rfl
     ·have := h3 c hc n hn; omega
     ·rcases List.mem_append.1 hn with hn | hn
      ·rw [List.getD_eq_getElem?_getD] at hn
       cases hx : (cst js id w i).2[((cst js id w i).1.getD (js.getD i 0).toNat 0).toNat]? with
       | none => rw [hx] at hn; simp at hn
       | some c => rw [hx] at hn; have := h3 c (List.mem_of_getElem? hx) n hn; omega
      ·simp at hn; omega
set_option maxRecDepth 10000
set_option linter.unusedSimpArgs false
structure Sp where
 id : Int
 arg : Int
 b : Bs
 esc : Bool
 deriving DecidableEq
@[simp] def Sp.c (p : Sp) : List HV := [.int .i64 p.id, .int .i64 p.arg, .bool p.b.cell, .int .i64 p.b.n, .bool p.esc]
def psSp (i : Nat) : Nat -> List Bs -> List Sp
 | _, [] => []
 | j, b :: r => ⟨(i : Int) + 1, (j : Int) + 1, b, true⟩ :: psSp i (j + 1) r
def idSp (jumps : Bool) : Nat -> List Ty -> List Sp
 | _, [] => []
 | i, t :: r => ⟨(i : Int) + 1, 0, t.res, jumps || decide (0 < t.ps.length)⟩ :: (psSp i 0 t.ps ++ idSp jumps (i + 1) r)
def spots (a : Ar) : List Sp := ⟨0, 0, a.root, a.jumps⟩ :: idSp a.jumps 0 a.ids
abbrev spV (p : Sp) : HV := .agg p.c
section
variable {l : Ky} {G : Ky -> Prop} {I : List HV -> HS -> Prop} {Fn : HS -> Prop} {N : Nat} (hG : ∀ k, G k -> k.toNat < N) (hst : ∀ x, Stab N (I x)) (hsf : Stab N Fn)
 (hround : ∀ x rest s1, N <= s1.nx.toNat -> I (x :: rest) s1 -> ∃ b s2, R (.round l [x] s1) = .val (.bool b) s2 /\ Frm G s1 s2 /\ (b = true -> I rest s2) /\ (b = false -> Fn s2))
include hG hst hround
theorem w148a (a : Ar) (i : Nat) (ps : List Bs) (hl : ps.length < 4611686018427387904) (hi : i < 4611686018427387904) (rest : List HV) (e : En) (s : HS) (r : Out) (h1 : look e 1 = some (.yld l)) (h4 : look e 4 = some (iV i)) (h45 : look e 45 = some (.psl (ps.map Bs.c))) (h46 : look e 46 = some (iV ps.length)) (h47 : look e 47 = some (iV 0))
  (h2 : look e 2 = some (.pptr a.c)) (v20 v21 v22 : HV) (h20 : look e 20 = some v20) (h21 : look e 21 = some v21) (h22 : look e 22 = some v22)
  (hN : N <= s.nx.toNat) (hI : I ((psSp i 0 ps).map spV ++ rest) s) (hr : ev R (.loop U.c148_0) e s = r) :
  ∃ e' s', Frm (fun k => G k ∨ Up N k) s s' /\ ((r = .code .ret e' s' /\ Fn s') ∨ (r = .code (.exit 2) e' s' /\ I rest s' /\ look e' 1 = some (.yld l) /\ look e' 2 = some (.pptr a.c) /\ look e' 20 = some v20 /\ look e' 21 = some v21 /\ look e' 22 = some v22)) := by
 refine loopN_use hr ps.length
  (fun j e s' => look e 1 = some (.yld l) /\ look e 4 = some (iV i) /\ look e 45 = some (.psl (ps.map Bs.c)) /\ look e 46 = some (iV ps.length) /\ look e 47 = some (iV j) /\ look e 2 = some (.pptr a.c) /\ look e 20 = some v20 /\ look e 21 = some v21 /\ look e 22 = some v22 /\
   Frm (fun k => G k ∨ Up N k) s s' /\ N <= s'.nx.toNat /\ I ((psSp i j (ps.drop j)).map spV ++ rest) s')
  (fun r => ∃ e' s', Frm (fun k => G k ∨ Up N k) s s' /\ ((r = .code .ret e' s' /\ Fn s') ∨ (r = .code (.exit 2) e' s' /\ I rest s' /\ look e' 1 = some (.yld l) /\ look e' 2 = some (.pptr a.c) /\ look e' 20 = some v20 /\ look e' 21 = some v21 /\ look e' 22 = some v22)))
  0 (by omega) ⟨h1, h4, h45, h46, h47, h2, h20, h21, h22, Frm.refl, hN, hI⟩
  (fun j e s' r hj ⟨h1, h4, h45, h46, h47, h2, h20, h21, h22, hF, hN, hI⟩ hr => ?_) (fun e s' r ⟨h1, h4, h45, h46, h47, h2, h20, h21, h22, hF, hN, hI⟩ hr => ?_)
 ·rw [List.drop_eq_getElem_cons hj] at hI
  simp only [psSp, List.map_cons, List.cons_append] at hI
  have hal := Frm.alloc (s := s') (.cells (Lst ps[j].c) 0 2 s'.nx) [s'.nx]
  have hI2 := hst _ _ _ hI (hal.mono (fun _ h => h.elim))
  have hsucc := Ky.toNat_succ s'.nx
  obtain ⟨b, s2, hb, hf, ht, hfa⟩ := hround _ _ _ (by simp only; omega) hI2
  have hF2 : Frm (fun k => G k ∨ Up N k) s s2 := hF.trans ((hal.mono (fun _ h => h.elim)).trans (hf.mono fun k hk => .inl hk))
  have hw1 := wrap1 (n := 4611686018427387904) hi (by omega)
  have hw2 := wrap1 hj (Nat.le_of_lt hl)
  simp only [spV, Sp.c, Bs.c] at hb
  cases b with
  | false =>
   simp -implicitDefEqProofs [U.c148_0, h1, h4, h45, h46, h47, hj, hw1, hw2, obStore_c, storeG_1, obCells_c, hb] at hr
   subst hr
   exact .inr ⟨by simp, _, _, hF2, .inl ⟨rfl, hfa rfl⟩⟩
  | true =>
   simp -implicitDefEqProofs [U.c148_0, h1, h4, h45, h46, h47, hj, hw1, hw2, obStore_c, storeG_1, obCells_c, hb] at hr
   subst hr
   exact .inl ⟨_, _, rfl, by simp [h1], by simp [h4], by simp [h45], by simp [h46], by simp, by simp [h2], by simp [h20], by simp [h21], by simp [h22], hF2, by have := hf.1; simp only at this; omega, ht rfl⟩
 ·rw [List.drop_length] at hI
  simp -implicitDefEqProofs [U.c148_0, h1, h4, h45, h46, h47] at hr
  subst hr
  exact ⟨by simp, _, _, hF, .inr ⟨rfl, hI, by simp [h1], by simp [h2], by simp [h20], by simp [h21], by simp [h22]⟩⟩
include hsf in
theorem w148b (a : Ar) (ok : ArOk a) (rest : List HV) (e : En) (s : HS) (r : Out) (h1 : look e 1 = some (.yld l)) (h2 : look e 2 = some (.pptr a.c)) (h20 : look e 20 = some (.psl (a.ids.map Ty.c))) (h21 : look e 21 = some (iV a.ids.length)) (h22 : look e 22 = some (iV 0))
  (hN : N <= s.nx.toNat) (hI : I ((idSp a.jumps 0 a.ids).map spV ++ rest) s) (hr : ev R (.loop U.c148_1) e s = r) :
  ∃ e' s', Frm (fun k => G k ∨ Up N k) s s' /\ ((r = .code .ret e' s' /\ Fn s') ∨ (r = .code (.exit 0) e' s' /\ I rest s')) := by
 refine loopN_use hr a.ids.length
  (fun i e s' => look e 1 = some (.yld l) /\ look e 2 = some (.pptr a.c) /\ look e 20 = some (.psl (a.ids.map Ty.c)) /\ look e 21 = some (iV a.ids.length) /\ look e 22 = some (iV i) /\
   Frm (fun k => G k ∨ Up N k) s s' /\ N <= s'.nx.toNat /\ I ((idSp a.jumps i (a.ids.drop i)).map spV ++ rest) s')
  (fun r => ∃ e' s', Frm (fun k => G k ∨ Up N k) s s' /\ ((r = .code .ret e' s' /\ Fn s') ∨ (r = .code (.exit 0) e' s' /\ I rest s')))
  0 (by omega) ⟨h1, h2, h20, h21, h22, Frm.refl, hN, hI⟩
  (fun i e s' r hi ⟨h1, h2, h20, h21, h22, hF, hN, hI⟩ hr => ?_) (fun e s' r ⟨h1, h2, h20, h21, h22, hF, hN, hI⟩ hr => ?_)
 ·have hps := ok.2 _ (List.getElem_mem hi)
  have hl := ok.1
  rw [List.drop_eq_getElem_cons hi] at hI
  simp only [idSp, List.map_cons, List.cons_append, List.map_append, List.append_assoc] at hI
  have hal := Frm.alloc (s := s') (.cells (Lst a.ids[i].c) 0 3 s'.nx) [s'.nx]
  have hI2 := hst _ _ _ hI (hal.mono (fun _ h => h.elim))
  have hsucc := Ky.toNat_succ s'.nx
  obtain ⟨b, s2, hb, hf, ht, hfa⟩ := hround _ _ _ (by simp only; omega) hI2
  have hF2 : Frm (fun k => G k ∨ Up N k) s s2 := hF.trans ((hal.mono (fun _ h => h.elim)).trans (hf.mono fun k hk => .inl hk))
  have hN2 : N <= s2.nx.toNat := by have := hf.1; simp only at this; omega
  have hob : tget s2.h s'.nx = some (.cells (Lst a.ids[i].c) 0 3 s'.nx) := by
   rw [hf.2.2.1 s'.nx (by simp only; omega) (fun h => by have := hG _ h; omega)]
   simp
  have hw1 := wrap1 hi (Nat.le_of_lt hl)
  simp only [spV, Sp.c, Ty.c] at hb hob
  cases b with
  | false =>
   cases hj : a.jumps <;> rw [hj] at hb
   ·simp at hb
    simp -implicitDefEqProofs [U.c148_1, h1, h2, h20, h21, h22, hi, hw1, obStore_c, storeG_1, obCells_c, hj, hb] at hr
    subst hr
    exact .inr ⟨by simp, _, _, hF2, .inl ⟨rfl, hfa rfl⟩⟩
   ·simp at hb
    simp -implicitDefEqProofs [U.c148_1, h1, h2, h20, h21, h22, hi, hw1, obStore_c, storeG_1, obCells_c, hj, hb] at hr
    subst hr
    exact .inr ⟨by simp, _, _, hF2, .inl ⟨rfl, hfa rfl⟩⟩
  | true =>
   have fn : ∀ e1 r1, ev R (.loop U.c148_0) e1 s2 = r1 -> look e1 1 = some (.yld l) -> look e1 2 = some (.pptr a.c) -> look e1 4 = some (iV i) -> look e1 20 = some (.psl (a.ids.map Ty.c)) -> look e1 21 = some (iV a.ids.length) -> look e1 22 = some (iV i) -> look e1 45 = some (.psl (a.ids[i].ps.map Bs.c)) -> look e1 46 = some (iV a.ids[i].ps.length) -> look e1 47 = some (iV 0) ->
     (blk 1 (blk 2 r1)).asNormal (ev R (.rg [22] [⟨some 62, .bin false .add (.t 22) (.k (.int .i64 1)), none⟩, ⟨some 22, .mv (.t 62), none⟩])) = r -> (∃ e' s', r = .code .normal e' s' /\ look e' 1 = some (.yld l) /\ look e' 2 = some (.pptr a.c) /\ look e' 20 = some (.psl (a.ids.map Ty.c)) /\ look e' 21 = some (iV a.ids.length) /\ look e' 22 = some (iV ((i + 1 : Nat) : Int)) /\
   Frm (fun k => G k ∨ Up N k) s s' /\ N <= s'.nx.toNat /\ I ((idSp a.jumps (i + 1) (a.ids.drop (i + 1))).map spV ++ rest) s') ∨ (Stops r /\ ∃ e' s', Frm (fun k => G k ∨ Up N k) s s' /\ ((r = .code .ret e' s' /\ Fn s') ∨ (r = .code (.exit 0) e' s' /\ I rest s'))) := by
    intro e1 r1 hr1 g1 g2 g4 g20 g21 g22 g45 g46 g47 hr
    obtain ⟨e2, s3, hF3, hd⟩ := w148a hG hst hround a i a.ids[i].ps hps (by omega) _ e1 s2 r1 g1 g4 g45 g46 g47 g2 _ _ _ g20 g21 g22 hN2 (ht rfl) hr1
    clear hr1
    have hF4 := hF2.trans (hF3.mono fun k hk => hk)
    rcases hd with ⟨rfl, hfn⟩ | ⟨rfl, hI3, q1, q2, q20, q21, q22⟩
    ·simp at hr
     subst hr
     exact .inr ⟨by simp, _, _, hF4, .inl ⟨rfl, hfn⟩⟩
    ·simp -implicitDefEqProofs [q22, hw1] at hr
     subst hr
     exact .inl ⟨_, _, rfl, by simp [q1], by simp [q2], by simp [q20], by simp [q21], by simp, hF4, by have := hF3.1; omega, hI3⟩
   cases hj : a.jumps <;> rw [hj] at hb
   ·simp at hb
    simp -implicitDefEqProofs [U.c148_1, h1, h2, h20, h21, h22, hi, hw1, obStore_c, storeG_1, obCells_c, hj, hb, hob] at hr
    generalize hr1 : ev R (.loop U.c148_0) _ s2 = r1 at hr
    rw [hj] at fn
    exact fn _ _ hr1 (by simp [h1]) (by simp [h2]) (by simp) (by simp [h20]) (by simp [h21]) (by simp [h22]) (by simp) (by simp) (by simp) hr
   ·simp at hb
    simp -implicitDefEqProofs [U.c148_1, h1, h2, h20, h21, h22, hi, hw1, obStore_c, storeG_1, obCells_c, hj, hb, hob] at hr
    generalize hr1 : ev R (.loop U.c148_0) _ s2 = r1 at hr
    rw [hj] at fn
    exact fn _ _ hr1 (by simp [h1]) (by simp [h2]) (by simp) (by simp [h20]) (by simp [h21]) (by simp [h22]) (by simp) (by simp) (by simp) hr
 ·rw [List.drop_length] at hI
  simp -implicitDefEqProofs [U.c148_1, h1, h2, h20, h21, h22] at hr
  subst hr
  exact ⟨by simp, _, _, hF, .inr ⟨rfl, hI⟩⟩
end
theorem w148 (a : Ar) (ok : ArOk a) : Iter LU U.prog 148 [.agg a.c] [] ((spots a).map spV) := by
 intro l G I Fn s hG hst hsf hround rest hI
 simp only [spots, List.map_cons, List.cons_append] at hI
 obtain ⟨b, s1, hb, hf, ht, hfa⟩ := hround _ _ s (Nat.le_refl _) hI
 simp only [spV, Sp.c] at hb
 have hb : R (Task.round l [HV.agg [.int .i64 0, .int .i64 0, .bool a.root.cell, .int .i64 a.root.n, .bool a.jumps]] s) = .val (.bool b) s1 := hb
 generalize hr : ev R U.b148 (args0 ([.agg a.c] ++ [.yld l] ++ []) 0) s = r
 have hr0 := hr
 cases b with
 | false =>
  simp -implicitDefEqProofs [U.b148, hb] at hr
  subst hr
  exact ⟨s1, n148 rfl ⟨.ret, _, s1, hr0, .inr rfl, by simp⟩, hf.mono fun k hk => .inl hk, .inr (hfa rfl)⟩
 | true =>
  simp -implicitDefEqProofs [U.b148, hb] at hr
  generalize hr1 : ev R (.loop U.c148_1) _ s1 = r1 at hr
  obtain ⟨e2, s2, hF, hd⟩ := w148b hG hst hsf hround a ok rest _ s1 r1 (by simp) (by simp) (by simp) (by simp) (by simp) hf.1 (ht rfl) hr1
  clear hr1
  have hF2 := (hf.mono (G := fun k => G k ∨ Up s.nx.toNat k) fun k hk => .inl hk).trans hF
  rcases hd with ⟨rfl, h⟩ | ⟨rfl, h⟩
  ·simp at hr
   subst hr
   exact ⟨s2, n148 rfl ⟨.ret, _, s2, hr0, .inr rfl, by simp⟩, hF2, .inr h⟩
  ·simp at hr
   subst hr
   exact ⟨s2, n148 rfl ⟨.normal, _, s2, hr0, .inl rfl, by simp⟩, hF2, .inl h⟩
set_option maxRecDepth 10000
set_option linter.unusedSimpArgs false
def matchSp (id arg : Int) (p : Sp) : Bool := p.id = id /\ p.arg = arg
def findSp (a : Ar) (id arg : Int) : Option Sp := (spots a).find? (matchSp id arg)
def zSp : List HV := [.int .i64 0, .int .i64 0, .bool false, .int .i64 0, .bool false]
def findV (o : Option Sp) : List HV := match o with
 | none => [.agg zSp, .bool false]
 | some p => [.agg p.c, .bool true]
theorem g118_2 {l : Ky} {e : En} {s : HS} {p : Sp} (h11 : look e 11 = some (spV p)) : ev R U.r118_2 e s = .code .normal (e.upd 8 (.ptr s.nx 0)) { h := tset (some (.cells (Lst p.c) 0 5 s.nx)) s.nx s.h, nx := s.nx.succ, gr := tset (some [s.nx]) s.nx s.gr, ty := s.ty } := by
 simp -implicitDefEqProofs [h11, obStore_c, storeG_1]
theorem r118 (id arg : Int) (E : En) (hE4 : look E 4 = some (.pptr [iV id])) (hE5 : look E 5 = some (.pptr [iV arg])) (hE6 : look E 6 = some (.ptr .e 0)) (hE7 : look E 7 = some (.ptr (.z .e) 0)) (l : Ky) (hl : l = .o .e) (p : Sp) (s : HS)
  (h1 : tget s.h l = lpO 0 none E [11] U.r118_2 U.k118_1) (h2 : 2 < s.nx.toNat) (h3 : Cel s .e zSp) (h4 : Cel s (.z .e) [.bool false]) :
  ∃ b s', R (.round l [spV p] s) = .val (.bool b) s' /\ Frm (fun k => k.toNat < 3) s s' /\ b = !matchSp id arg p /\
   (b = true -> tget s'.h l = lpO 0 none E [11] U.r118_2 U.k118_1 /\ Cel s' .e zSp /\ Cel s' (.z .e) [.bool false]) /\ (b = false -> tget s'.h l = lpO 1 (some .ret) E [11] U.r118_2 U.k118_1 /\ Cel s' .e p.c /\ Cel s' (.z .e) [.bool true]) := by
 have hsucc := Ky.toNat_succ s.nx
 have hlN : l.toNat = 2 := by subst hl; rfl
 have ha := g118_2 (l := l) (e := .cons 11 (spV p) E) (s := s) (p := p) (by simp)
 have hal := Frm.alloc (s := s) (.cells (Lst p.c) 0 5 s.nx) [s.nx]
 have hlne : l ≠ s.nx := fun e => by rw [e] at hlN; omega
 have hl1 : tget (HS.mk (tset (some (.cells (Lst p.c) 0 5 s.nx)) s.nx s.h) s.nx.succ (tset (some [s.nx]) s.nx s.gr) s.ty).h l = lpO 0 none E [11] U.r118_2 U.k118_1 := by
  rw [hal.2.2.1 l (by omega) (fun h => h)]; exact h1
 have hc1 := (h3.frame hal (fun h => h)).frame (Frm.setOb (G := fun k => k = l) (o := l) (b := .loop 2 none E [11] U.r118_2 U.k118_1) rfl) (fun e => by rw [<- e] at hlN; simp [Ky.toNat] at hlN)
 have hc2 := (h4.frame hal (fun h => h)).frame (Frm.setOb (G := fun k => k = l) (o := l) (b := .loop 2 none E [11] U.r118_2 U.k118_1) rfl) (fun e => by rw [<- e] at hlN; simp [Ky.toNat] at hlN)
 have hfr1 : Frm (fun k => k.toNat < 3) s ((HS.mk (tset (some (.cells (Lst p.c) 0 5 s.nx)) s.nx s.h) s.nx.succ (tset (some [s.nx]) s.nx s.gr) s.ty).setOb l (.loop 2 none E [11] U.r118_2 U.k118_1)) :=
  (hal.mono fun _ h => h.elim).trans (Frm.setOb (by show l.toNat < 3; omega))
 have hob : tget ((HS.mk (tset (some (.cells (Lst p.c) 0 5 s.nx)) s.nx s.h) s.nx.succ (tset (some [s.nx]) s.nx s.gr) s.ty).setOb l (.loop 2 none E [11] U.r118_2 U.k118_1)).h s.nx = some (.cells (Lst p.c) 0 5 s.nx) := by
  rw [setOb_get, if_neg (Ne.symm hlne)]; simp
 have hlp : tget ((HS.mk (tset (some (.cells (Lst p.c) 0 5 s.nx)) s.nx s.h) s.nx.succ (tset (some [s.nx]) s.nx s.gr) s.ty).setOb l (.loop 2 none E [11] U.r118_2 U.k118_1)).h l = lpO 2 none E [11] U.r118_2 U.k118_1 := by
  rw [setOb_get, if_pos rfl]
 generalize hs2 : (HS.mk (tset (some (.cells (Lst p.c) 0 5 s.nx)) s.nx s.h) s.nx.succ (tset (some [s.nx]) s.nx s.gr) s.ty).setOb l (.loop 2 none E [11] U.r118_2 U.k118_1) = s2 at *
 obtain ⟨s3, st1, hd1, hfr2, hn2⟩ := hc1.put (new := p.c) (v := spV p) rfl rfl
 have hd2 := hc2.frame hfr2 (fun e => by cases e)
 obtain ⟨s4, st2, hd3, hfr3, hn3⟩ := hd2.set 0 (by simp) (.bool true) rfl
 have hlp4 : tget s4.h l = lpO 2 none E [11] U.r118_2 U.k118_1 := by
  have hlb : l.toNat < s2.nx.toNat := by have := hfr1.1; omega
  rw [hfr3.2.2.1 l (by have := congrArg Ky.toNat hn2; omega) (fun e => by rw [e] at hlN; simp [Ky.toNat] at hlN), hfr2.2.2.1 l hlb (fun e => by rw [e] at hlN; simp [Ky.toNat] at hlN)]
  exact hlp
 obtain ⟨pi, pa, pb, pe⟩ := p
 simp only [Sp.c] at hob st1
 have st1 : stV 5 (some (.ptr .e 0)) (some (.agg [.int .i64 pi, .int .i64 pa, .bool pb.cell, .int .i64 pb.n, .bool pe])) s2 = .v .undef s3 := st1
 generalize hr : ev R U.k118_1 ((En.cons 11 (spV ⟨pi, pa, pb, pe⟩) E).upd 8 (.ptr s.nx 0)) s2 = r
 have hround := R_round (o := r) h1 ha hl1 (by rw [hs2]; exact hr)
 have fin : ∀ (s5 : HS) (x : Nat) (pd : Option HC), Frm (fun k => k.toNat < 3) s s5 -> Frm (fun k => k.toNat < 3) s (s5.setOb l (.loop x pd E [11] U.r118_2 U.k118_1)) := fun s5 x pd h => h.trans (Frm.setOb (by show l.toNat < 3; omega))
 have cl : ∀ (s5 : HS) (o : Ky) (c : List HV) (x : Nat) (pd : Option HC), o ≠ l -> Cel s5 o c -> Cel (s5.setOb l (.loop x pd E [11] U.r118_2 U.k118_1)) o c := fun s5 o c x pd hne h => h.frame (Frm.setOb (G := fun k => k = l) rfl) hne
 have n1 : Ky.e ≠ l := by rw [hl]; intro h; cases h
 have n2 : Ky.z .e ≠ l := by rw [hl]; intro h; cases h
 by_cases hm : pi = id /\ pa = arg
 ·obtain ⟨rfl, rfl⟩ := hm
  simp -implicitDefEqProofs [U.k118_1, hE4, hE5, hE6, hE7, hob, obCells_c, st1, st2] at hr
  subst hr
  obtain ⟨_, h2⟩ := hround (fun e2 s2 h => by simp at h; obtain ⟨_, rfl⟩ := h; exact hlp4)
  have hres := h2 _ _ rfl
  refine ⟨false, _, hres, fin _ _ _ ((hfr1.trans (hfr2.mono fun k hk => by subst hk; simp [Ky.toNat])).trans (hfr3.mono fun k hk => by subst hk; simp [Ky.toNat])), by simp [matchSp], by simp, fun _ => ⟨by rw [setOb_get, if_pos rfl], cl _ _ _ _ _ n1 (hd1.frame hfr3 (fun e => by cases e)), cl _ _ _ _ _ n2 hd3⟩⟩
 ·have hr2 : ∃ e2, r = .code .normal e2 s2 := by
   by_cases h1 : pi = id
   ·have h2 : ¬ pa = arg := fun h => hm ⟨h1, h⟩
    subst h1
    simp -implicitDefEqProofs [U.k118_1, hE4, hE5, hE6, hE7, hob, obCells_c, h2] at hr
    subst hr
    exact ⟨_, rfl⟩
   ·simp -implicitDefEqProofs [U.k118_1, hE4, hE5, hE6, hE7, hob, obCells_c, h1] at hr
    subst hr
    exact ⟨_, rfl⟩
  obtain ⟨e2, rfl⟩ := hr2
  obtain ⟨h1, _⟩ := hround (fun e2 s2 h => by simp at h; obtain ⟨_, rfl⟩ := h; exact hlp)
  have hres := h1 _ _ rfl
  refine ⟨true, _, hres, fin _ _ _ hfr1, by simp only [matchSp]; rw [decide_eq_false hm]; rfl, fun _ => ⟨by rw [setOb_get, if_pos rfl], cl _ _ _ _ _ n1 hc1, cl _ _ _ _ _ n2 hc2⟩, by simp⟩
theorem find_app {α : Type} (q : α -> Bool) : ∀ (d l : List α), (∀ x ∈ d, q x = false) -> (d ++ l).find? q = l.find? q
 | [], _, _ => rfl
 | x :: d, l, h => by
  rw [List.cons_append, List.find?_cons_of_neg (by rw [h x List.mem_cons_self]; simp)]
  exact find_app q d l fun y hy => h y (List.mem_cons_of_mem _ hy)
theorem w118 (a : Ar) (ok : ArOk a) (id arg : Int) (s : HS) : R (.call 118 [.agg a.c, iV id, iV arg] s) = .val (.tup (findV (findSp a id arg))) s := by
 refine q118 rfl (by simp) ?_
 simp -implicitDefEqProofs [-U.r118_2, U.b118, U.k118_0, s0]
 generalize ho : evRf R _ _ _ _ _ _ = o
 generalize hE : (En.cons 0 _ _ : En) = E at ho
 generalize hS : HS.mk _ _ _ _ = S at ho
 have hE4 : look E 4 = some (.pptr [iV id]) := by subst hE; simp
 have hE5 : look E 5 = some (.pptr [iV arg]) := by subst hE; simp
 have hE6 : look E 6 = some (.ptr .e 0) := by subst hE; simp
 have hE7 : look E 7 = some (.ptr (.z .e) 0) := by subst hE; simp
 have hE10 : look E 10 = some (.fn 148 [.agg a.c] []) := by subst hE; simp
 have hnx : S.nx = .o .e := by subst hS; rfl
 have hc1 : Cel S .e zSp := by subst hS; exact ⟨rfl, rfl, by simp [Ky.toNat]⟩
 have hc2 : Cel S (.z .e) [.bool false] := by subst hS; exact ⟨rfl, rfl, by simp [Ky.toNat]⟩
 have hn1 : (rfS S E [11] U.r118_2 U.k118_1).nx.toNat = 3 := by show S.nx.succ.toNat = 3; rw [hnx]; rfl
 have hfr := Frm.rf (s := S) (e := E) (ps := [11]) (asg := U.r118_2) (body := U.k118_1)
 obtain ⟨s2, hcall, hF, hd⟩ := w148 a ok (.o .e) (fun k => k.toNat < 3)
  (fun rem s' => 2 < s'.nx.toNat /\ tget s'.h (.o .e) = lpO 0 none E [11] U.r118_2 U.k118_1 /\ Cel s' .e zSp /\ Cel s' (.z .e) [.bool false] /\ ∃ d sps, rem = sps.map spV /\ spots a = d ++ sps /\ ∀ p ∈ d, matchSp id arg p = false)
  (fun s' => 2 < s'.nx.toNat /\ tget s'.h (.o .e) = lpO 1 (some .ret) E [11] U.r118_2 U.k118_1 /\ ∃ p, findSp a id arg = some p /\ Cel s' .e p.c /\ Cel s' (.z .e) [.bool true])
  (rfS S E [11] U.r118_2 U.k118_1) (fun k hk => by rw [hn1]; exact hk)
  (fun x => by
   rw [hn1]
   rintro s1 s2 ⟨h1, h2, h3, h4, h5⟩ hf
   exact ⟨by have := hf.1; omega, by rw [hf.2.2.1 (.o .e) h1 (by simp [Up, Ky.toNat])]; exact h2, h3.frame hf (by simp [Up, Ky.toNat]), h4.frame hf (by simp [Up, Ky.toNat]), h5⟩)
  (by
   rw [hn1]
   rintro s1 s2 ⟨h1, h2, p, h3, h4, h5⟩ hf
   exact ⟨by have := hf.1; omega, by rw [hf.2.2.1 (.o .e) h1 (by simp [Up, Ky.toNat])]; exact h2, p, h3, h4.frame hf (by simp [Up, Ky.toNat]), h5.frame hf (by simp [Up, Ky.toNat])⟩)
  (fun x rest s1 hN ⟨h1, h2, h3, h4, d, sps, h5, h6, h7⟩ => by
   cases sps with
   | nil => cases h5
   | cons p sps =>
    simp only [List.map_cons, List.cons.injEq] at h5
    obtain ⟨rfl, rfl⟩ := h5
    obtain ⟨b, s2, r1, r2, r3, r4, r5⟩ := r118 id arg E hE4 hE5 hE6 hE7 (.o .e) rfl p s1 h2 h1 h3 h4
    refine ⟨b, s2, r1, r2, fun hb => ?_, fun hb => ?_⟩
    ·obtain ⟨q1, q2, q3⟩ := r4 hb
     refine ⟨by have := r2.1; omega, q1, q2, q3, d ++ [p], sps, rfl, by rw [h6]; simp, fun y hy => ?_⟩
     rcases List.mem_append.1 hy with hy | hy
     ·exact h7 y hy
     ·simp at hy; subst hy; rw [hb] at r3; simpa using r3
    ·obtain ⟨q1, q2, q3⟩ := r5 hb
     refine ⟨by have := r2.1; omega, q1, p, ?_, q2, q3⟩
     unfold findSp
     rw [h6, find_app _ _ _ h7, List.find?_cons_of_pos]
     rw [hb] at r3; simpa using r3)
  [] ⟨by rw [hn1]; omega, by show tget (tset _ S.nx S.h) (.o .e) = _; rw [hnx, tget_same], hc1.frame hfr (fun h => h), hc2.frame hfr (fun h => h), [], spots a, by simp, rfl, by simp⟩
 have hrf := evRf_of (L := LU) (prog := U.prog) (x := .t 10) (s := S) (e := E) (ps := [11]) (asg := U.r118_2) (body := U.k118_1) (e' := E) (ps' := [11]) (asg' := U.r118_2) (body' := U.k118_1) (by rw [opd_t]; exact hE10) (by rw [hnx]; exact hcall)
 rcases hd with ⟨h1, h2, h3, h4, d, sps, h5, h6, h7⟩ | ⟨h1, h2, p, h3, h4, h5⟩
 ·have hr := hrf.1 (by rw [hnx]; exact h2)
  rw [hr] at ho
  subst ho
  have hno : findSp a id arg = none := by
   have : sps = [] := by cases sps with
    | nil => rfl
    | cons x y => cases h5
   subst this
   unfold findSp
   rw [h6, find_app _ _ _ h7]; rfl
  have k1 := h3.kill (k := S.nx) (by rw [hnx]; intro h; cases h)
  have k2 := h4.kill (k := S.nx) (by rw [hnx]; intro h; cases h)
  generalize s2.kill S.nx = K at *
  obtain ⟨K1, st1, kd1, kf1, _⟩ := k1.put (new := zSp) (v := .agg zSp) rfl rfl
  have kd2 := k2.frame kf1 (fun e => by cases e)
  obtain ⟨K2, st2, kd3, kf2, _⟩ := kd2.set 0 (by simp) (.bool false) rfl
  have kd4 := kd1.frame kf2 (fun e => by cases e)
  have st1 : stV 5 (some (.ptr .e 0)) (some (.agg [.int .i64 0, .int .i64 0, .bool false, .int .i64 0, .bool false])) K = .v .undef K1 := st1
  have l1 : obCells (tget K2.h .e) 0 5 = some zSp := kd4.load
  have l2 : obCell (tget K2.h (.z .e)) 0 = some (.bool false) := kd3.get 0 (by simp)
  rw [hno]
  simp -implicitDefEqProofs [hE6, hE7, st1, st2, l1, l2]
  exact dataV_of (.tup (.data (by simp [findV, zSp])))
 ·have hr := hrf.2 (by rw [hnx]; exact h2)
  rw [hr] at ho
  subst ho
  rw [h3]
  have k1 := h4.kill (k := S.nx) (by rw [hnx]; intro h; cases h)
  have k2 := h5.kill (k := S.nx) (by rw [hnx]; intro h; cases h)
  generalize s2.kill S.nx = K at *
  have l1 : obCells (tget K.h .e) 0 5 = some p.c := k1.load
  have l2 : obCell (tget K.h (.z .e)) 0 = some (.bool true) := k2.get 0 (by simp)
  simp -implicitDefEqProofs [hE6, hE7, l1, l2]
  exact dataV_of (.tup (.data (by simp [findV])))
set_option maxRecDepth 10000
set_option linter.unusedSimpArgs false
abbrev mvV (m : Mv) : HV := .agg m.c
theorem w229 (p : Sp) (s : HS) : R (.call 229 [spV p] s) = .val (mvV ⟨p.id, p.arg, 1, 0⟩) s := by
 refine q229 rfl (by simp) ?_
 simp -implicitDefEqProofs [U.b229, dataV_data, s0, obStore_c, storeG_1, obCells_c]
theorem w230 (p : Sp) (n : Int) (s : HS) : R (.call 230 [spV p, iV n] s) = .val (mvV ⟨p.id, p.arg, 2, n⟩) s := by
 refine q230 rfl (by simp) ?_
 simp -implicitDefEqProofs [U.b230, dataV_data, s0, obStore_c, storeG_1, obCells_c]
theorem w232 (p : Sp) (n : Int) (s : HS) : R (.call 232 [spV p, iV n] s) = .val (mvV ⟨p.id, p.arg, 3, n⟩) s := by
 refine q232 rfl (by simp) ?_
 simp -implicitDefEqProofs [U.b232, dataV_data, s0, obStore_c, storeG_1, obCells_c]
theorem w223 (p : Sp) (n : Int) (s : HS) : R (.call 223 [spV p, iV n] s) = .val (.fn 231 [] [.pptr p.c, .pptr [iV n]]) s := by
 refine q223 rfl (by simp) ?_
 simp -implicitDefEqProofs [U.b223, s0]
 exact dataV_of (Vw.fn .nil (.cons (Vw.ptr rfl rfl (.data (by simp))) (.cons (Vw.ptr rfl rfl (.data (by simp))) .nil)))
theorem range_drop (n i : Nat) (h : i < n) (f : Nat -> Mv) : ((List.range n).drop i).map f = f i :: ((List.range n).drop (i + 1)).map f := by
 rw [List.drop_eq_getElem_cons (by simpa using h)]
 simp
theorem w222 (p : Sp) (hp : baseB p.b = true) : Iter LU U.prog 222 [spV p] [] ((questionsL p.b p.id p.arg).map mvV) := by
 intro l G I Fn s hG hst hsf hround rest hI
 simp only [baseB, decide_eq_true_eq] at hp
 simp only [questionsL, List.map_cons, List.cons_append] at hI
 obtain ⟨b, s1, hb, hf, ht, hfa⟩ := hround _ _ s (Nat.le_refl _) hI
 have h229 := w229 p
 have h230 := w230 p
 simp only [spV, mvV, Mv.c, Sp.c, iV] at hb h229 h230
 have hb : R (Task.round l [HV.agg [.int .i64 p.id, .int .i64 p.arg, .int .u8 1, .int .i64 0]] s) = .val (.bool b) s1 := hb
 generalize hr : ev R U.b222 (args0 ([spV p] ++ [.yld l] ++ []) 0) s = r
 have hr0 := hr
 cases b with
 | false =>
  simp -implicitDefEqProofs [U.b222, h229, hb] at hr
  subst hr
  exact ⟨s1, n222 rfl ⟨.ret, _, s1, hr0, .inr rfl, by simp⟩, hf.mono fun k hk => .inl hk, .inr (hfa rfl)⟩
 | true =>
  cases hc : p.b.cell with
  | false =>
   rw [hc] at h229
   simp -implicitDefEqProofs [U.b222, h229, hb, hc] at hr
   subst hr
   have hI2 := ht rfl
   rw [hc] at hI2
   exact ⟨s1, n222 rfl ⟨.ret, _, s1, hr0, .inr rfl, by simp⟩, hf.mono fun k hk => .inl hk, .inl hI2⟩
  | true =>
   rw [hc] at h229 h230
   simp -implicitDefEqProofs [U.b222, h229, hb, hc] at hr
   generalize hr1 : ev R (.loop U.c222_0) _ s1 = r1 at hr
   have hI2 := ht rfl
   rw [hc, if_pos rfl] at hI2
   have hq := loopN_use hr1 p.b.n.toNat
    (fun i e s' => look e 1 = some (.yld l) /\ look e 2 = some (.pptr p.c) /\ look e 18 = some (iV p.b.n) /\ look e 19 = some (iV i) /\ Frm (fun k => G k ∨ Up s.nx.toNat k) s s' /\ I ((((List.range p.b.n.toNat).drop i).map (putM p.id p.arg)).map mvV ++ rest) s')
    (fun o => ∃ e' s', Frm (fun k => G k ∨ Up s.nx.toNat k) s s' /\ ((o = .code .ret e' s' /\ Fn s') ∨ (o = .code (.exit 0) e' s' /\ I rest s')))
    0 (by omega) ⟨by simp, by simp [hc], by simp, by simp, hf.mono fun k hk => .inl hk, hI2⟩
    (fun i e s' r hi ⟨h1, h2, h18, h19, hF, hI⟩ hr => by
     rw [range_drop _ _ hi, List.map_cons, List.cons_append] at hI
     obtain ⟨b, s2, hb, hf2, ht, hfa⟩ := hround _ _ s' hF.1 hI
     have hlt : (i : Int) < p.b.n := by omega
     simp only [mvV, Mv.c, putM] at hb
     have hF2 := hF.trans (hf2.mono (G := fun k => G k ∨ Up s.nx.toNat k) fun k hk => .inl hk)
     simp only [Sp.c, hc] at h2
     cases b with
     | false =>
      simp -implicitDefEqProofs [U.c222_0, h1, h2, h18, h19, hlt, h230, hb] at hr
      subst hr
      exact .inr ⟨by simp, _, _, hF2, .inl ⟨rfl, hfa rfl⟩⟩
     | true =>
      simp -implicitDefEqProofs [U.c222_0, h1, h2, h18, h19, hlt, h230, hb, wrap1 (n := 64) (show i < 64 by omega) (by omega)] at hr
      subst hr
      exact .inl ⟨_, _, rfl, by simp [h1], by simp [h2, hc], by simp [h18], by simp, hF2, ht rfl⟩)
    (fun e s' r ⟨h1, h2, h18, h19, hF, hI⟩ hr => by
     have hge : ¬ (max p.b.n 0 < p.b.n) := by omega
     rw [List.drop_of_length_le (by simp)] at hI
     simp -implicitDefEqProofs [U.c222_0, h1, h2, h18, h19, hge] at hr
     subst hr
     exact ⟨by simp, _, _, hF, .inr ⟨rfl, by simpa using hI⟩⟩)
   clear hr1
   obtain ⟨e', s', hF, ⟨rfl, h⟩ | ⟨rfl, h⟩⟩ := hq
   ·simp at hr
    subst hr
    exact ⟨s', n222 rfl ⟨.ret, _, s', hr0, .inr rfl, by simp⟩, hF, .inr h⟩
   ·simp at hr
    subst hr
    exact ⟨s', n222 rfl ⟨.normal, _, s', hr0, .inl rfl, by simp⟩, hF, .inl h⟩
theorem w231 (p : Sp) (hp : baseB p.b = true) (n : Int) (h0 : 0 <= n) (hn : n <= 64) : Iter LU U.prog 231 [] [.pptr p.c, .pptr [iV n]] (((if p.esc then [(⟨p.id, p.arg, 3, -1⟩ : Mv)] else []) ++ (List.range n.toNat).map (tellM p.id p.arg)).map mvV) := by
 intro l G I Fn s hG hst hsf hround rest hI
 have h232 := w232 p
 simp only [spV, mvV, Mv.c, Sp.c, iV] at h232
 have main : ∀ (e : En) (s1 : HS) (r1 r : Out), ev R (.loop U.c231_0) e s1 = r1 -> blk 0 r1 = r -> look e 0 = some (.yld l) -> look e 1 = some (.pptr p.c) -> look e 14 = some (iV n) -> look e 15 = some (iV 0) -> Frm (fun k => G k ∨ Up s.nx.toNat k) s s1 -> I (((List.range n.toNat).map (tellM p.id p.arg)).map mvV ++ rest) s1 ->
   ∃ x e' s', r = .code x e' s' /\ (x = .normal ∨ x = .ret) /\ Frm (fun k => G k ∨ Up s.nx.toNat k) s s' /\ (I rest s' ∨ Fn s') := by
  intro e s1 r1 r hr1 hr e0 e1 e14 e15 hF0 hI0
  have hq := loopN_use hr1 n.toNat
   (fun i e s' => look e 0 = some (.yld l) /\ look e 1 = some (.pptr p.c) /\ look e 14 = some (iV n) /\ look e 15 = some (iV i) /\ Frm (fun k => G k ∨ Up s.nx.toNat k) s s' /\ I ((((List.range n.toNat).drop i).map (tellM p.id p.arg)).map mvV ++ rest) s')
   (fun o => ∃ e' s', Frm (fun k => G k ∨ Up s.nx.toNat k) s s' /\ ((o = .code .ret e' s' /\ Fn s') ∨ (o = .code (.exit 0) e' s' /\ I rest s')))
   0 (by omega) ⟨e0, e1, e14, e15, hF0, hI0⟩
   (fun i e s' r hi ⟨h1, h2, h18, h19, hF, hI⟩ hr => by
    rw [range_drop _ _ hi, List.map_cons, List.cons_append] at hI
    obtain ⟨b, s2, hb, hf2, ht, hfa⟩ := hround _ _ s' hF.1 hI
    have hlt : (i : Int) < n := by omega
    simp only [mvV, Mv.c, tellM] at hb
    have hF2 := hF.trans (hf2.mono (G := fun k => G k ∨ Up s.nx.toNat k) fun k hk => .inl hk)
    cases b with
    | false =>
     simp -implicitDefEqProofs [U.c231_0, h1, h2, h18, h19, hlt, h232, hb] at hr
     subst hr
     exact .inr ⟨by simp, _, _, hF2, .inl ⟨rfl, hfa rfl⟩⟩
    | true =>
     simp -implicitDefEqProofs [U.c231_0, h1, h2, h18, h19, hlt, h232, hb, wrap1 (n := 64) (show i < 64 by omega) (by omega)] at hr
     subst hr
     exact .inl ⟨_, _, rfl, by simp [h1], by simp [h2], by simp [h18], by simp, hF2, ht rfl⟩)
   (fun e s' r ⟨h1, h2, h18, h19, hF, hI⟩ hr => by
    have hge : ¬ (max n 0 < n) := by omega
    rw [List.drop_of_length_le (by simp)] at hI
    simp -implicitDefEqProofs [U.c231_0, h1, h2, h18, h19, hge] at hr
    subst hr
    exact ⟨by simp, _, _, hF, .inr ⟨rfl, by simpa using hI⟩⟩)
  clear hr1
  obtain ⟨e', s', hF, ⟨rfl, h⟩ | ⟨rfl, h⟩⟩ := hq
  ·simp at hr
   subst hr
   exact ⟨_, _, _, rfl, .inr rfl, hF, .inr h⟩
  ·simp at hr
   subst hr
   exact ⟨_, _, _, rfl, .inl rfl, hF, .inl h⟩
 generalize hr : ev R U.b231 (args0 ([] ++ [.yld l] ++ [.pptr p.c, .pptr [iV n]]) 0) s = r
 have hr0 := hr
 have fin : ∀ x e' s', r = .code x e' s' -> (x = .normal ∨ x = .ret) -> R (.call 231 ([] ++ [.yld l] ++ [.pptr p.c, .pptr [iV n]]) s) = .val (.tup []) s' := by
  intro x e' s' h hx
  exact n231 (args := [] ++ [.yld l] ++ [.pptr p.c, .pptr [iV n]]) rfl ⟨x, e', s', by rw [hr0, h], hx, rfl⟩
 cases he : p.esc with
 | false =>
  rw [he] at hI h232
  simp -implicitDefEqProofs [U.b231, he] at hr
  generalize hr1 : ev R (.loop U.c231_0) _ s = r1 at hr
  obtain ⟨x, e', s', hx, hxx, hF, hd⟩ := main _ s r1 r hr1 hr (by simp) (by simp [he]) (by simp) (by simp) Frm.refl (by simpa using hI)
  exact ⟨s', fin x e' s' hx hxx, hF, hd⟩
 | true =>
  rw [he, if_pos rfl] at hI
  simp only [List.map_cons, List.cons_append, List.map_append, List.nil_append] at hI
  obtain ⟨b, s1, hb, hf, ht, hfa⟩ := hround _ _ s (Nat.le_refl _) hI
  have hF1 := hf.mono (G := fun k => G k ∨ Up s.nx.toNat k) fun k hk => .inl hk
  simp only [mvV, Mv.c] at hb
  rw [he] at h232
  cases b with
  | false =>
   simp -implicitDefEqProofs [U.b231, he, h232, hb] at hr
   exact ⟨s1, fin _ _ s1 hr.symm (.inr rfl), hF1, .inr (hfa rfl)⟩
  | true =>
   simp -implicitDefEqProofs [U.b231, he, h232, hb] at hr
   generalize hr1 : ev R (.loop U.c231_0) _ s1 = r1 at hr
   obtain ⟨x, e', s', hx, hxx, hF, hd⟩ := main _ s1 r1 r hr1 hr (by simp) (by simp [he]) (by simp) (by simp) hF1 (by simpa using ht rfl)
   exact ⟨s', fin x e' s' hx hxx, hF, hd⟩
set_option maxRecDepth 10000
set_option linter.unusedSimpArgs false
@[simp] theorem cells_yld {l : Ky} : cellsOf (.yld l) = some [.yld l] := rfl
@[simp] theorem iaV_s1 {s : HS} {o : Ky} {off len sz' : Nat} {k : IntKind} {sz : Nat} : iaV (some (.sl o off len sz')) (some (.int k 1)) sz s = if 1 < len then if sz = sz' then .v (.ptr o (off + 1 * sz)) s else .bad else .bad := iaV_s (n := 1)
theorem Frm.kill {s : HS} {o : Ky} {G : Ky -> Prop} (h : G o) : Frm G s (s.kill o) :=
 ⟨Nat.le_refl _, rfl, fun p hp hG => by rw [kill_get, if_neg fun e => by subst e; exact hG h], fun p hp hG => rfl⟩
theorem g208_5 {e : En} {s : HS} {m : Mv} (h21 : look e 21 = some (mvV m)) : ev R U.r208_5 e s = .code .normal (e.upd 6 (.ptr s.nx 0)) { h := tset (some (.cells (Lst m.c) 0 4 s.nx)) s.nx s.h, nx := s.nx.succ, gr := tset (some [s.nx]) s.nx s.gr, ty := s.ty } := by
 simp -implicitDefEqProofs [h21, obStore_c, storeG_1]
section
variable {l : Ky} {G : Ky -> Prop} {I : List HV -> HS -> Prop} {Fn : HS -> Prop} {N : Nat} (hG : ∀ k, G k -> k.toNat < N) (hst : ∀ x, Stab N (I x)) (hsf : Stab N Fn)
 (hround : ∀ x rest s1, N <= s1.nx.toNat -> I (x :: rest) s1 -> ∃ b s2, R (.round l [x] s1) = .val (.bool b) s2 /\ Frm G s1 s2 /\ (b = true -> I rest s2) /\ (b = false -> Fn s2))
include hG hst hsf hround
theorem p208 {f : Nat} {pre post : List HV} {ms : List Mv} (hit : Iter LU U.prog f pre post (ms.map mvV)) (rest : List HV) (E : En) (hE3 : look E 3 = some (.pptr [.yld l])) (x : X) (hx : opd x E = some (.fn f pre post)) (hrest : ∃ ms', rest = List.map mvV ms' ) (s : HS) (hN : N <= s.nx.toNat) (hI : I (ms.map mvV ++ rest) s) :
  ∃ s', Frm (fun k => G k ∨ Up N k) s s' /\ ((evRf R x [21] U.r208_5 U.k208_3 E s = .code .normal E s' /\ I rest s') ∨ (evRf R x [21] U.r208_5 U.k208_3 E s = .code .ret E s' /\ Fn s')) := by
 have hsucc := Ky.toNat_succ s.nx
 have hfr := Frm.rf (s := s) (e := E) (ps := [21]) (asg := U.r208_5) (body := U.k208_3)
 have hn1 : (rfS s E [21] U.r208_5 U.k208_3).nx.toNat = s.nx.toNat + 1 := hsucc
 have hmono : ∀ {s1 s2 : HS}, Frm (Up (s.nx.toNat + 1)) s1 s2 -> Frm (Up N) s1 s2 := fun h => h.mono fun k hk => by show N <= k.toNat; have : s.nx.toNat + 1 <= k.toNat := hk; omega
 obtain ⟨s2, hcall, hF, hd⟩ := hit s.nx (fun k => G k ∨ k = s.nx)
  (fun rem s' => s.nx.toNat < s'.nx.toNat /\ tget s'.h s.nx = lpO 0 none E [21] U.r208_5 U.k208_3 /\ I rem s' /\ ∃ ms', rem = List.map mvV ms')
  (fun s' => s.nx.toNat < s'.nx.toNat /\ tget s'.h s.nx = lpO 1 (some .ret) E [21] U.r208_5 U.k208_3 /\ Fn s')
  (rfS s E [21] U.r208_5 U.k208_3) (fun k hk => by
   rw [hn1]
   rcases hk with hk | rfl
   ·have := hG k hk; omega
   ·omega)
  (fun x => by
   rw [hn1]
   rintro s1 s2 ⟨h1, h2, h3, h4⟩ hf
   exact ⟨by have := hf.1; omega, by rw [hf.2.2.1 s.nx h1 (by show ¬ (_ <= _); omega)]; exact h2, hst _ _ _ h3 (hmono hf), h4⟩)
  (by
   rw [hn1]
   rintro s1 s2 ⟨h1, h2, h3⟩ hf
   exact ⟨by have := hf.1; omega, by rw [hf.2.2.1 s.nx h1 (by show ¬ (_ <= _); omega)]; exact h2, hsf _ _ h3 (hmono hf)⟩)
  (fun v rem s1 hN1 ⟨h1, h2, h3, ms', h4⟩ => by
   cases ms' with
   | nil => cases h4
   | cons m ms' =>
    simp only [List.map_cons, List.cons.injEq] at h4
    obtain ⟨rfl, rfl⟩ := h4
    have hsucc1 := Ky.toNat_succ s1.nx
    have ha := g208_5 (e := .cons 21 (mvV m) E) (s := s1) (m := m) (by simp)
    have hal := Frm.alloc (s := s1) (.cells (Lst m.c) 0 4 s1.nx) [s1.nx]
    have hlne : s.nx ≠ s1.nx := fun e => by rw [e] at h1; omega
    have hl1 : tget (HS.mk (tset (some (.cells (Lst m.c) 0 4 s1.nx)) s1.nx s1.h) s1.nx.succ (tset (some [s1.nx]) s1.nx s1.gr) s1.ty).h s.nx = lpO 0 none E [21] U.r208_5 U.k208_3 := by
     rw [hal.2.2.1 s.nx h1 (fun h => h)]; exact h2
    have hso := Frm.setOb (s := HS.mk (tset (some (.cells (Lst m.c) 0 4 s1.nx)) s1.nx s1.h) s1.nx.succ (tset (some [s1.nx]) s1.nx s1.gr) s1.ty) (G := fun k => k = s.nx) (o := s.nx) (b := .loop 2 none E [21] U.r208_5 U.k208_3) rfl
    have hob : tget ((HS.mk (tset (some (.cells (Lst m.c) 0 4 s1.nx)) s1.nx s1.h) s1.nx.succ (tset (some [s1.nx]) s1.nx s1.gr) s1.ty).setOb s.nx (.loop 2 none E [21] U.r208_5 U.k208_3)).h s1.nx = some (.cells (Lst m.c) 0 4 s1.nx) := by
     rw [setOb_get, if_neg (Ne.symm hlne)]; simp
    have hlp : tget ((HS.mk (tset (some (.cells (Lst m.c) 0 4 s1.nx)) s1.nx s1.h) s1.nx.succ (tset (some [s1.nx]) s1.nx s1.gr) s1.ty).setOb s.nx (.loop 2 none E [21] U.r208_5 U.k208_3)).h s.nx = lpO 2 none E [21] U.r208_5 U.k208_3 := by
     rw [setOb_get, if_pos rfl]
    have hI2 := hst _ _ _ h3 ((hal.mono (G := Up N) fun _ h => h.elim).trans (hso.mono fun k hk => by subst hk; exact hN))
    have hfr1 : Frm (fun k => G k ∨ k = s.nx) s1 ((HS.mk (tset (some (.cells (Lst m.c) 0 4 s1.nx)) s1.nx s1.h) s1.nx.succ (tset (some [s1.nx]) s1.nx s1.gr) s1.ty).setOb s.nx (.loop 2 none E [21] U.r208_5 U.k208_3)) := (hal.mono fun _ h => h.elim).trans (hso.mono fun k hk => .inr hk)
    generalize hs2 : (HS.mk (tset (some (.cells (Lst m.c) 0 4 s1.nx)) s1.nx s1.h) s1.nx.succ (tset (some [s1.nx]) s1.nx s1.gr) s1.ty).setOb s.nx (.loop 2 none E [21] U.r208_5 U.k208_3) = s2 at *
    obtain ⟨b, s3, hb, hf3, ht, hfa⟩ := hround _ _ s2 (by have := hfr1.1; omega) hI2
    have hlp3 : tget s3.h s.nx = lpO 2 none E [21] U.r208_5 U.k208_3 := by
     rw [hf3.2.2.1 s.nx (by have := hfr1.1; omega) (fun h => by have := hG _ h; omega)]; exact hlp
    have hn3 : s.nx.toNat < s3.nx.toNat := by have := hfr1.1; have := hf3.1; omega
    have hF3 := hfr1.trans (hf3.mono (G := fun k => G k ∨ k = s.nx) fun k hk => .inl hk)
    generalize hr : ev R U.k208_3 ((En.cons 21 (mvV m) E).upd 6 (.ptr s1.nx 0)) s2 = r
    have hround2 := R_round (o := r) h2 ha hl1 (by rw [hs2]; exact hr)
    obtain ⟨mi, ma, mk, mn⟩ := m
    simp only [mvV, Mv.c] at hb hob
    have fin : ∀ (st : Nat) (pd : Option HC), Frm (fun k => G k ∨ k = s.nx) s1 (s3.setOb s.nx (.loop st pd E [21] U.r208_5 U.k208_3)) := fun st pd => hF3.trans (Frm.setOb (.inr rfl))
    have fin2 : ∀ (st : Nat) (pd : Option HC), Frm (Up N) s3 (s3.setOb s.nx (.loop st pd E [21] U.r208_5 U.k208_3)) := fun st pd => Frm.setOb hN
    simp -implicitDefEqProofs [U.k208_3, hE3, hob, obCells_c, hb] at hr
    cases b with
    | true =>
     simp at hr
     subst hr
     obtain ⟨q1, _⟩ := hround2 (fun e2 s2 h => by simp at h; obtain ⟨_, rfl⟩ := h; exact hlp3)
     exact ⟨true, _, q1 _ _ rfl, fin _ _, fun _ => ⟨hn3, by rw [setOb_get, if_pos rfl], hst _ _ _ (ht rfl) (fin2 _ _), ms', rfl⟩, by simp⟩
    | false =>
     simp at hr
     subst hr
     obtain ⟨_, q1⟩ := hround2 (fun e2 s2 h => by simp at h; obtain ⟨_, rfl⟩ := h; exact hlp3)
     exact ⟨false, _, q1 _ _ rfl, fin _ _, by simp, fun _ => ⟨hn3, by rw [setOb_get, if_pos rfl], hsf _ _ (hfa rfl) (fin2 _ _)⟩⟩)
  rest ⟨by rw [hn1]; omega, by show tget (tset _ s.nx s.h) s.nx = _; rw [tget_same], hst _ _ _ hI (hfr.mono fun _ h => h.elim), by obtain ⟨ms', h⟩ := hrest; exact ⟨ms ++ ms', by rw [h, List.map_append]⟩⟩
 have hrf := evRf_of (L := LU) (prog := U.prog) (x := x) (s := s) (e := E) (ps := [21]) (asg := U.r208_5) (body := U.k208_3) (e' := E) (ps' := [21]) (asg' := U.r208_5) (body' := U.k208_3) hx hcall
 have hK : Frm (fun k => G k ∨ Up N k) s (s2.kill s.nx) := by
  refine ((hfr.mono fun _ h => h.elim).trans (hF.mono fun k hk => ?_)).trans (Frm.kill (.inr hN))
  rcases hk with (hk | rfl) | hk
  ·exact .inl hk
  ·exact .inr hN
  ·rw [hn1] at hk
   exact .inr (by show N <= k.toNat; have : s.nx.toNat + 1 <= k.toNat := hk; omega)
 rcases hd with ⟨_, h2, h3, _⟩ | ⟨_, h2, h3⟩
 ·exact ⟨_, hK, .inl ⟨hrf.1 h2, hst _ _ _ h3 (Frm.kill hN)⟩⟩
 ·exact ⟨_, hK, .inr ⟨hrf.2 h2, hsf _ _ h3 (Frm.kill hN)⟩⟩
end
def movesL (p : Sp) : List Mv := questionsL p.b p.id p.arg ++ toldL p.b p.esc p.id p.arg
theorem Stab.up {N N' : Nat} {p : HS -> Prop} (h : Stab N p) (hN : N <= N') : Stab N' p := fun s1 s2 h1 hf => h s1 s2 h1 (hf.mono fun k hk => Nat.le_trans hN hk)
theorem w208 (p : Sp) (hp : baseB p.b = true) : Iter LU U.prog 208 [spV p] [] ((movesL p).map mvV) := by
 intro l G I Fn s hG hst hsf hround rest hI
 have hp' := hp
 simp only [baseB, decide_eq_true_eq] at hp'
 have h223 := w223 p p.b.n
 have hst' : ∀ x, Stab s.nx.toNat (fun s' => I (x ++ rest) s') := fun x => hst _
 have hround' : ∀ x r s1, s.nx.toNat <= s1.nx.toNat -> I ((x :: r) ++ rest) s1 -> ∃ b s2, R (.round l [x] s1) = .val (.bool b) s2 /\ Frm G s1 s2 /\ (b = true -> I (r ++ rest) s2) /\ (b = false -> Fn s2) := fun x r s1 h1 h2 => hround x _ s1 h1 h2
 generalize hr : ev R U.b208 (args0 ([spV p] ++ [.yld l] ++ []) 0) s = r
 have hr0 := hr
 simp only [spV, Sp.c, iV] at h223
 simp -implicitDefEqProofs [U.b208, U.k208_0, h223] at hr
 generalize hr1 : ev R (.loop U.c208_0) _ _ = r1 at hr
 generalize hS : HS.mk _ _ _ _ = S at hr1
 have hob : tget S.h s.nx = some (.cells (Lst [.fn 222 [spV p] [], .fn 231 [] [.pptr p.c, .pptr [iV p.b.n]]]) 0 2 s.nx) := by subst hS; simp; rfl
 have hfrS : Frm (fun _ => False) s S := by subst hS; exact Frm.alloc _ _
 have hSn : s.nx.toNat < S.nx.toNat := by have := Ky.toNat_succ s.nx; subst hS; simp only; omega
 have hq := loopN_use hr1 2
  (fun i e s' => look e 3 = some (.pptr [.yld l]) /\ look e 14 = some (.sl s.nx 0 2 1) /\ look e 15 = some (iV 2) /\ look e 16 = some (iV i) /\ Frm (fun k => G k ∨ Up s.nx.toNat k) s s' /\ s.nx.toNat < s'.nx.toNat /\
   tget s'.h s.nx = some (.cells (Lst [.fn 222 [spV p] [], .fn 231 [] [.pptr p.c, .pptr [iV p.b.n]]]) 0 2 s.nx) /\
   I ((if i = 0 then (movesL p).map mvV else if i = 1 then (toldL p.b p.esc p.id p.arg).map mvV else []) ++ rest) s')
  (fun o => ∃ e' s', Frm (fun k => G k ∨ Up s.nx.toNat k) s s' /\ ((o = .code .ret e' s' /\ Fn s') ∨ (o = .code (.exit 0) e' s' /\ I rest s')))
  0 (by omega) ⟨by simp, by simp, by simp, by simp, hfrS.mono fun _ h => h.elim, hSn, hob, by simpa using hst _ _ _ hI (hfrS.mono fun _ h => h.elim)⟩
  (fun i e s' r hi ⟨h3, h14, h15, h16, hF, hn, hob, hI⟩ hr => by
   have hGn : ∀ k, G k -> k.toNat < s'.nx.toNat := fun k hk => by have := hG k hk; omega
   have key : ∀ (f : Nat) (pre post : List HV) (ms ms' : List Mv), Iter LU U.prog f pre post (ms.map mvV) -> ∀ (E : En) (r2 : Out), evRf R (.t 20) [21] U.r208_5 U.k208_3 E s' = r2 -> look E 3 = some (.pptr [.yld l]) -> look E 20 = some (.fn f pre post) -> I ((ms.map mvV ++ ms'.map mvV) ++ rest) s' ->
     ∃ s2, Frm (fun k => G k ∨ Up s.nx.toNat k) s s2 /\ s.nx.toNat < s2.nx.toNat /\ tget s2.h s.nx = some (.cells (Lst [.fn 222 [spV p] [], .fn 231 [] [.pptr p.c, .pptr [iV p.b.n]]]) 0 2 s.nx) /\
      ((r2 = .code .normal E s2 /\ I (ms'.map mvV ++ rest) s2) ∨ (r2 = .code .ret E s2 /\ Fn s2)) := by
    intro f pre post ms ms' hit E r2 hr2 hE3 hE20 hI
    subst hr2
    obtain ⟨s2, hF2, hd⟩ := p208 (N := s'.nx.toNat) (I := fun x s' => I (x ++ rest) s') hGn (fun x => (hst' x).up (by omega)) (hsf.up (by omega)) (fun x r s1 h1 h2 => hround' x r s1 (by omega) h2) hit (ms'.map mvV) E hE3 (.t 20) (by rw [opd_t]; exact hE20) ⟨ms', rfl⟩ s' (Nat.le_refl _) hI
    refine ⟨s2, hF.trans (hF2.mono fun k hk => hk.imp id fun h => by have h : s'.nx.toNat <= k.toNat := h; show s.nx.toNat <= k.toNat; omega), by have := hF2.1; omega, ?_, hd⟩
    rw [hF2.2.2.1 s.nx hn (by rintro (h | h); have := hG _ h; omega; have h : s'.nx.toNat <= s.nx.toNat := h; omega)]
    exact hob
   match i, hi with
   | 0, _ =>
    simp only [if_true] at hI
    have hI' : I (((questionsL p.b p.id p.arg).map mvV ++ (toldL p.b p.esc p.id p.arg).map mvV) ++ rest) s' := by rw [<- List.map_append]; exact hI
    simp at h16
    simp -implicitDefEqProofs [-U.r208_5, U.c208_0, U.k208_1, U.k208_2, h14, h15, h16, hob, obCell_c] at hr
    generalize hev : evRf R (.t 20) [21] U.r208_5 U.k208_3 _ s' = r2 at hr
    obtain ⟨s2, hF2, hn2, hob2, hd⟩ := key 222 [spV p] [] _ _ (w222 p hp) _ _ hev (by simp [h3]) (by simp) hI'
    clear hev
    have hw1 : wrapF .i64 1 = 1 := wrapF_id (by omega) (by omega)
    rcases hd with ⟨rfl, h⟩ | ⟨rfl, h⟩
    ·simp -implicitDefEqProofs [h16, hw1] at hr
     subst hr
     exact .inl ⟨_, _, rfl, by simp [h3], by simp [h14], by simp [h15], by simp, hF2, hn2, hob2, by simpa using h⟩
    ·simp at hr
     subst hr
     exact .inr ⟨by simp, _, _, hF2, .inl ⟨rfl, h⟩⟩
   | 1, _ =>
    simp only [Nat.one_ne_zero, if_false, if_true] at hI
    have hI' : I (((toldL p.b p.esc p.id p.arg).map mvV ++ ([] : List Mv).map mvV) ++ rest) s' := by simpa using hI
    simp at h16
    simp -implicitDefEqProofs [-U.r208_5, U.c208_0, U.k208_1, U.k208_2, h14, h15, h16, hob, obCell_c] at hr
    generalize hev : evRf R (.t 20) [21] U.r208_5 U.k208_3 _ s' = r2 at hr
    obtain ⟨s2, hF2, hn2, hob2, hd⟩ := key 231 [] [.pptr p.c, .pptr [iV p.b.n]] _ _ (w231 p hp p.b.n (by omega) (by omega)) _ _ hev (by simp [h3]) (by simp) hI'
    clear hev
    have hw1 : wrapF .i64 2 = 2 := wrapF_id (by omega) (by omega)
    rcases hd with ⟨rfl, h⟩ | ⟨rfl, h⟩
    ·simp -implicitDefEqProofs [h16, hw1] at hr
     subst hr
     exact .inl ⟨_, _, rfl, by simp [h3], by simp [h14], by simp [h15], by simp, hF2, hn2, hob2, by simpa using h⟩
    ·simp at hr
     subst hr
     exact .inr ⟨by simp, _, _, hF2, .inl ⟨rfl, h⟩⟩
   | i + 2, h => exact absurd h (by omega))
  (fun e s' r ⟨h3, h14, h15, h16, hF, hn, hob, hI⟩ hr => by
   simp at h16
   simp -implicitDefEqProofs [U.c208_0, h15, h16] at hr
   subst hr
   exact ⟨by simp, _, _, hF, .inr ⟨rfl, by simpa using hI⟩⟩)
 clear hr1
 obtain ⟨e', s', hF, ⟨rfl, h⟩ | ⟨rfl, h⟩⟩ := hq
 ·simp at hr
  subst hr
  exact ⟨s', n208 rfl ⟨.ret, _, s', hr0, .inr rfl, rfl⟩, hF, .inr h⟩
 ·simp at hr
  subst hr
  exact ⟨s', n208 rfl ⟨.normal, _, s', hr0, .inl rfl, rfl⟩, hF, .inl h⟩
set_option maxRecDepth 10000
set_option linter.unusedSimpArgs false
theorem psSp_base (i : Nat) : ∀ (ps : List Bs) (j : Nat), (∀ b ∈ ps, baseB b = true) -> ∀ p ∈ psSp i j ps, baseB p.b = true
 | [], _, _, p, hp => by cases hp
 | b :: r, j, h, p, hp => by
  rcases List.mem_cons.1 hp with rfl | hp
  ·exact h b List.mem_cons_self
  ·exact psSp_base i r (j + 1) (fun x hx => h x (List.mem_cons_of_mem _ hx)) p hp
theorem idSp_base (jumps : Bool) : ∀ (ids : List Ty) (i : Nat), (∀ t ∈ ids, isTyB t = true) -> ∀ p ∈ idSp jumps i ids, baseB p.b = true
 | [], _, _, p, hp => by cases hp
 | t :: r, i, h, p, hp => by
  have ht := h t List.mem_cons_self
  simp only [isTyB, Bool.and_eq_true, List.all_eq_true] at ht
  rcases List.mem_cons.1 hp with rfl | hp
  ·exact ht.1.1
  ·rcases List.mem_append.1 hp with hp | hp
   ·exact psSp_base i t.ps 0 ht.1.2 p hp
   ·exact idSp_base jumps r (i + 1) (fun x hx => h x (List.mem_cons_of_mem _ hx)) p hp
theorem spots_base {a : Ar} (h : arCheck a = 0) : ∀ p ∈ spots a, baseB p.b = true := by
 obtain ⟨h1, h2⟩ := arCheck_base h
 intro p hp
 rcases List.mem_cons.1 hp with rfl | hp
 ·exact h1
 ·exact idSp_base _ _ _ h2 p hp
theorem findSp_mem {a : Ar} {id arg : Int} {p : Sp} (h : findSp a id arg = some p) : p ∈ spots a := List.mem_of_find?_eq_some h
def hasV (a : Ar) (m : Mv) : List HV := match findSp a m.id m.arg with
 | none => [.agg zSp, .bool false]
 | some p => [.agg p.c, .bool (decide (m ∈ movesL p))]
theorem g170_a {e : En} {s : HS} {m : Mv} (h23 : look e 23 = some (mvV m)) : ev R U.r170_5 e s = .code .normal (e.upd 8 (.ptr s.nx 0)) { h := tset (some (.cells (Lst m.c) 0 4 s.nx)) s.nx s.h, nx := s.nx.succ, gr := tset (some [s.nx]) s.nx s.gr, ty := s.ty } := by
 simp -implicitDefEqProofs [h23, obStore_c, storeG_1]
theorem r170 (m : Mv) (q : Sp) (E : En) (hE3 : look E 3 = some (.pptr m.c)) (hE4 : look E 4 = some (.ptr .e 0)) (hE5 : look E 5 = some (.ptr (.z .e) 0)) (hE6 : look E 6 = some (.ptr (.o .e) 0)) (l : Ky) (hl : l = .z (.z .e)) (x : Mv) (s : HS)
  (h1 : tget s.h l = lpO 0 none E [23] U.r170_5 U.k170_1) (h2 : 3 < s.nx.toNat) (h3 : Cel s .e zSp) (h4 : Cel s (.z .e) [.bool false]) (h6 : Cel s (.o .e) q.c) :
  ∃ b s', R (.round l [mvV x] s) = .val (.bool b) s' /\ Frm (fun k => k.toNat < 4) s s' /\ b = !decide (x = m) /\
   (b = true -> tget s'.h l = lpO 0 none E [23] U.r170_5 U.k170_1 /\ Cel s' .e zSp /\ Cel s' (.z .e) [.bool false] /\ Cel s' (.o .e) q.c) /\ (b = false -> tget s'.h l = lpO 1 (some .ret) E [23] U.r170_5 U.k170_1 /\ Cel s' .e q.c /\ Cel s' (.z .e) [.bool true]) := by
 have hsucc := Ky.toNat_succ s.nx
 have hlN : l.toNat = 3 := by subst hl; rfl
 have n0 : Ky.e ≠ l := by rw [hl]; intro h; cases h
 have n1 : Ky.z .e ≠ l := by rw [hl]; intro h; cases h
 have n2 : Ky.o .e ≠ l := by rw [hl]; intro h; cases h
 have ha := g170_a (e := .cons 23 (mvV x) E) (s := s) (m := x) (by simp)
 have hal := Frm.alloc (s := s) (.cells (Lst x.c) 0 4 s.nx) [s.nx]
 have hlne : l ≠ s.nx := fun e => by rw [e] at hlN; omega
 have hl1 : tget (HS.mk (tset (some (.cells (Lst x.c) 0 4 s.nx)) s.nx s.h) s.nx.succ (tset (some [s.nx]) s.nx s.gr) s.ty).h l = lpO 0 none E [23] U.r170_5 U.k170_1 := by
  rw [hal.2.2.1 l (by omega) (fun h => h)]; exact h1
 have hso := Frm.setOb (s := HS.mk (tset (some (.cells (Lst x.c) 0 4 s.nx)) s.nx s.h) s.nx.succ (tset (some [s.nx]) s.nx s.gr) s.ty) (G := fun k => k = l) (o := l) (b := .loop 2 none E [23] U.r170_5 U.k170_1) rfl
 have hc1 := (h3.frame hal (fun h => h)).frame hso n0
 have hc2 := (h4.frame hal (fun h => h)).frame hso n1
 have hc3 := (h6.frame hal (fun h => h)).frame hso n2
 have hfr1 : Frm (fun k => k.toNat < 4) s ((HS.mk (tset (some (.cells (Lst x.c) 0 4 s.nx)) s.nx s.h) s.nx.succ (tset (some [s.nx]) s.nx s.gr) s.ty).setOb l (.loop 2 none E [23] U.r170_5 U.k170_1)) :=
  (hal.mono fun _ h => h.elim).trans (Frm.setOb (by show l.toNat < 4; omega))
 have hob : tget ((HS.mk (tset (some (.cells (Lst x.c) 0 4 s.nx)) s.nx s.h) s.nx.succ (tset (some [s.nx]) s.nx s.gr) s.ty).setOb l (.loop 2 none E [23] U.r170_5 U.k170_1)).h s.nx = some (.cells (Lst x.c) 0 4 s.nx) := by
  rw [setOb_get, if_neg (Ne.symm hlne)]; simp
 have hlp : tget ((HS.mk (tset (some (.cells (Lst x.c) 0 4 s.nx)) s.nx s.h) s.nx.succ (tset (some [s.nx]) s.nx s.gr) s.ty).setOb l (.loop 2 none E [23] U.r170_5 U.k170_1)).h l = lpO 2 none E [23] U.r170_5 U.k170_1 := by
  rw [setOb_get, if_pos rfl]
 generalize hs2 : (HS.mk (tset (some (.cells (Lst x.c) 0 4 s.nx)) s.nx s.h) s.nx.succ (tset (some [s.nx]) s.nx s.gr) s.ty).setOb l (.loop 2 none E [23] U.r170_5 U.k170_1) = s2 at *
 have lq : obCells (tget s2.h (.o .e)) 0 5 = some q.c := hc3.load
 obtain ⟨s3, st1, hd1, hfr2, hn2⟩ := hc1.put (new := q.c) (v := spV q) rfl rfl
 have hd2 := hc2.frame hfr2 (fun e => by cases e)
 obtain ⟨s4, st2, hd3, hfr3, hn3⟩ := hd2.set 0 (by simp) (.bool true) rfl
 have hlp4 : tget s4.h l = lpO 2 none E [23] U.r170_5 U.k170_1 := by
  have hlb : l.toNat < s2.nx.toNat := by have := hfr1.1; omega
  rw [hfr3.2.2.1 l (by have := congrArg Ky.toNat hn2; omega) (fun e => n1 e.symm), hfr2.2.2.1 l hlb (fun e => n0 e.symm)]
  exact hlp
 have hk := eqK_mv x m
 simp only [Sp.c, Mv.c] at hob st1 lq hk hE3
 have st1 : stV 5 (some (.ptr .e 0)) (some (.agg [.int .i64 q.id, .int .i64 q.arg, .bool q.b.cell, .int .i64 q.b.n, .bool q.esc])) s2 = .v .undef s3 := st1
 generalize hr : ev R U.k170_1 ((En.cons 23 (mvV x) E).upd 8 (.ptr s.nx 0)) s2 = r
 have hround := R_round (o := r) h1 ha hl1 (by rw [hs2]; exact hr)
 have fin : ∀ (s5 : HS) (x : Nat) (pd : Option HC), Frm (fun k => k.toNat < 4) s s5 -> Frm (fun k => k.toNat < 4) s (s5.setOb l (.loop x pd E [23] U.r170_5 U.k170_1)) := fun s5 x pd h => h.trans (Frm.setOb (by show l.toNat < 4; omega))
 have cl : ∀ (s5 : HS) (o : Ky) (c : List HV) (x : Nat) (pd : Option HC), o ≠ l -> Cel s5 o c -> Cel (s5.setOb l (.loop x pd E [23] U.r170_5 U.k170_1)) o c := fun s5 o c x pd hne h => h.frame (Frm.setOb (G := fun k => k = l) rfl) hne
 by_cases hm : x = m
 ·rw [decide_eq_true hm] at hk
  simp -implicitDefEqProofs [U.k170_1, hE3, hE4, hE5, hE6, hob, obCells_c, lq, hk, st1, st2] at hr
  subst hr
  obtain ⟨_, h2⟩ := hround (fun e2 s2 h => by simp at h; obtain ⟨_, rfl⟩ := h; exact hlp4)
  refine ⟨false, _, h2 _ _ rfl, fin _ _ _ ((hfr1.trans (hfr2.mono fun k hk => by subst hk; simp [Ky.toNat])).trans (hfr3.mono fun k hk => by subst hk; simp [Ky.toNat])), by simp [hm], by simp, fun _ => ⟨by rw [setOb_get, if_pos rfl], cl _ _ _ _ _ n0 (hd1.frame hfr3 (fun e => by cases e)), cl _ _ _ _ _ n1 hd3⟩⟩
 ·rw [decide_eq_false hm] at hk
  simp -implicitDefEqProofs [U.k170_1, hE3, hE4, hE5, hE6, hob, obCells_c, hk] at hr
  subst hr
  obtain ⟨h1, _⟩ := hround (fun e2 s2 h => by simp at h; obtain ⟨_, rfl⟩ := h; exact hlp)
  exact ⟨true, _, h1 _ _ rfl, fin _ _ _ hfr1, by simp [hm], fun _ => ⟨by rw [setOb_get, if_pos rfl], cl _ _ _ _ _ n0 hc1, cl _ _ _ _ _ n1 hc2, cl _ _ _ _ _ n2 hc3⟩, by simp⟩
theorem w170 (a : Ar) (ok : ArOk a) (hc : arCheck a = 0) (m : Mv) (s : HS) : R (.call 170 [.agg a.c, .agg m.c] s) = .val (.tup (hasV a m)) s := by
 refine q170 rfl (by simp) ?_
 have h118 := w118 a ok m.id m.arg
 simp only [Ar.c, iV] at h118
 unfold hasV
 cases hq : findSp a m.id m.arg with
 | none =>
  rw [hq] at h118
  simp only [findV, zSp] at h118
  simp -implicitDefEqProofs [-U.r170_5, U.b170, h118, s0, obStore_c, storeG_1, obCells_c]
  exact dataV_of (.tup (.data (by simp [zSp])))
 | some q =>
 have hqb := spots_base hc q (findSp_mem hq)
 rw [hq] at h118
 simp only [findV, Sp.c] at h118
 simp -implicitDefEqProofs [-U.r170_5, U.b170, U.k170_0, h118, s0, obStore_c, storeG_1, obCells_c]
 generalize ho : evRf R _ _ _ _ _ _ = o
 generalize hE : (En.cons 0 _ _ : En) = E at ho
 generalize hS : HS.mk _ _ _ _ = S at ho
 have hE3 : look E 3 = some (.pptr m.c) := by subst hE; simp
 have hE4 : look E 4 = some (.ptr .e 0) := by subst hE; simp
 have hE5 : look E 5 = some (.ptr (.z .e) 0) := by subst hE; simp
 have hE6 : look E 6 = some (.ptr (.o .e) 0) := by subst hE; simp
 have hE22 : look E 22 = some (.fn 208 [spV q] []) := by subst hE; simp
 have hnx : S.nx = .z (.z .e) := by subst hS; rfl
 have hc1 : Cel S .e zSp := by subst hS; exact ⟨rfl, rfl, by simp [Ky.toNat]⟩
 have hc2 : Cel S (.z .e) [.bool false] := by subst hS; exact ⟨rfl, rfl, by simp [Ky.toNat]⟩
 have hc3 : Cel S (.o .e) q.c := by subst hS; exact ⟨rfl, rfl, by simp [Ky.toNat]⟩
 have hn1 : (rfS S E [23] U.r170_5 U.k170_1).nx.toNat = 4 := by show S.nx.succ.toNat = 4; rw [hnx]; rfl
 have hfr := Frm.rf (s := S) (e := E) (ps := [23]) (asg := U.r170_5) (body := U.k170_1)
 obtain ⟨s2, hcall, hF, hd⟩ := w208 q hqb (.z (.z .e)) (fun k => k.toNat < 4)
  (fun rem s' => 3 < s'.nx.toNat /\ tget s'.h (.z (.z .e)) = lpO 0 none E [23] U.r170_5 U.k170_1 /\ Cel s' .e zSp /\ Cel s' (.z .e) [.bool false] /\ Cel s' (.o .e) q.c /\ ∃ d ms, rem = ms.map mvV /\ movesL q = d ++ ms /\ m ∉ d)
  (fun s' => 3 < s'.nx.toNat /\ tget s'.h (.z (.z .e)) = lpO 1 (some .ret) E [23] U.r170_5 U.k170_1 /\ m ∈ movesL q /\ Cel s' .e q.c /\ Cel s' (.z .e) [.bool true])
  (rfS S E [23] U.r170_5 U.k170_1) (fun k hk => by rw [hn1]; exact hk)
  (fun x => by
   rw [hn1]
   rintro s1 s2 ⟨h1, h2, h3, h4, h5, h6⟩ hf
   exact ⟨by have := hf.1; omega, by rw [hf.2.2.1 (.z (.z .e)) h1 (by simp [Up, Ky.toNat])]; exact h2, h3.frame hf (by simp [Up, Ky.toNat]), h4.frame hf (by simp [Up, Ky.toNat]), h5.frame hf (by simp [Up, Ky.toNat]), h6⟩)
  (by
   rw [hn1]
   rintro s1 s2 ⟨h1, h2, h3, h4, h5⟩ hf
   exact ⟨by have := hf.1; omega, by rw [hf.2.2.1 (.z (.z .e)) h1 (by simp [Up, Ky.toNat])]; exact h2, h3, h4.frame hf (by simp [Up, Ky.toNat]), h5.frame hf (by simp [Up, Ky.toNat])⟩)
  (fun x rest s1 hN ⟨h1, h2, h3, h4, h4', d, ms, h5, h6, h7⟩ => by
   cases ms with
   | nil => cases h5
   | cons y ms =>
    simp only [List.map_cons, List.cons.injEq] at h5
    obtain ⟨rfl, rfl⟩ := h5
    obtain ⟨b, s2, r1, r2, r3, r4, r5⟩ := r170 m q E hE3 hE4 hE5 hE6 (.z (.z .e)) rfl y s1 h2 h1 h3 h4 h4'
    refine ⟨b, s2, r1, r2, fun hb => ?_, fun hb => ?_⟩
    ·obtain ⟨q1, q2, q3, q4⟩ := r4 hb
     refine ⟨by have := r2.1; omega, q1, q2, q3, q4, d ++ [y], ms, rfl, by rw [h6]; simp, fun hy => ?_⟩
     rcases List.mem_append.1 hy with hy | hy
     ·exact h7 hy
     ·simp at hy; subst hy; rw [hb] at r3; simp at r3
    ·obtain ⟨q1, q2, q3⟩ := r5 hb
     refine ⟨by have := r2.1; omega, q1, ?_, q2, q3⟩
     rw [hb] at r3
     have : y = m := by simpa using r3
     rw [h6, <- this]; simp)
  [] ⟨by rw [hn1]; omega, by show tget (tset _ S.nx S.h) (.z (.z .e)) = _; rw [hnx, tget_same], hc1.frame hfr (fun h => h), hc2.frame hfr (fun h => h), hc3.frame hfr (fun h => h), [], movesL q, by simp, rfl, by simp⟩
 have hrf := evRf_of (L := LU) (prog := U.prog) (x := .t 22) (s := S) (e := E) (ps := [23]) (asg := U.r170_5) (body := U.k170_1) (e' := E) (ps' := [23]) (asg' := U.r170_5) (body' := U.k170_1) (by rw [opd_t]; exact hE22) (by rw [hnx]; exact hcall)
 rcases hd with ⟨h1, h2, h3, h4, h4', d, ms, h5, h6, h7⟩ | ⟨h1, h2, h3, h4, h5⟩
 ·have hr := hrf.1 (by rw [hnx]; exact h2)
  rw [hr] at ho
  subst ho
  have hno : m ∉ movesL q := by
   have : ms = [] := by cases ms with
    | nil => rfl
    | cons x y => cases h5
   subst this
   rw [h6]; simpa using h7
  have k1 := h3.kill (k := S.nx) (by rw [hnx]; intro h; cases h)
  have k2 := h4.kill (k := S.nx) (by rw [hnx]; intro h; cases h)
  have k3 := h4'.kill (k := S.nx) (by rw [hnx]; intro h; cases h)
  generalize s2.kill S.nx = K at *
  have lq : obCells (tget K.h (.o .e)) 0 5 = some q.c := k3.load
  obtain ⟨K1, st1, kd1, kf1, _⟩ := k1.put (new := q.c) (v := spV q) rfl rfl
  have kd2 := k2.frame kf1 (fun e => by cases e)
  obtain ⟨K2, st2, kd3, kf2, _⟩ := kd2.set 0 (by simp) (.bool false) rfl
  have kd4 := kd1.frame kf2 (fun e => by cases e)
  have st1 : stV 5 (some (.ptr .e 0)) (some (.agg [.int .i64 q.id, .int .i64 q.arg, .bool q.b.cell, .int .i64 q.b.n, .bool q.esc])) K = .v .undef K1 := st1
  have l1 : obCells (tget K2.h .e) 0 5 = some q.c := kd4.load
  have l2 : obCell (tget K2.h (.z .e)) 0 = some (.bool false) := kd3.get 0 (by simp)
  simp only [Sp.c] at lq l1
  simp -implicitDefEqProofs [hE4, hE5, hE6, lq, st1, st2, l1, l2, hno]
  exact dataV_of (.tup (.data (by simp)))
 ·have hr := hrf.2 (by rw [hnx]; exact h2)
  rw [hr] at ho
  subst ho
  have k1 := h4.kill (k := S.nx) (by rw [hnx]; intro h; cases h)
  have k2 := h5.kill (k := S.nx) (by rw [hnx]; intro h; cases h)
  generalize s2.kill S.nx = K at *
  have l1 : obCells (tget K.h .e) 0 5 = some q.c := k1.load
  have l2 : obCell (tget K.h (.z .e)) 0 = some (.bool true) := k2.get 0 (by simp)
  simp only [Sp.c] at l1
  simp -implicitDefEqProofs [hE4, hE5, l1, l2, h3]
  exact dataV_of (.tup (.data (by simp)))
def hasP (a : Ar) (m : Mv) : Bool := match findSp a m.id m.arg with
 | none => false
 | some p => m ∈ movesL p
theorem w151 (a : Ar) (ok : ArOk a) (m : Mv) (s : HS) : R (.call 151 [.agg a.c, .agg m.c] s) = .val (.tup [.bool (decide (arCheck a = 0) && hasP a m), iV (arCheck a)]) s := by
 refine q151 rfl (by simp) ?_
 have h117 := w117 a ok
 simp only [Ar.c, iV] at h117
 by_cases hc : arCheck a = 0
 ·have h170 := w170 a ok hc m
  unfold hasP
  cases hq : findSp a m.id m.arg with
  | none =>
   simp only [hasV, hq, zSp, Ar.c, Mv.c] at h170
   simp -implicitDefEqProofs [U.b151, h117, hc, h170, s0, obStore_c, storeG_1, obCells_c]
   exact dataV_of (.tup (.data (by simp)))
  | some q =>
   simp only [hasV, hq, Ar.c, Mv.c, Sp.c] at h170
   simp -implicitDefEqProofs [U.b151, h117, hc, h170, s0, obStore_c, storeG_1, obCells_c]
   exact dataV_of (.tup (.data (by simp)))
 ·simp -implicitDefEqProofs [U.b151, h117, hc, s0, obStore_c, storeG_1, obCells_c]
  exact dataV_of (.tup (.data (by simp)))
set_option maxRecDepth 10000
set_option linter.unusedSimpArgs false
def tellB (m : Mv) : Bool := decide (m.kind = 3)
def idB (m : Mv) : Bool := decide (0 < m.id) && decide (m.arg = 0)
def paB (m : Mv) : Bool := decide (0 < m.id) && decide (0 < m.arg)
def atB (m : Mv) (i a : Int) : Bool := decide (m.id = i) && decide (m.arg = a)
theorem w174 (m : Mv) (i a : Int) (s : HS) : R (.call 174 [.agg m.c, iV i, iV a] s) = .val (.bool (atB m i a)) s := by
 refine q174 rfl (by simp) ?_
 by_cases h : m.id = i <;> simp -implicitDefEqProofs [U.b174, h, dataV_data, atB]
theorem w172 (m : Mv) (s : HS) : R (.call 172 [.agg m.c] s) = .val (.bool (atB m 0 0)) s := by
 refine q172 rfl (by simp) ?_
 have h := w174 m 0 0
 simp only [Mv.c, iV] at h
 simp -implicitDefEqProofs [U.b172, h, dataV_data]
theorem w173 (m : Mv) (s : HS) : R (.call 173 [.agg m.c] s) = .val (.bool (tellB m)) s := by
 refine q173 rfl (by simp) ?_
 simp -implicitDefEqProofs [U.b173, dataV_data, tellB]
theorem w177 (m : Mv) (s : HS) : R (.call 177 [.agg m.c] s) = .val (.bool (idB m)) s := by
 refine q177 rfl (by simp) ?_
 by_cases h : 0 < m.id <;> simp -implicitDefEqProofs [U.b177, h, dataV_data, idB]
theorem w178 (m : Mv) (s : HS) : R (.call 178 [.agg m.c] s) = .val (.bool (paB m)) s := by
 refine q178 rfl (by simp) ?_
 by_cases h : 0 < m.id <;> simp -implicitDefEqProofs [U.b178, h, dataV_data, paB]
theorem w179 (m : Mv) (s : HS) : R (.call 179 [.agg m.c] s) = .val (.bool (escB m)) s := by
 refine q179 rfl (by simp) ?_
 have h := w173 m
 simp only [Mv.c, tellB] at h
 by_cases hk : m.kind = 3
 ·rw [hk] at h
  simp -implicitDefEqProofs [U.b179, h, hk, dataV_data, escB]
 ·simp -implicitDefEqProofs [U.b179, h, hk, dataV_data, escB]
structure Tk where
 x : Wk
 fo : List Bool
 force : Bool
@[simp] def Tk.c (t : Tk) : List HV := [.psl (t.x.a.ids.map Ty.c), .bool t.x.a.root.cell, .int .i64 t.x.a.root.n, .bool t.x.a.jumps, .psl (t.x.w.map Mv.c), .psl (t.x.pt.map iC), .psl (t.x.js.map iC), .psl (t.fo.map bC), .psl (t.x.op.map nC), .bool t.force, .bool t.x.lost, .int .i64 t.x.most]
def TkOk (t : Tk) : Prop := WkOk t.x /\ t.fo.length = t.x.w.length
def topN (x : Wk) : List HV := match x.op.getLast? with
 | none => [iV (-1), .bool false]
 | some n => [iV n, .bool true]
theorem w171n (x : Wk) (hx : WkOk x) (s : HS) : R (.call 171 [.agg [.psl (x.op.map nC)]] s) = .val (.tup (topN x)) s := by
 have h := w171 (x.op.map (fun n : Nat => (n : Int))) (by have := hx.opl; have := hx.len; simp; omega) s
 rw [List.map_map] at h
 have e : ((fun n => iC n) ∘ fun n : Nat => (n : Int)) = nC := rfl
 rw [show (iC ∘ fun n : Nat => (n : Int)) = nC from rfl] at h
 rw [h]
 unfold topV topN
 rw [List.getLast?_map]
 cases x.op.getLast? <;> rfl
def overB (x : Wk) : Bool := decide (0 < x.w.length) && decide (x.op.length = 0)
theorem w209 (t : Tk) (s : HS) : R (.call 209 [.pptr t.c] s) = .val (.bool (overB t.x)) s := by
 refine q209 rfl (by simp) ?_
 by_cases h : 0 < t.x.w.length
 ·have h' : (0 : Int) < t.x.w.length := by omega
  by_cases h2 : t.x.op.length = 0
  ·have h2' : (t.x.op.length : Int) = 0 := by omega
   simp -implicitDefEqProofs [U.b209, h', h2', dataV_data, overB, h, h2]
  ·have h2' : ¬ (t.x.op.length : Int) = 0 := by omega
   simp -implicitDefEqProofs [U.b209, h', h2', dataV_data, overB, h, h2]
 ·have h' : ¬ (0 : Int) < t.x.w.length := by omega
  simp -implicitDefEqProofs [U.b209, h', dataV_data, overB, h]
def turnT (x : Wk) : Int := if overB x then 3 else match topM x with
 | none => 1
 | some q => if idB q then 1 else 2
theorem topM_n {x : Wk} (hx : WkOk x) : (topM x = none /\ x.op = [] /\ topN x = [iV (-1), .bool false]) ∨ ∃ (r : List Nat) (n : Nat) (q : Mv), x.op = r ++ [n] /\ (∃ h : n < x.w.length, x.w[n] = q) /\ topM x = some q /\ topN x = [iV n, .bool true] /\ n < x.w.length := by
 rcases List.eq_nil_or_concat x.op with hw | ⟨r, n, hw⟩
 ·exact .inl ⟨by unfold topM; rw [hw]; rfl, hw, by unfold topN; rw [hw]; rfl⟩
 ·have hn := hx.op n (by rw [hw]; simp)
  have hm := List.getElem?_eq_getElem hn
  refine .inr ⟨r, n, _, by simpa using hw, ⟨hn, rfl⟩, ?_, ?_, hn⟩
  ·unfold topM; rw [hw]; simpa using hm
  ·unfold topN; rw [hw]; simp
theorem w176 (t : Tk) (ht : TkOk t) (s : HS) : R (.call 176 [.pptr t.c] s) = .val (.int .u8 (turnT t.x)) s := by
 refine q176 rfl (by simp) ?_
 have h209 := w209 t
 have h171 := w171n t.x ht.1
 simp only [Tk.c] at h209
 unfold turnT
 cases ho : overB t.x
 ·rw [ho] at h209
  rcases topM_n ht.1 with ⟨h1, h2, h3⟩ | ⟨r, n, q, h1, ⟨h5', h2⟩, h3, h4, h5⟩
  ·rw [h3] at h171
   simp only [iV] at h171
   simp -implicitDefEqProofs [U.b176, h209, h171, dataV_data, h1]
  ·rw [h4] at h171
   have h177 := w177 q
   simp only [iV, Mv.c] at h171 h177
   cases hq : idB q <;> rw [hq] at h177 <;> simp -implicitDefEqProofs [U.b176, h209, h171, h177, dataV_data, h2, h3, h5, hq]
 ·rw [ho] at h209
  rcases topM_n ht.1 with ⟨h1, h2, h3⟩ | ⟨r, n, q, h1, ⟨h5', h2⟩, h3, h4, h5⟩
  ·rw [h3] at h171
   simp only [iV] at h171
   simp -implicitDefEqProofs [U.b176, h209, h171, dataV_data]
  ·rw [h4] at h171
   simp only [iV] at h171
   simp -implicitDefEqProofs [U.b176, h209, h171, dataV_data]
def ansT (t : Tk) (q m : Mv) : Bool := if t.force || t.x.lost then escB m else if escB m then paB q || (idB q && t.x.a.jumps) else decide (q.kind = 1) || decide (m.n = 0)
theorem w175 (t : Tk) (q m : Mv) (s : HS) : R (.call 175 [.pptr t.c, .agg q.c, .agg m.c] s) = .val (.bool (ansT t q m)) s := by
 refine q175 rfl (by simp) ?_
 have h179 := w179 m
 have h178 := w178 q
 have h177 := w177 q
 obtain ⟨x, fo, force⟩ := t
 obtain ⟨a, w, op, pt, js, lost, most⟩ := x
 simp only [Mv.c] at h179 h178 h177
 unfold ansT
 cases force
 ·cases lost
  ·cases he : escB m
   ·rw [he] at h179
    by_cases hk : q.kind = 1
    ·simp -implicitDefEqProofs [U.b175, h179, dataV_data, hk]
    ·simp -implicitDefEqProofs [U.b175, h179, dataV_data, hk]
   ·rw [he] at h179
    cases hp : paB q <;> rw [hp] at h178
    ·cases hi : idB q <;> rw [hi] at h177 <;> simp -implicitDefEqProofs [U.b175, h179, h178, h177, dataV_data]
    ·simp -implicitDefEqProofs [U.b175, h179, h178, dataV_data]
  ·simp -implicitDefEqProofs [U.b175, h179, dataV_data]
 ·simp -implicitDefEqProofs [U.b175, h179, dataV_data]
def canT (t : Tk) (m : Mv) : Bool := match topM t.x with
 | none => decide (t.x.w = []) && (atB m 0 0 && !tellB m)
 | some q => if tellB m then atB m q.id q.arg && ansT t q m else if t.force || t.x.lost then false else if idB q then paB m && decide (m.id = q.id) else idB m
theorem w152 (t : Tk) (ht : TkOk t) (m : Mv) (s : HS) : R (.call 152 [.pptr t.c, .agg m.c] s) = .val (.bool (canT t m)) s := by
 refine q152 rfl (by simp) ?_
 have h176 := w176 t ht
 have h171 := w171n t.x ht.1
 have h172 := w172 m
 have h173 := w173 m
 have h174 := w174 m
 have h175 := w175 t
 have h177 := w177 m
 have h178 := w178 m
 obtain ⟨x, fo, force⟩ := t
 simp only [Tk.c, Mv.c] at h172 h173 h174 h175 h176 h177 h178
 unfold canT
 rcases topM_n ht.1 with ⟨h1, h2, h3⟩ | ⟨r, n, q, h1, ⟨h5', h2⟩, h3, h4, h5⟩
 ·rw [h3] at h171
  simp only [iV] at h171
  simp only at h1
  rw [h1]
  by_cases hw : x.w = []
  ·cases ha : atB m 0 0 <;> rw [ha] at h172 <;> simp -implicitDefEqProofs [U.b152, h171, h172, h173, dataV_data, hw]
  ·simp -implicitDefEqProofs [U.b152, h171, h172, h173, dataV_data, hw]
 ·rw [h4] at h171
  have h175 := h175 q m
  simp only [iV, Mv.c] at h171 h175 h174
  simp only at h3 h2 h5
  rw [h3]
  cases hk : tellB m <;> rw [hk] at h173
  ·have hov : overB x = false := by unfold overB; simp only at h1; rw [h1]; simp
   unfold turnT at h176
   simp only [hov, h3] at h176
   cases force
   ·cases hl : x.lost
    ·cases hq : idB q <;> rw [hl, hq] at h176 <;> simp only [Bool.false_eq_true, if_false, if_true] at h176
     ·simp -implicitDefEqProofs [U.b152, hq, h171, h173, h176, h177, dataV_data, h2, h5, hl, s0, obStore_c, storeG_1, obCells_c]
     ·cases hp : paB m <;> rw [hp] at h178 <;> simp -implicitDefEqProofs [U.b152, hq, h171, h173, h176, h178, dataV_data, h2, h5, hl, s0, obStore_c, storeG_1, obCells_c]
    ·simp -implicitDefEqProofs [U.b152, h171, h173, dataV_data, h2, h5, hl, s0, obStore_c, storeG_1, obCells_c]
   ·simp -implicitDefEqProofs [U.b152, h171, h173, dataV_data, h2, h5, s0, obStore_c, storeG_1, obCells_c]
  ·have h174 := h174 q.id q.arg
   cases ha : atB m q.id q.arg <;> rw [ha] at h174
   ·simp -implicitDefEqProofs [U.b152, ha, h171, h173, h174, dataV_data, h2, h5, s0, obStore_c, storeG_1, obCells_c]
   ·simp -implicitDefEqProofs [U.b152, ha, h171, h173, h174, h175, dataV_data, h2, h5, s0, obStore_c, storeG_1, obCells_c]
end Go.Proofs.YtclepinjnoiakaaGreatDoor.K.Hm.S
