/- PactInside returns true for every arena, number and word. Conditions: the statement's own alone, part 9 of the proof. -/
import Derived.Test.YtclepinjnoiakaaGreatDoorCae
import Derived.Test.YtclepinjnoiakaaGreatDoorCag
import Derived.Test.YtclepinjnoiakaaGreatDoorCah
import Derived.Test.YtclepinjnoiakaaGreatDoorCards
import Derived.Test.YtclepinjnoiakaaGreatDoorTie
import Derived.ProofKit
import Derived.LaidMore
import Derived.OpenShut
import Derived.OpenVars
import Derived.Carry
import Derived.Stop.Joined
import Derived.SevenTiedAt
set_option linter.all false
namespace Go.Proofs.YtclepinjnoiakaaGreatDoor
open Go.ChangeShapes Go.WideShapes Go.ChangeAt Go.WideMaps Go.WideElems Go.RowKit
open Go Go.Proofs.YtclepinjnoiakaaGreatDoor.K
theorem own : ownKnob Tryz.prog.godebug = none := by kernel_rfl
theorem laidOut : laidOutB Tryz.prog = true := by kernel_rfl
theorem mixed : Tryz.prog.follows .mixedOrders = true := by kernel_rfl
section
variable {H : Type} {enc : TypeId × Value -> H} {w : World}
theorem rBs : Hm.Reads enc Tryz.prog w 24 Hm.S.Bs.c := Hm.reads_bs Tryz.underlying24 (by kernel_rfl) ⟨⟨_, rfl, rfl, Tryz.underlying4, by kernel_rfl⟩⟩ ⟨⟨_, rfl, rfl, Tryz.underlying3, by kernel_rfl⟩⟩
theorem rTy : Hm.Reads enc Tryz.prog w 82 Hm.S.Ty.c := Hm.reads_ty Tryz.underlying82 (by kernel_rfl) ⟨⟨_, 24, rfl, rfl, Tryz.underlying80, by kernel_rfl, of_decide_eq_true (by kernel_rfl), rBs⟩⟩ ⟨⟨_, rfl, rfl, by kernel_rfl, rBs⟩⟩
theorem rAr : Hm.Reads enc Tryz.prog w 26 Hm.S.Ar.c := Hm.reads_ar Tryz.underlying26 (by kernel_rfl) ⟨⟨_, 82, rfl, rfl, Tryz.underlying22, by kernel_rfl, of_decide_eq_true (by kernel_rfl), rTy⟩⟩ ⟨⟨_, rfl, rfl, by kernel_rfl, rBs⟩⟩ ⟨⟨_, rfl, rfl, Tryz.underlying4, by kernel_rfl⟩⟩
theorem rMv : Hm.Reads enc Tryz.prog w 67 Hm.S.Mv.c := Hm.reads_mv Tryz.underlying67 (by kernel_rfl) ⟨⟨_, rfl, rfl, Tryz.underlying3, by kernel_rfl⟩⟩ ⟨⟨_, rfl, rfl, Tryz.underlying3, by kernel_rfl⟩⟩ ⟨⟨_, rfl, rfl, Tryz.underlying5, by kernel_rfl⟩⟩ ⟨⟨_, rfl, rfl, Tryz.underlying3, by kernel_rfl⟩⟩
end
theorem of_laid {W : World} (h : laidMetH Tryz.prog Rows.pactInsideRow.laid W) : Lib.TabIs Tryz.prog W "internal/strconv.uint64pow10" .u64 Lib.pow10Tab := by
 rw [MakeChecks.laidMetH_plain _ _ _ (by kernel_rfl)] at h
 exact Hm.tab_of_laid (g := 0) (by kernel_rfl) (by kernel_rfl) Tryz.underlying331 Tryz.underlying321 (by kernel_rfl) (by kernel_rfl) h
theorem door_met (os : Os) (args : Array Value) : laidMetH Tryz.prog Rows.pactInsideRow.laid ((World.doorLaid Tryz.prog 100000 os).forCall (fun _ _ => 0) ⟨#[], args, []⟩).memory :=
 laidMetH_of_parts3 (fuel := 8) (laidMet_of_run' 8 (by kernel_rfl) (by kernel_rfl)) (by kernel_rfl) (by kernel_rfl)
theorem walk {W : World} (ht : Lib.TabIs Tryz.prog W "internal/strconv.uint64pow10" .u64 Lib.pow10Tab) {a : Hm.S.Ar} {id : Int} (hid : 0 <= id /\ id <= 255) {m : List Hm.S.Mv} {vs : List Value}
  (hvs : Hm.HRs0 W [.agg a.c, Hm.HV.int .u8 id, .psl (m.map Hm.S.Mv.c)] vs) : Calls Tryz.prog 5 vs.toArray W fun e W' => e = .returned (.bool true) /\ Below W.heap.size W W' :=
 insideTrue Hm.libFacts rfl mixed (fun f F h => Hm.AllT.get _ _ Hm.U.prog_ok f F h) (fun f F h => Hm.AllT.get _ _ Hm.P.prog_ok f F h) Hm.P.awake_ok ht hid hvs
set_option maxRecDepth 100000 in
theorem lifted (os : Os) (started : os.Started) (H : Type) (enc : TypeId × Value -> H) :
  ReturnsInHanded {} Tryz.checked os 5 .any (fun w args => (Rows.pactInsideSpec.pre enc Tryz.prog Tryz.f5 [] false w args /\ laidMetH Tryz.prog Rows.pactInsideRow.laid w) /\ sizedMet enc Tryz.prog Tryz.f5 (OpenSpec.ofChange Rows.pactInsideSpec) false w args)
   (Rows.pactInsideSpec.post enc Tryz.prog Tryz.f5 false true false false) := by
 refine returnsInHanded_of_change_and (C := Tryz.checked) (X := fun w _ => laidMetH Tryz.prog Rows.pactInsideRow.laid w) (fun _ _ _ hh h => h.of_heap hh) own started (by kernel_rfl) Tryz.func5
  (ChangeSpec.witness_shaped (enc := enc) (C := Tryz.checked) (os := os) (X := fun w _ => laidMetH Tryz.prog Rows.pactInsideRow.laid w) false (World.doorLaid Tryz.prog 100000 os) #[.agg #[.slice none 0 0, .bool false, .int .i64 0, .bool false], .int .u8 0, .slice none 0 0] 8 rfl (World.shaped_of_RefB (by kernel_rfl) (by kernel_rfl)) (by kernel_rfl) (by kernel_rfl) (by kernel_rfl) (door_met os _)) ?_
 intro W base args ds gs before hval0 hW _ _ hL _
 have hW' := hW
 obtain ⟨p, q, hA0, hV, rfl, hfz, hnd⟩ := hW
 have hA : DataW.TrodAll enc Tryz.prog W 0 (fun _ => true) true Tryz.f5.params.toList args.toList ds p := hA0
 have hval := hval0
 rw [Tryz.params5] at hA hval
 obtain ⟨a, id, m, hid, hvs⟩ := Hm.args_inside hA hval Tryz.underlying26 rAr Tryz.underlying5 Tryz.underlying36 (of_decide_eq_true (by kernel_rfl)) rMv
 obtain ⟨v1, v2, v3, d1, d2, d3, p1, p2, p3, hargs, rfl, rfl, h1, h2, h3⟩ := trodAll_three hA
 obtain rfl : args = #[v1, v2, v3] := by cases args; simp_all
 obtain ⟨rfl, rfl⟩ := trodVars_none hV
 have l1 : ∀ x ∈ p1, x.block < W.heap.size := by obtain ⟨m, hm⟩ := h1; exact DataW.trod_lt m _ _ _ hm
 have l2 : ∀ x ∈ p2, x.block < W.heap.size := by obtain ⟨m, hm⟩ := h2; exact DataW.trod_lt m _ _ _ hm
 have l3 : ∀ x ∈ p3, x.block < W.heap.size := by obtain ⟨m, hm⟩ := h3; exact DataW.trod_lt m _ _ _ hm
 clear hA0 hval0
 refine (walk (of_laid hL) hid hvs).mono fun e W' ⟨he, bel⟩ => ?_
 subst he
 exact ⟨_, rfl, _, _, _, [], _, [], hW', trodAll_mk1 (shut_bool Tryz.underlying4 _), trodAll_cons_mk (Below.trod laidOut (by kernel_rfl) (of_decide_eq_true (by kernel_rfl)) h1 bel l1) (trodAll_cons_mk (Below.trod laidOut (by kernel_rfl) (of_decide_eq_true (by kernel_rfl)) h2 bel l2) (trodAll_cons_mk (Below.trod laidOut (by kernel_rfl) (of_decide_eq_true (by kernel_rfl)) h3 bel l3) trodAll_mk0)), rfl, bel.frame _, fun h => by cases h⟩
theorem holds : Rows.PactInsideSaid :=
 OpenClaim.holds_of_wide 5 Tryz.f5 rfl rfl rfl rfl rfl rfl rfl ⟨rfl, rfl, rfl, rfl, rfl⟩ rfl rfl rfl rfl rfl (by kernel_rfl) Tryz.func5 (by kernel_rfl)
  (of_decide_eq_true (by kernel_rfl)) (by unfold Func.isWrapper; first | (rw [if_pos (by decide +kernel)]; kernel_rfl) | (rw [if_neg (by decide +kernel)]; exact ⟨rfl, rfl⟩))
  (fun os started H enc _ => lifted os started H enc)
theorem card_holds : Rows.PactInsideCardSaid :=
 Claim7.holds_tied_plain_at .later [] [.data, .data, .data] true (true, "086b928f47d231635caf4f8ff867feb19b4533c406efe5bc03181d1784b74b6a") false
  holds (fun _ h => by cases h) (by kernel_rfl) (fun _ h => by cases h) pactInside_row_tie rfl ⟨rfl, rfl⟩ (by kernel_rfl) rfl
  (fun f fn hf hfn => by
   obtain rfl : f = 5 := Option.some.inj ((show Tryz.prog.funcNamed "riposte/ripostelaw22.PactInside" = some 5 by kernel_rfl).symm.trans hf) |>.symm
   obtain rfl : fn = Tryz.f5 := (Option.some.inj (Tryz.func5.symm.trans hfn)).symm
   exact ⟨by kernel_rfl, fun j t ht => by
    rw [Tryz.params5] at ht
    have ht' := Array.mem_of_getElem? ht
    simp at ht'
    rcases ht' with rfl | rfl | rfl
    ·show Tryz.prog.wantsStandIn 26 = false
     kernel_rfl
    ·show Tryz.prog.wantsStandIn 5 = false
     kernel_rfl
    ·show Tryz.prog.wantsStandIn 36 = false
     kernel_rfl⟩)
  (by kernel_rfl)
end Go.Proofs.YtclepinjnoiakaaGreatDoor
