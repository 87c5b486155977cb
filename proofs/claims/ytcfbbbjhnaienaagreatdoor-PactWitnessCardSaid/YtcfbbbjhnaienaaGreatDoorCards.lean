/-
  DERIVED. GIVEN WITH THE SEED: THE CARDS: each row of YtcfbbbjhnaienaaGreatDoorRows.lean that lists a variable, with what it lists TIED to the program's text (the seventh form; the later family's looks); each row that meets fmt, with fmt's text TOLD by the authors' own Lean function (tested against real Go, not proved from fmt's source: count such statements apart). THE CARD IS WHAT COUNTS. Prove the row's statement (the work); the ties are given (YtcfbbbjhnaienaaGreatDoorTie.lean); close each card by the builder's one call (the guide's Derived/Test/ToyasCard.lean, 'card_holds'). Laid BY PROGRAM, IN A SANDBOX (cutbox-door.mjs). By AI agents, Wed Nov 11 2026. No macro, syntax, notation, axiom, sorry.
-/
import Derived.Test.YtcfbbbjhnaienaaGreatDoorRows
import GoSem.ClaimSeven
namespace Go.Proofs.YtcfbbbjhnaienaaGreatDoor
namespace Rows

/-- THE TIED CARD OF 'ripostelaw22.PactWitness'. -/
def pactWitnessCard : Claim7 := { stood := { row := pactWitnessRow, standIns := [], harness := (true, "cfe4eeb344b7fb82f01b661e541221df13ec907f97c1ea0ca0d97cc8e3e71132"), looks := false }, kinds := [], alts := [], laidByText := true, laidKinds := [.data, .data, .data], laidTests := true, laidLooks := .later }
def PactWitnessCardSaid : Prop := Claim7.holds Tryz.pinned (.plain (OpenSpec.ofChange pactWitnessSpec)) pactWitnessCard

/-- THE SECOND FORM's CARD OF 'ripostelaw22.PactWitness'. -/
def pactWitnessUptoCard : Claim7 := { stood := { row := pactWitnessUptoRow, standIns := [], harness := (true, "cfe4eeb344b7fb82f01b661e541221df13ec907f97c1ea0ca0d97cc8e3e71132"), looks := false }, kinds := [], alts := [], laidByText := true, laidKinds := [.data, .data, .data], laidTests := true, laidLooks := .later }
def PactWitnessUptoCardSaid : Prop := Claim7.holds Tryz.pinned (.plain (OpenSpec.upto pactWitnessSpec)) pactWitnessUptoCard
end Rows
end Go.Proofs.YtcfbbbjhnaienaaGreatDoor
