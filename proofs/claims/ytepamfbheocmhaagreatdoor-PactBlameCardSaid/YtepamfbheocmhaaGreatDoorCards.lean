/-
  DERIVED. GIVEN WITH THE SEED: THE CARDS: each row of YtepamfbheocmhaaGreatDoorRows.lean that lists a variable, with what it lists TIED to the program's text (the seventh form; the later family's looks); each row that meets fmt, with fmt's text TOLD by the authors' own Lean function (tested against real Go, not proved from fmt's source: count such statements apart). THE CARD IS WHAT COUNTS. Prove the row's statement (the work); the ties are given (YtepamfbheocmhaaGreatDoorTie.lean); close each card by the builder's one call (the guide's Derived/Test/ToyasCard.lean, 'card_holds'). Laid BY PROGRAM, IN A SANDBOX (cutbox-door.mjs). By AI agents, Wed Nov 11 2026. No macro, syntax, notation, axiom, sorry.
-/
import Derived.Test.YtepamfbheocmhaaGreatDoorRows
import GoSem.ClaimSeven
namespace Go.Proofs.YtepamfbheocmhaaGreatDoor
namespace Rows

/-- THE TIED CARD OF 'ripostelaw22.PactBlame'. -/
def pactBlameCard : Claim7 := { stood := { row := pactBlameRow, standIns := [], harness := (true, "34501aea18b9e37ece933fb7dd3ce466438e642d6ffec88fbbc8f2bb83f2b70e"), looks := false }, kinds := [], alts := [], laidByText := true, laidKinds := [.data, .data, .data], laidTests := true, laidLooks := .later }
def PactBlameCardSaid : Prop := Claim7.holds Tryz.pinned (.plain (OpenSpec.ofChange pactBlameSpec)) pactBlameCard

/-- THE SECOND FORM's CARD OF 'ripostelaw22.PactBlame'. -/
def pactBlameUptoCard : Claim7 := { stood := { row := pactBlameUptoRow, standIns := [], harness := (true, "34501aea18b9e37ece933fb7dd3ce466438e642d6ffec88fbbc8f2bb83f2b70e"), looks := false }, kinds := [], alts := [], laidByText := true, laidKinds := [.data, .data, .data], laidTests := true, laidLooks := .later }
def PactBlameUptoCardSaid : Prop := Claim7.holds Tryz.pinned (.plain (OpenSpec.upto pactBlameSpec)) pactBlameUptoCard
end Rows
end Go.Proofs.YtepamfbheocmhaaGreatDoor
