/-
  DERIVED. GIVEN WITH THE SEED: THE CARDS: each row of YtaijlkikejincaaGreatDoorRows.lean that lists a variable, with what it lists TIED to the program's text (the seventh form; the later family's looks); each row that meets fmt, with fmt's text TOLD by the authors' own Lean function (tested against real Go, not proved from fmt's source: count such statements apart). THE CARD IS WHAT COUNTS. Prove the row's statement (the work); the ties are given (YtaijlkikejincaaGreatDoorTie.lean); close each card by the builder's one call (the guide's Derived/Test/ToyasCard.lean, 'card_holds'). Laid BY PROGRAM, IN A SANDBOX (cutbox-door.mjs). By AI agents, Wed Nov 11 2026. No macro, syntax, notation, axiom, sorry.
-/
import Derived.Test.YtaijlkikejincaaGreatDoorRows
import GoSem.ClaimSeven
namespace Go.Proofs.YtaijlkikejincaaGreatDoor
namespace Rows

/-- THE TIED CARD OF 'ripostelaw22.PactKept'. -/
def pactKeptCard : Claim7 := { stood := { row := pactKeptRow, standIns := [], harness := (true, "7ab04b4460f5794a3f0b54c187b3c83b8e263f1219c38fbf337a555d58f189aa"), looks := false }, kinds := [], alts := [], laidByText := true, laidKinds := [.data, .data, .data], laidTests := true, laidLooks := .later }
def PactKeptCardSaid : Prop := Claim7.holds Tryz.pinned (.plain (OpenSpec.ofChange pactKeptSpec)) pactKeptCard

/-- THE SECOND FORM's CARD OF 'ripostelaw22.PactKept'. -/
def pactKeptUptoCard : Claim7 := { stood := { row := pactKeptUptoRow, standIns := [], harness := (true, "7ab04b4460f5794a3f0b54c187b3c83b8e263f1219c38fbf337a555d58f189aa"), looks := false }, kinds := [], alts := [], laidByText := true, laidKinds := [.data, .data, .data], laidTests := true, laidLooks := .later }
def PactKeptUptoCardSaid : Prop := Claim7.holds Tryz.pinned (.plain (OpenSpec.upto pactKeptSpec)) pactKeptUptoCard
end Rows
end Go.Proofs.YtaijlkikejincaaGreatDoor
