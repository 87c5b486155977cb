/-
  DERIVED. GIVEN WITH THE SEED: THE CARDS: each row of YtclepinjnoiakaaGreatDoorRows.lean that lists a variable, with what it lists TIED to the program's text (the seventh form; the later family's looks); each row that meets fmt, with fmt's text TOLD by the authors' own Lean function (tested against real Go, not proved from fmt's source: count such statements apart). THE CARD IS WHAT COUNTS. Prove the row's statement (the work); the ties are given (YtclepinjnoiakaaGreatDoorTie.lean); close each card by the builder's one call (the guide's Derived/Test/ToyasCard.lean, 'card_holds'). Laid BY PROGRAM, IN A SANDBOX (cutbox-door.mjs). By AI agents, Wed Nov 11 2026. No macro, syntax, notation, axiom, sorry.
-/
import Derived.Test.YtclepinjnoiakaaGreatDoorRows
import GoSem.ClaimSeven
namespace Go.Proofs.YtclepinjnoiakaaGreatDoor
namespace Rows

/-- THE TIED CARD OF 'ripostelaw22.PactJudgesAt'. -/
def pactJudgesAtCard : Claim7 := { stood := { row := pactJudgesAtRow, standIns := [], harness := (true, "086b928f47d231635caf4f8ff867feb19b4533c406efe5bc03181d1784b74b6a"), looks := false }, kinds := [], alts := [], laidByText := true, laidKinds := [.data, .data, .data], laidTests := true, laidLooks := .later }
def PactJudgesAtCardSaid : Prop := Claim7.holds Tryz.pinned (.plain (OpenSpec.ofChange pactJudgesAtSpec)) pactJudgesAtCard

/-- THE TIED CARD OF 'ripostelaw22.PactCalls'. -/
def pactCallsCard : Claim7 := { stood := { row := pactCallsRow, standIns := [], harness := (true, "086b928f47d231635caf4f8ff867feb19b4533c406efe5bc03181d1784b74b6a"), looks := false }, kinds := [], alts := [], laidByText := true, laidKinds := [.data, .data, .data], laidTests := true, laidLooks := .later }
def PactCallsCardSaid : Prop := Claim7.holds Tryz.pinned (.plain (OpenSpec.ofChange pactCallsSpec)) pactCallsCard

/-- THE TIED CARD OF 'ripostelaw22.PactInside'. -/
def pactInsideCard : Claim7 := { stood := { row := pactInsideRow, standIns := [], harness := (true, "086b928f47d231635caf4f8ff867feb19b4533c406efe5bc03181d1784b74b6a"), looks := false }, kinds := [], alts := [], laidByText := true, laidKinds := [.data, .data, .data], laidTests := true, laidLooks := .later }
def PactInsideCardSaid : Prop := Claim7.holds Tryz.pinned (.plain (OpenSpec.ofChange pactInsideSpec)) pactInsideCard

/-- THE TIED CARD OF 'ripostelaw22.PactEach'. -/
def pactEachCard : Claim7 := { stood := { row := pactEachRow, standIns := [], harness := (true, "086b928f47d231635caf4f8ff867feb19b4533c406efe5bc03181d1784b74b6a"), looks := false }, kinds := [], alts := [], laidByText := true, laidKinds := [.data, .data, .data], laidTests := true, laidLooks := .later }
def PactEachCardSaid : Prop := Claim7.holds Tryz.pinned (.plain (OpenSpec.ofChange pactEachSpec)) pactEachCard

/-- THE TIED CARD OF 'ripostelaw22.PactKeeps'. -/
def pactKeepsCard : Claim7 := { stood := { row := pactKeepsRow, standIns := [], harness := (true, "086b928f47d231635caf4f8ff867feb19b4533c406efe5bc03181d1784b74b6a"), looks := false }, kinds := [], alts := [], laidByText := true, laidKinds := [.data, .data, .data], laidTests := true, laidLooks := .later }
def PactKeepsCardSaid : Prop := Claim7.holds Tryz.pinned (.plain (OpenSpec.ofChange pactKeepsSpec)) pactKeepsCard

/-- THE TIED CARD OF 'ripostelaw22.PactWitness'. -/
def pactWitnessCard : Claim7 := { stood := { row := pactWitnessRow, standIns := [], harness := (true, "086b928f47d231635caf4f8ff867feb19b4533c406efe5bc03181d1784b74b6a"), looks := false }, kinds := [], alts := [], laidByText := true, laidKinds := [.data, .data, .data], laidTests := true, laidLooks := .later }
def PactWitnessCardSaid : Prop := Claim7.holds Tryz.pinned (.plain (OpenSpec.ofChange pactWitnessSpec)) pactWitnessCard

/-- THE SECOND FORM's CARD OF 'ripostelaw22.PactJudgesAt'. -/
def pactJudgesAtUptoCard : Claim7 := { stood := { row := pactJudgesAtUptoRow, standIns := [], harness := (true, "086b928f47d231635caf4f8ff867feb19b4533c406efe5bc03181d1784b74b6a"), looks := false }, kinds := [], alts := [], laidByText := true, laidKinds := [.data, .data, .data], laidTests := true, laidLooks := .later }
def PactJudgesAtUptoCardSaid : Prop := Claim7.holds Tryz.pinned (.plain (OpenSpec.upto pactJudgesAtSpec)) pactJudgesAtUptoCard

/-- THE SECOND FORM's CARD OF 'ripostelaw22.PactCalls'. -/
def pactCallsUptoCard : Claim7 := { stood := { row := pactCallsUptoRow, standIns := [], harness := (true, "086b928f47d231635caf4f8ff867feb19b4533c406efe5bc03181d1784b74b6a"), looks := false }, kinds := [], alts := [], laidByText := true, laidKinds := [.data, .data, .data], laidTests := true, laidLooks := .later }
def PactCallsUptoCardSaid : Prop := Claim7.holds Tryz.pinned (.plain (OpenSpec.upto pactCallsSpec)) pactCallsUptoCard

/-- THE SECOND FORM's CARD OF 'ripostelaw22.PactInside'. -/
def pactInsideUptoCard : Claim7 := { stood := { row := pactInsideUptoRow, standIns := [], harness := (true, "086b928f47d231635caf4f8ff867feb19b4533c406efe5bc03181d1784b74b6a"), looks := false }, kinds := [], alts := [], laidByText := true, laidKinds := [.data, .data, .data], laidTests := true, laidLooks := .later }
def PactInsideUptoCardSaid : Prop := Claim7.holds Tryz.pinned (.plain (OpenSpec.upto pactInsideSpec)) pactInsideUptoCard

/-- THE SECOND FORM's CARD OF 'ripostelaw22.PactEach'. -/
def pactEachUptoCard : Claim7 := { stood := { row := pactEachUptoRow, standIns := [], harness := (true, "086b928f47d231635caf4f8ff867feb19b4533c406efe5bc03181d1784b74b6a"), looks := false }, kinds := [], alts := [], laidByText := true, laidKinds := [.data, .data, .data], laidTests := true, laidLooks := .later }
def PactEachUptoCardSaid : Prop := Claim7.holds Tryz.pinned (.plain (OpenSpec.upto pactEachSpec)) pactEachUptoCard

/-- THE SECOND FORM's CARD OF 'ripostelaw22.PactKeeps'. -/
def pactKeepsUptoCard : Claim7 := { stood := { row := pactKeepsUptoRow, standIns := [], harness := (true, "086b928f47d231635caf4f8ff867feb19b4533c406efe5bc03181d1784b74b6a"), looks := false }, kinds := [], alts := [], laidByText := true, laidKinds := [.data, .data, .data], laidTests := true, laidLooks := .later }
def PactKeepsUptoCardSaid : Prop := Claim7.holds Tryz.pinned (.plain (OpenSpec.upto pactKeepsSpec)) pactKeepsUptoCard

/-- THE SECOND FORM's CARD OF 'ripostelaw22.PactWitness'. -/
def pactWitnessUptoCard : Claim7 := { stood := { row := pactWitnessUptoRow, standIns := [], harness := (true, "086b928f47d231635caf4f8ff867feb19b4533c406efe5bc03181d1784b74b6a"), looks := false }, kinds := [], alts := [], laidByText := true, laidKinds := [.data, .data, .data], laidTests := true, laidLooks := .later }
def PactWitnessUptoCardSaid : Prop := Claim7.holds Tryz.pinned (.plain (OpenSpec.upto pactWitnessSpec)) pactWitnessUptoCard
end Rows
end Go.Proofs.YtclepinjnoiakaaGreatDoor
