/- PactInside returns true for every arena, number and word. Conditions: the statement's own alone, part 7 of the proof. -/
import Derived.Test.YtclepinjnoiakaaGreatDoorCaf
import Derived.KernelRfl
set_option linter.all false
namespace Go.Proofs.YtclepinjnoiakaaGreatDoor.K.Hm.P
open Go Hm
theorem awake_ok : isTrue (run { bt := 211, byt := 5, copyCheck := 155, str := 136, fmt := 236 } prog 100000 (.call 12 [] s0)) = true := by decide +kernel
end Go.Proofs.YtclepinjnoiakaaGreatDoor.K.Hm.P
