/- PactWitness returns true for every pact, strategy and side, part 7. -/
import Derived.Test.YtcfbbbjhnaienaaGreatDoorCaf
import Derived.KernelRfl
import Derived.Test.YtcfbbbjhnaienaaGreatDoorCab
set_option linter.all false
set_option maxRecDepth 10000
noncomputable section
namespace Go.Proofs.YtcfbbbjhnaienaaGreatDoor.K.Hm.P
open Go Hm
def oi(k:Nat):Option HF:=match U.prog k with
 |some F=>some {F with pu:=false}
 |none=>prog k
def K5:isTrue (run {bt:=166,It:=5,dw:=113,str:=88,fmt:=201,Iu:=[89,169,170,171]} oi 100000 (.call 6 [] s0))=true:=by decide+kernel
open Go Hm U
abbrev P:=Go.Proofs.Tryz.prog
def vL:vl (λk F=>pq Go.Proofs.Tryz.prog k F=true) Dh:=Lx.get _ _ (by kernel_rfl)
end Go.Proofs.YtcfbbbjhnaienaaGreatDoor.K.Hm.P
