/- PactKept returns true for every pact and strategy, part 7. -/
import Derived.Test.YtaijlkikejincaaGreatDoorCaf
import Derived.KernelRfl
import Derived.Test.YtaijlkikejincaaGreatDoorCab
set_option linter.all false
set_option maxRecDepth 10000
noncomputable section
namespace Go.Proofs.YtaijlkikejincaaGreatDoor.K.Hm.P
open Go Hm
def oi(k:Nat):Option HF:=match U.prog k with
 |some F=>some {F with pu:=false}
 |none=>prog k
def K5:isTrue (run {bt:=159,It:=5,dw:=104,str:=78,fmt:=192,Iu:=[79,160,161,162]} oi 100000 (.call 6 [] s0))=true:=by decide+kernel
open Go Hm U
abbrev P:=Go.Proofs.Tryz.prog
def vL:vl (λk F=>pq Go.Proofs.Tryz.prog k F=true) Dh:=Lx.get _ _ (by kernel_rfl)
end Go.Proofs.YtaijlkikejincaaGreatDoor.K.Hm.P
