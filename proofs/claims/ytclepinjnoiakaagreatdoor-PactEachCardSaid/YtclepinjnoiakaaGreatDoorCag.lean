/- PactEach returns true, part 7. -/
import Derived.Test.YtclepinjnoiakaaGreatDoorCaf
import Derived.KernelRfl
import Derived.Test.YtclepinjnoiakaaGreatDoorCab
set_option linter.all false
set_option maxRecDepth 10000
noncomputable section
namespace Go.Proofs.YtclepinjnoiakaaGreatDoor.K.Hm.P
open Go Hm
def oG(k:Nat):Option HF:=match U.prog k with
 |some F=>some {F with pu:=false}
 |none=>prog k
def LK:isTrue (run {bt:=211,I5:=5,dx:=155,str:=136,fmt:=236,Jd:=[137,202,203,204]} oG 100000 (.call 12 [] s0))=true:=by decide+kernel
open Go Hm
abbrev P:=Go.Proofs.Tryz.prog
def vW:vz (λk F=>pD Go.Proofs.Tryz.prog k F=true) DA:=Mm.get _ _ (by kernel_rfl)
end Go.Proofs.YtclepinjnoiakaaGreatDoor.K.Hm.P
