/- PactBlame returns true for every pact and word, part 7. -/
import Derived.Test.YtepamfbheocmhaaGreatDoorCaf
import Derived.KernelRfl
import Derived.Test.YtepamfbheocmhaaGreatDoorCab
set_option linter.all false
set_option maxRecDepth 10000
noncomputable section
namespace Go.Proofs.YtepamfbheocmhaaGreatDoor.K.Hm.P
open Go Hm
def nZ(k:Nat):Option HF:=match U.prog k with
 |some F=>some {F with pu:=false}
 |none=>prog k
def KU:isTrue (run {bt:=188,H9:=5,dk:=126,str:=104,fmt:=208,Ih:=[105,176,177,178]} nZ 100000 (.call 7 [] s0))=true:=by decide+kernel
open Go Hm U
abbrev P:=Go.Proofs.Tryz.prog
def uW:uA (λk F=>oP Go.Proofs.Tryz.prog k F=true) CQ:=Ln.get _ _ (by kernel_rfl)
end Go.Proofs.YtepamfbheocmhaaGreatDoor.K.Hm.P
