/- PactEach returns true for every pact, identifier and word. Conditions: the statement's own alone. -/
import Derived.Test.YtclepinjnoiakaaGreatDoorCab
import Derived.Test.YtclepinjnoiakaaGreatDoorCac
import Derived.Test.YtclepinjnoiakaaGreatDoorCaf
import Derived.Test.YtclepinjnoiakaaGreatDoorCag
import Derived.Test.YtclepinjnoiakaaGreatDoorCards
import Derived.Test.YtclepinjnoiakaaGreatDoorTie
import Derived.ProofKit
import Derived.LaidMore
import Derived.OpenShut
import Derived.OpenVars
import Derived.Carry
import Derived.Stop.Joined
import Derived.SevenTiedAt
set_option linter.all false
set_option maxRecDepth 10000
noncomputable section
namespace Go.Proofs.YtclepinjnoiakaaGreatDoor.K
open Go Go.RowKit
theorem On(P:Program)(f:Nat)(F:Hm.HF):Hm.pD P f {F with pu:=false}=Hm.pD P f F:=by unfold Hm.pD;rfl
theorem LL(f:Nat)(F:Hm.HF)(h:Hm.P.oG f=some F):Hm.pD Go.Proofs.Tryz.prog f F=true:=by
 unfold Hm.P.oG at h;cases a:Hm.U.prog f with
 |some G=>rw[a]at h;cases h;rw[On];exact Hm.vz.get _ _ Hm.U.vW f G a
 |none=>rw[a]at h;exact Hm.vz.get _ _ Hm.P.vW f F h
theorem LM{P:Program}{L:Hm.jx}(F:Hm.pG P L)(j:{L with vI:=some 12}=Hm.S.LU){oG:Nat->Option Hm.HF}(k:P.follows .mixedOrders=true)(d:∀f F,Hm.U.prog f=some F->Hm.pD P f F=true)(b:∀f F,oG f=some F->Hm.pD P f F=true)
  {l:Nat}(h0:Hm.isTrue (Hm.run {L with vI:=none} oG l (.call 12 [] Hm.s0))=true){W:World}(o:Lib.TabIs P W "internal/strconv.uint64pow10" .u64 Lib.pow10Tab){a:Hm.S.Ar}{id:Int}{t:Hm.S.Sx}(p:Hm.rM t.x){m:List Hm.S.Mv}{vs:List Value}
  (i:Hm.Gr W [.agg (Hm.S.wA a id t),.psl (m.map Hm.S.Mv.c)] vs):Calls P 6 vs.toArray W λe q=>e=.returned (.bool true)/\Below W.heap.size W q:=by
 obtain⟨n,h⟩:=Hm.ym (Hm.S.LI a id t p m Hm.s0) trivial;exact Hm.Gq F k d b h0 (by rw[j];exact h) o i
end Go.Proofs.YtclepinjnoiakaaGreatDoor.K
namespace Go.Proofs.YtclepinjnoiakaaGreatDoor
open Go.ChangeShapes Go.WideShapes Go.ChangeAt Go.WideMaps Go.WideElems Go.RowKit
open Go Go.Proofs.YtclepinjnoiakaaGreatDoor.K
theorem own:ownKnob Tryz.prog.godebug=none:=by kernel_rfl
theorem HI:laidOutB Tryz.prog=true:=by kernel_rfl
theorem mixed:Tryz.prog.follows .mixedOrders=true:=by kernel_rfl
section
open Hm Hm.S
variable{H:Type}{enc:TypeId×Value->H}{w:World}
theorem rI:gd enc Tryz.prog w 3 (λn:Int=>[.int .i64 n]) (λ_=>True):=Bd Tryz.underlying3 (by kernel_rfl)
theorem rU:gd enc Tryz.prog w 5 (λn:Int=>[.int .u8 n]) (λ_=>True):=Bd Tryz.underlying5 (by kernel_rfl)
theorem rB:gd enc Tryz.prog w 4 (λb:Bool=>[.bool b]) (λ_=>True):=Gs Tryz.underlying4 (by kernel_rfl)
theorem rBs:gd enc Tryz.prog w 24 Bs.c (λ_=>True):=
 (RF.reads (.cons Tryz.underlying24 (fa 1 rfl rfl (by kernel_rfl) rB) (.last Tryz.underlying24 (fa 1 rfl rfl (by kernel_rfl) rI) (by kernel_rfl)))).LY (λb=>(b.cell,b.n)) (λ_=>rfl) (λp=>⟨p.1,p.2⟩) (λ_=>rfl) (λ_ _=>trivial)
theorem rTy:gd enc Tryz.prog w 82 Ty.c (λ_=>True):=
 (RF.reads (.cons Tryz.underlying82 (fa 1 rfl rfl (by kernel_rfl) (iR Tryz.underlying80 (by kernel_rfl) (vb (by kernel_rfl)) rBs)) (.last Tryz.underlying82 (fa 2 rfl rfl (by kernel_rfl) rBs) (by kernel_rfl)))).LY (λb=>(b.ps,b.res)) (λ_=>rfl) (λp=>⟨p.1,p.2⟩) (λ_=>rfl) (λ_ _=>trivial)
theorem rAr:gd enc Tryz.prog w 26 Ar.c (λ_=>True):=
 (RF.reads (.cons Tryz.underlying26 (fa 1 rfl rfl (by kernel_rfl) (iR Tryz.underlying22 (by kernel_rfl) (vb (by kernel_rfl)) rTy)) (.cons Tryz.underlying26 (fa 2 rfl rfl (by kernel_rfl) rBs) (.last Tryz.underlying26 (fa 1 rfl rfl (by kernel_rfl) rB) (by kernel_rfl))))).LY
  (λb=>(b.ids,b.root,b.jumps)) (λ_=>rfl) (λp=>⟨p.1,p.2.1,p.2.2⟩) (λ_=>rfl) (λ_ _=>trivial)
theorem rMv:gd enc Tryz.prog w 67 Mv.c (λ_=>True):=
 (RF.reads (.cons Tryz.underlying67 (fa 1 rfl rfl (by kernel_rfl) rI) (.cons Tryz.underlying67 (fa 1 rfl rfl (by kernel_rfl) rI) (.cons Tryz.underlying67 (fa 1 rfl rfl (by kernel_rfl) rU) (.last Tryz.underlying67 (fa 1 rfl rfl (by kernel_rfl) rI) (by kernel_rfl)))))).LY
  (λb=>(b.id,b.arg,b.kind,b.n)) (λ_=>rfl) (λp=>⟨p.1,p.2.1,p.2.2.1,p.2.2.2⟩) (λ_=>rfl) (λ_ _=>trivial)
theorem rEi:gd enc Tryz.prog w 160 Ei.c (λ_=>True):=
 (RF.reads (.cons Tryz.underlying160 (fa 4 rfl rfl (by kernel_rfl) rMv) (.last Tryz.underlying160 (fa 1 rfl rfl (by kernel_rfl) rI) (by kernel_rfl)))).LY (λb=>(b.m,b.to)) (λ_=>rfl) (λp=>⟨p.1,p.2⟩) (λ_=>rfl) (λ_ _=>trivial)
theorem aii:gd enc Tryz.prog w 83 zy (λl=>l.length<=70368744177664):=
 (iR Tryz.underlying83 (by kernel_rfl) (vb (by kernel_rfl)) rEi).LY (λb=>b) (λ_=>rfl) (λb=>b) (λ_=>rfl) (λa h=>by
  have h:=h.2;rw[show Tryz.prog.bytesOf 160=40 by kernel_rfl]at h;unfold reachBytes at h;omega)
theorem rAx:gd enc Tryz.prog w 30 Ax.c rM:=
 (RF.reads (.cons Tryz.underlying30 (fa 1 rfl rfl (by kernel_rfl) (iR Tryz.underlying27 (by kernel_rfl) (vb (by kernel_rfl)) aii)) (.last Tryz.underlying30 (fa 1 rfl rfl (by kernel_rfl) (iR Tryz.underlying28 (by kernel_rfl) (vb (by kernel_rfl)) rB)) (by kernel_rfl)))).LY
  (λb=>(b.nx,b.fi)) (λ_=>rfl) (λp=>⟨p.1,p.2⟩) (λ_=>rfl) (λ_ h=>h.1.1)
theorem rSx:gd enc Tryz.prog w 32 Sx.c (λt=>rM t.x):=
 (RF.reads (.cons Tryz.underlying32 (fa 4 rfl rfl (by kernel_rfl) rAr) (.last Tryz.underlying32 (fa 2 rfl rfl (by kernel_rfl) rAx) (by kernel_rfl)))).LY (λb=>(b.a,b.x)) (λ_=>rfl) (λp=>⟨p.1,p.2⟩) (λ_=>rfl) (λ_ h=>h.2)
theorem rPt:gd enc Tryz.prog w 34 (λp:Ar×Int×Sx=>wA p.1 p.2.1 p.2.2) (λp=>rM p.2.2.x):=
 (RF.reads (.cons Tryz.underlying34 (fa 4 rfl rfl (by kernel_rfl) rAr) (.cons Tryz.underlying34 (fa 1 rfl rfl (by kernel_rfl) rI) (.last Tryz.underlying34 (fa 6 rfl rfl (by kernel_rfl) rSx) (by kernel_rfl))))).LY
  (λb=>b) (λ_=>rfl) (λp=>p) (λ_=>rfl) (λ_ h=>h.2.2)
theorem rWd:gd enc Tryz.prog w 36 (λl:aP=>[.psl (l.map Mv.c)]) (λ_=>True):=(iR Tryz.underlying36 (by kernel_rfl) (vb (by kernel_rfl)) rMv).LY (λb=>b) (λ_=>rfl) (λb=>b) (λ_=>rfl) (λ_ _=>trivial)
end
theorem Oo{W:World}(h:laidMetH Tryz.prog Rows.pactEachRow.laid W):Lib.TabIs Tryz.prog W "internal/strconv.uint64pow10" .u64 Lib.pow10Tab:=by rw[MakeChecks.laidMetH_plain _ _ _ (by kernel_rfl)]at h;exact Hm.Dn (g:=0) (by kernel_rfl) (by kernel_rfl) Tryz.underlying331 Tryz.underlying321 (by kernel_rfl) (by kernel_rfl) h
theorem LN(os:Os)(args:Array Value):laidMetH Tryz.prog Rows.pactEachRow.laid ((World.doorLaid Tryz.prog 100000 os).forCall (λ_ _=>0) ⟨#[],args,[]⟩).memory:=
 laidMetH_of_parts3 (fuel:=8) (laidMet_of_run' 8 (by kernel_rfl) (by kernel_rfl)) (by kernel_rfl) (by kernel_rfl)
theorem aij{W:World}(d:Lib.TabIs Tryz.prog W "internal/strconv.uint64pow10" .u64 Lib.pow10Tab){a:Hm.S.Ar}{id:Int}{t:Hm.S.Sx}(g:Hm.rM t.x){m:List Hm.S.Mv}{vs:List Value}
  (b:Hm.Gr W [.agg (Hm.S.wA a id t),.psl (m.map Hm.S.Mv.c)] vs):Calls Tryz.prog 6 vs.toArray W λe i=>e=.returned (.bool true)/\Below W.heap.size W i:=
 LM Hm.JT rfl mixed (λf F h=>Hm.vz.get _ _ Hm.U.vW f F h) LL Hm.P.LK d g b
set_option maxRecDepth 100000 in
theorem UZ(os:Os)(CC:os.Started)(H:Type)(enc:TypeId×Value->H):
  ReturnsInHanded {} Tryz.checked os 6 .any (λw args=>(Rows.pactEachSpec.pre enc Tryz.prog Tryz.f6 [] false w args/\laidMetH Tryz.prog Rows.pactEachRow.laid w)/\sizedMet enc Tryz.prog Tryz.f6 (OpenSpec.ofChange Rows.pactEachSpec) false w args)
   (Rows.pactEachSpec.post enc Tryz.prog Tryz.f6 false true false false):=by
 refine returnsInHanded_of_change_and (C:=Tryz.checked) (X:=λw _=>laidMetH Tryz.prog Rows.pactEachRow.laid w) (λ_ _ _ u h=>h.of_heap u) own CC (by kernel_rfl) Tryz.func6
  (ChangeSpec.witness_shaped (enc:=enc) (C:=Tryz.checked) (os:=os) (X:=λw _=>laidMetH Tryz.prog Rows.pactEachRow.laid w) false (World.doorLaid Tryz.prog 100000 os) #[.agg #[.slice none 0 0,.bool false,.int .i64 0,.bool false,.int .i64 0,.slice none 0 0,.bool false,.int .i64 0,.bool false,.slice none 0 0,.slice none 0 0],.slice none 0 0] 8 rfl (World.shaped_of_RefB (by kernel_rfl) (by kernel_rfl)) (by kernel_rfl) (by kernel_rfl) (by kernel_rfl) (LN os _)) ?_
 intro W UK args v N before b n _ o y _;have g:=n;obtain⟨p,q,f,z,rfl,A,B⟩:=n;have i:DataW.TrodAll enc Tryz.prog W 0 (λ_=>true) true Tryz.f6.params.toList args.toList v p:=f;have c:=b;rw[Tryz.params6]at i c o;obtain⟨a,id,t,m,D,j⟩:=Hm.I3 i o c Tryz.underlying34 rPt Tryz.underlying36 rWd;obtain⟨E,F,O,P,G,I,k,rfl,rfl,r,s⟩:=trodAll_two i;obtain rfl:args= #[E,F]:=by cases args;simp_all
 obtain⟨rfl,rfl⟩:=trodVars_none z;have J:∀x∈G,x.block<W.heap.size:=by obtain⟨m,l⟩:=r;exact DataW.trod_lt m _ _ _ l
 have L:∀x∈I,x.block<W.heap.size:=by obtain⟨m,l⟩:=s;exact DataW.trod_lt m _ _ _ l
 clear f b;refine(aij (Oo y) D j).mono λe Q ⟨M,d⟩=>?_
 subst M;exact⟨_,rfl,_,_,_,[],_,[],g,trodAll_mk1 (shut_bool Tryz.underlying4 _),trodAll_cons_mk (Below.trod HI (by kernel_rfl) (vb (by kernel_rfl)) r d J) (trodAll_cons_mk (Below.trod HI (by kernel_rfl) (vb (by kernel_rfl)) s d L) trodAll_mk0),rfl,d.frame _,λh=>by cases h⟩
theorem GA:Rows.PactEachSaid:=
 OpenClaim.holds_of_wide 6 Tryz.f6 rfl rfl rfl rfl rfl rfl rfl ⟨rfl,rfl,rfl,rfl,rfl⟩ rfl rfl rfl rfl rfl (by kernel_rfl) Tryz.func6 (by kernel_rfl)
  (vb (by kernel_rfl)) (by unfold Func.isWrapper;first|(rw[ar (by decide+kernel)];kernel_rfl)|(rw[aq (by decide+kernel)];exact⟨rfl,rfl⟩))
  (λa CC H enc _=>UZ a CC H enc)
theorem card_holds:Rows.PactEachCardSaid:=
 Claim7.holds_tied_plain_at .later [] [.data,.data,.data] true (true, "086b928f47d231635caf4f8ff867feb19b4533c406efe5bc03181d1784b74b6a") false
  GA (λ_ h=>by cases h) (by kernel_rfl) (λ_ h=>by cases h) pactEach_row_tie rfl ⟨rfl,rfl⟩ (by kernel_rfl) rfl
  (λf fn d b=>by
   obtain rfl:f=6:=kH ((show Tryz.prog.funcNamed "riposte/ripostelaw22.PactEach" =some 6 by kernel_rfl).symm.trans d)|>.symm
   obtain rfl:fn=Tryz.f6:=(kH (Tryz.func6.symm.trans b)).symm;exact⟨by kernel_rfl,λj t c=>by
    rw[Tryz.params6]at c;have a:=Array.mem_of_getElem? c;simp at a;rcases a with rfl|rfl
    .show Tryz.prog.wantsStandIn 34=false
     kernel_rfl
    show Tryz.prog.wantsStandIn 36=false
    kernel_rfl⟩)
  (by kernel_rfl)
end Go.Proofs.YtclepinjnoiakaaGreatDoor
