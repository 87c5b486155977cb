/- PactKept returns true for every pact and strategy. Conditions: the statement's own alone. -/
import Derived.Test.YtaijlkikejincaaGreatDoorCab
import Derived.Test.YtaijlkikejincaaGreatDoorCac
import Derived.Test.YtaijlkikejincaaGreatDoorCaf
import Derived.Test.YtaijlkikejincaaGreatDoorCag
import Derived.Test.YtaijlkikejincaaGreatDoorCards
import Derived.Test.YtaijlkikejincaaGreatDoorTie
import Derived.ProofKit
import Derived.LaidMore
import Derived.OpenShut
import Derived.OpenVars
import Derived.Carry
import Derived.Stop.Joined
import Derived.SevenTiedAt
set_option linter.all false
set_option maxRecDepth 10000
noncomputable section
namespace Go.Proofs.YtaijlkikejincaaGreatDoor.K
open Go Go.RowKit
theorem NM(P:Program)(f:Nat)(F:Hm.HF):Hm.pq P f {F with pu:=false}=Hm.pq P f F:=by unfold Hm.pq;rfl
theorem K6(f:Nat)(F:Hm.HF)(h:Hm.P.oi f=some F):Hm.pq Go.Proofs.Tryz.prog f F=true:=by
 unfold Hm.P.oi at h;cases a:Hm.U.prog f with
 |some G=>rw[a]at h;cases h;rw[NM];exact Hm.vl.get _ _ Hm.U.vL f G a
 |none=>rw[a]at h;exact Hm.vl.get _ _ Hm.P.vL f F h
theorem NN{P:Program}{L:Hm.jE}(F:Hm.px P L)(i:{L with ve:=some 6}=Hm.S.LU){oi:Nat->Option Hm.HF}(j:P.follows .mixedOrders=true)(b:∀f F,Hm.U.prog f=some F->Hm.pq P f F=true)(a:∀f F,oi f=some F->Hm.pq P f F=true)
  {k:Nat}(h0:Hm.isTrue (Hm.run {L with ve:=none} oi k (.call 6 [] Hm.s0))=true){W:World}(l:Lib.TabIs P W "internal/strconv.uint64pow10" .u64 Lib.pow10Tab){t:Hm.S.Sx}(m:Hm.um t.x){u:Hm.S.Sx}(o:Hm.um u.x){vs:List Value}
  (g:Hm.F5 W [.agg t.c,.agg u.c] vs):Calls P 3 vs.toArray W λe p=>e=.returned (.bool true)/\Below W.heap.size W p:=by
 obtain⟨n,h⟩:=Hm.xZ (Hm.S.K3 t u m o Hm.s0) trivial;exact Hm.F4 F j b a h0 (by rw[i];exact h) l g
end Go.Proofs.YtaijlkikejincaaGreatDoor.K
namespace Go.Proofs.YtaijlkikejincaaGreatDoor
open Go.ChangeShapes Go.WideShapes Go.ChangeAt Go.WideMaps Go.WideElems Go.RowKit
open Go Go.Proofs.YtaijlkikejincaaGreatDoor.K
theorem own:ownKnob Tryz.prog.godebug=none:=by kernel_rfl
theorem G9:laidOutB Tryz.prog=true:=by kernel_rfl
theorem mixed:Tryz.prog.follows .mixedOrders=true:=by kernel_rfl
section
open Hm Hm.S
variable{H:Type}{enc:TypeId×Value->H}{w:World}
theorem rI:gM enc Tryz.prog w 3 (λn:Int=>[.int .i64 n]) (λ_=>True):=AO Tryz.underlying3 (by kernel_rfl)
theorem rU:gM enc Tryz.prog w 5 (λn:Int=>[.int .u8 n]) (λ_=>True):=AO Tryz.underlying5 (by kernel_rfl)
theorem rB:gM enc Tryz.prog w 4 (λb:Bool=>[.bool b]) (λ_=>True):=F6 Tryz.underlying4 (by kernel_rfl)
theorem rBs:gM enc Tryz.prog w 24 Bs.c (λ_=>True):=
 (RF.reads (.cons Tryz.underlying24 (fa 1 rfl rfl (by kernel_rfl) rB) (.last Tryz.underlying24 (fa 1 rfl rfl (by kernel_rfl) rI) (by kernel_rfl)))).Oy (λb=>(b.cell,b.n)) (λ_=>rfl) (λp=>⟨p.1,p.2⟩) (λ_=>rfl) (λ_ _=>trivial)
theorem rTy:gM enc Tryz.prog w 46 Ty.c (λ_=>True):=
 (RF.reads (.cons Tryz.underlying46 (fa 1 rfl rfl (by kernel_rfl) (jU Tryz.underlying44 (by kernel_rfl) (rD (by kernel_rfl)) rBs)) (.last Tryz.underlying46 (fa 2 rfl rfl (by kernel_rfl) rBs) (by kernel_rfl)))).Oy (λb=>(b.ps,b.res)) (λ_=>rfl) (λp=>⟨p.1,p.2⟩) (λ_=>rfl) (λ_ _=>trivial)
theorem rAr:gM enc Tryz.prog w 26 Ar.c (λ_=>True):=
 (RF.reads (.cons Tryz.underlying26 (fa 1 rfl rfl (by kernel_rfl) (jU Tryz.underlying22 (by kernel_rfl) (rD (by kernel_rfl)) rTy)) (.cons Tryz.underlying26 (fa 2 rfl rfl (by kernel_rfl) rBs) (.last Tryz.underlying26 (fa 1 rfl rfl (by kernel_rfl) rB) (by kernel_rfl))))).Oy
  (λb=>(b.ids,b.root,b.jumps)) (λ_=>rfl) (λp=>⟨p.1,p.2.1,p.2.2⟩) (λ_=>rfl) (λ_ _=>trivial)
theorem rMv:gM enc Tryz.prog w 77 Mv.c (λ_=>True):=
 (RF.reads (.cons Tryz.underlying77 (fa 1 rfl rfl (by kernel_rfl) rI) (.cons Tryz.underlying77 (fa 1 rfl rfl (by kernel_rfl) rI) (.cons Tryz.underlying77 (fa 1 rfl rfl (by kernel_rfl) rU) (.last Tryz.underlying77 (fa 1 rfl rfl (by kernel_rfl) rI) (by kernel_rfl)))))).Oy
  (λb=>(b.id,b.arg,b.kind,b.n)) (λ_=>rfl) (λp=>⟨p.1,p.2.1,p.2.2.1,p.2.2.2⟩) (λ_=>rfl) (λ_ _=>trivial)
theorem rEi:gM enc Tryz.prog w 79 Ei.c (λ_=>True):=
 (RF.reads (.cons Tryz.underlying79 (fa 4 rfl rfl (by kernel_rfl) rMv) (.last Tryz.underlying79 (fa 1 rfl rfl (by kernel_rfl) rI) (by kernel_rfl)))).Oy (λb=>(b.m,b.to)) (λ_=>rfl) (λp=>⟨p.1,p.2⟩) (λ_=>rfl) (λ_ _=>trivial)
theorem agC:gM enc Tryz.prog w 75 zd (λl=>l.length<=70368744177664):=
 (jU Tryz.underlying75 (by kernel_rfl) (rD (by kernel_rfl)) rEi).Oy (λb=>b) (λ_=>rfl) (λb=>b) (λ_=>rfl) (λa h=>by
  have h:=h.2;rw[show Tryz.prog.bytesOf 79=40 by kernel_rfl]at h;unfold reachBytes at h;omega)
theorem rAx:gM enc Tryz.prog w 30 Ax.c um:=
 (RF.reads (.cons Tryz.underlying30 (fa 1 rfl rfl (by kernel_rfl) (jU Tryz.underlying27 (by kernel_rfl) (rD (by kernel_rfl)) agC)) (.last Tryz.underlying30 (fa 1 rfl rfl (by kernel_rfl) (jU Tryz.underlying28 (by kernel_rfl) (rD (by kernel_rfl)) rB)) (by kernel_rfl)))).Oy
  (λb=>(b.nx,b.fi)) (λ_=>rfl) (λp=>⟨p.1,p.2⟩) (λ_=>rfl) (λ_ h=>h.1.1)
theorem rSx:gM enc Tryz.prog w 32 Sx.c (λt=>um t.x):=
 (RF.reads (.cons Tryz.underlying32 (fa 4 rfl rfl (by kernel_rfl) rAr) (.last Tryz.underlying32 (fa 2 rfl rfl (by kernel_rfl) rAx) (by kernel_rfl)))).Oy (λb=>(b.a,b.x)) (λ_=>rfl) (λp=>⟨p.1,p.2⟩) (λ_=>rfl) (λ_ h=>h.2)
end
theorem NO{W:World}(h:laidMetH Tryz.prog Rows.pactKeptRow.laid W):Lib.TabIs Tryz.prog W "internal/strconv.uint64pow10" .u64 Lib.pow10Tab:=by rw[MakeChecks.laidMetH_plain _ _ _ (by kernel_rfl)]at h;exact Hm.C5 (g:=0) (by kernel_rfl) (by kernel_rfl) Tryz.underlying297 Tryz.underlying287 (by kernel_rfl) (by kernel_rfl) h
theorem K7(os:Os)(args:Array Value):laidMetH Tryz.prog Rows.pactKeptRow.laid ((World.doorLaid Tryz.prog 100000 os).forCall (λ_ _=>0) ⟨#[],args,[]⟩).memory:=
 laidMetH_of_parts3 (fuel:=8) (laidMet_of_run' 8 (by kernel_rfl) (by kernel_rfl)) (by kernel_rfl) (by kernel_rfl)
theorem agD{W:World}(b:Lib.TabIs Tryz.prog W "internal/strconv.uint64pow10" .u64 Lib.pow10Tab){t:Hm.S.Sx}(d:Hm.um t.x){u:Hm.S.Sx}(g:Hm.um u.x){vs:List Value}
  (a:Hm.F5 W [.agg t.c,.agg u.c] vs):Calls Tryz.prog 3 vs.toArray W λe i=>e=.returned (.bool true)/\Below W.heap.size W i:=
 NN Hm.Jj rfl mixed (λf F h=>Hm.vl.get _ _ Hm.U.vL f F h) K6 Hm.P.K5 b d g a
set_option maxRecDepth 100000 in
theorem TY(os:Os)(Cj:os.Started)(H:Type)(enc:TypeId×Value->H):
  ReturnsInHanded {} Tryz.checked os 3 .any (λw args=>(Rows.pactKeptSpec.pre enc Tryz.prog Tryz.f3 [] false w args/\laidMetH Tryz.prog Rows.pactKeptRow.laid w)/\sizedMet enc Tryz.prog Tryz.f3 (OpenSpec.ofChange Rows.pactKeptSpec) false w args)
   (Rows.pactKeptSpec.post enc Tryz.prog Tryz.f3 false true false false):=by
 refine returnsInHanded_of_change_and (C:=Tryz.checked) (X:=λw _=>laidMetH Tryz.prog Rows.pactKeptRow.laid w) (λ_ _ _ s h=>h.of_heap s) own Cj (by kernel_rfl) Tryz.func3
  (ChangeSpec.witness_shaped (enc:=enc) (C:=Tryz.checked) (os:=os) (X:=λw _=>laidMetH Tryz.prog Rows.pactKeptRow.laid w) false (World.doorLaid Tryz.prog 100000 os) #[.agg #[.slice none 0 0,.bool false,.int .i64 0,.bool false,.slice none 0 0,.slice none 0 0],.agg #[.slice none 0 0,.bool false,.int .i64 0,.bool false,.slice none 0 0,.slice none 0 0]] 8 rfl (World.shaped_of_RefB (by kernel_rfl) (by kernel_rfl)) (by kernel_rfl) (by kernel_rfl) (by kernel_rfl) (K7 os _)) ?_
 intro W Zm args v O before a l _ n y _;have f:=l;obtain⟨p,q,d,z,rfl,A,B⟩:=l;have g:DataW.TrodAll enc Tryz.prog W 0 (λ_=>true) true Tryz.f3.params.toList args.toList v p:=d;have b:=a;rw[Tryz.params3]at g b n;obtain⟨t,u,D,E,i⟩:=Hm.NL g n b Tryz.underlying32 rSx Tryz.underlying32 rSx;obtain⟨F,G,P,Q,I,J,j,rfl,rfl,o,r⟩:=trodAll_two g;obtain rfl:args= #[F,G]:=by cases args;simp_all
 obtain⟨rfl,rfl⟩:=trodVars_none z;have L:∀x∈I,x.block<W.heap.size:=by obtain⟨m,k⟩:=o;exact DataW.trod_lt m _ _ _ k
 have M:∀x∈J,x.block<W.heap.size:=by obtain⟨m,k⟩:=r;exact DataW.trod_lt m _ _ _ k
 clear d a;refine(agD (NO y) D E i).mono λe T ⟨N,c⟩=>?_
 subst N;exact⟨_,rfl,_,_,_,[],_,[],f,trodAll_mk1 (shut_bool Tryz.underlying4 _),trodAll_cons_mk (Below.trod G9 (by kernel_rfl) (rD (by kernel_rfl)) o c L) (trodAll_cons_mk (Below.trod G9 (by kernel_rfl) (rD (by kernel_rfl)) r c M) trodAll_mk0),rfl,c.frame _,λh=>by cases h⟩
theorem Gf:Rows.PactKeptSaid:=
 OpenClaim.holds_of_wide 3 Tryz.f3 rfl rfl rfl rfl rfl rfl rfl ⟨rfl,rfl,rfl,rfl,rfl⟩ rfl rfl rfl rfl rfl (by kernel_rfl) Tryz.func3 (by kernel_rfl)
  (rD (by kernel_rfl)) (by unfold Func.isWrapper;first|(rw[au (by decide+kernel)];kernel_rfl)|(rw[ar (by decide+kernel)];exact⟨rfl,rfl⟩))
  (λa Cj H enc _=>TY a Cj H enc)
theorem card_holds:Rows.PactKeptCardSaid:=
 Claim7.holds_tied_plain_at .later [] [.data,.data,.data] true (true, "7ab04b4460f5794a3f0b54c187b3c83b8e263f1219c38fbf337a555d58f189aa") false
  Gf (λ_ h=>by cases h) (by kernel_rfl) (λ_ h=>by cases h) pactKept_row_tie rfl ⟨rfl,rfl⟩ (by kernel_rfl) rfl
  (λf fn d b=>by
   obtain rfl:f=3:=lr ((show Tryz.prog.funcNamed "riposte/ripostelaw22.PactKept" =some 3 by kernel_rfl).symm.trans d)|>.symm
   obtain rfl:fn=Tryz.f3:=(lr (Tryz.func3.symm.trans b)).symm;exact⟨by kernel_rfl,λj t c=>by
    rw[Tryz.params3]at c;have a:=Array.mem_of_getElem? c;simp at a;subst a;show Tryz.prog.wantsStandIn 32=false
    kernel_rfl⟩)
  (by kernel_rfl)
end Go.Proofs.YtaijlkikejincaaGreatDoor
