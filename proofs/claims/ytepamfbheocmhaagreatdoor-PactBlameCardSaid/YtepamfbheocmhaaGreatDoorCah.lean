/- PactBlame returns true for every pact and word. Conditions: the statement's own alone. -/
import Derived.Test.YtepamfbheocmhaaGreatDoorCab
import Derived.Test.YtepamfbheocmhaaGreatDoorCac
import Derived.Test.YtepamfbheocmhaaGreatDoorCaf
import Derived.Test.YtepamfbheocmhaaGreatDoorCag
import Derived.Test.YtepamfbheocmhaaGreatDoorCards
import Derived.Test.YtepamfbheocmhaaGreatDoorTie
import Derived.ProofKit
import Derived.LaidMore
import Derived.OpenShut
import Derived.OpenVars
import Derived.Carry
import Derived.Stop.Joined
import Derived.SevenTiedAt
set_option linter.all false
set_option maxRecDepth 10000
noncomputable section
namespace Go.Proofs.YtepamfbheocmhaaGreatDoor.K
open Go Go.RowKit
theorem NM(P:Program)(f:Nat)(F:Hm.HF):Hm.oP P f {F with pu:=false}=Hm.oP P f F:=by unfold Hm.oP;rfl
theorem KV(f:Nat)(F:Hm.HF)(h:Hm.P.nZ f=some F):Hm.oP Go.Proofs.Tryz.prog f F=true:=by
 unfold Hm.P.nZ at h;cases a:Hm.U.prog f with
 |some G=>rw[a]at h;cases h;rw[NM];exact Hm.uA.get _ _ Hm.U.uW f G a
 |none=>rw[a]at h;exact Hm.uA.get _ _ Hm.P.uW f F h
theorem NN{P:Program}{L:Hm.jg}(F:Hm.oS P L)(i:{L with uI:=some 7}=Hm.S.LU){nZ:Nat->Option Hm.HF}(j:P.follows .mixedOrders=true)(b:∀f F,Hm.U.prog f=some F->Hm.oP P f F=true)(a:∀f F,nZ f=some F->Hm.oP P f F=true)
  {k:Nat}(h0:Hm.isTrue (Hm.run {L with uI:=none} nZ k (.call 7 [] Hm.s0))=true){W:World}(l:Lib.TabIs P W "internal/strconv.uint64pow10" .u64 Lib.pow10Tab){t:Hm.S.Sx}(o:Hm.BV t.x){m:List Hm.S.Mv}{vs:List Value}
  (g:Hm.Fv W [.agg t.c,.psl (m.map Hm.S.Mv.c)] vs):Calls P 3 vs.toArray W λe p=>e=.returned (.bool true)/\Below W.heap.size W p:=by
 obtain⟨n,h⟩:=Hm.w4 (Hm.S.H6 t o m Hm.s0) trivial;exact Hm.Fu F j b a h0 (by rw[i];exact h) l g
end Go.Proofs.YtepamfbheocmhaaGreatDoor.K
namespace Go.Proofs.YtepamfbheocmhaaGreatDoor
open Go.ChangeShapes Go.WideShapes Go.ChangeAt Go.WideMaps Go.WideElems Go.RowKit
open Go Go.Proofs.YtepamfbheocmhaaGreatDoor.K
theorem own:ownKnob Tryz.prog.godebug=none:=by kernel_rfl
theorem GQ:laidOutB Tryz.prog=true:=by kernel_rfl
theorem mixed:Tryz.prog.follows .mixedOrders=true:=by kernel_rfl
section
open Hm Hm.S
variable{H:Type}{enc:TypeId×Value->H}{w:World}
theorem rI:fU enc Tryz.prog w 3 (λn:Int=>[.int .i64 n]) (λ_=>True):=Ae Tryz.underlying3 (by kernel_rfl)
theorem rU:fU enc Tryz.prog w 5 (λn:Int=>[.int .u8 n]) (λ_=>True):=Ae Tryz.underlying5 (by kernel_rfl)
theorem rB:fU enc Tryz.prog w 4 (λb:Bool=>[.bool b]) (λ_=>True):=Fw Tryz.underlying4 (by kernel_rfl)
theorem rBs:fU enc Tryz.prog w 24 Bs.c (λ_=>True):=
 (RF.reads (.cons Tryz.underlying24 (fa 1 rfl rfl (by kernel_rfl) rB) (.last Tryz.underlying24 (fa 1 rfl rfl (by kernel_rfl) rI) (by kernel_rfl)))).NL (λb=>(b.cell,b.n)) (λ_=>rfl) (λp=>⟨p.1,p.2⟩) (λ_=>rfl) (λ_ _=>trivial)
theorem rTy:fU enc Tryz.prog w 109 Ty.c (λ_=>True):=
 (RF.reads (.cons Tryz.underlying109 (fa 1 rfl rfl (by kernel_rfl) (iy Tryz.underlying107 (by kernel_rfl) (ue (by kernel_rfl)) rBs)) (.last Tryz.underlying109 (fa 2 rfl rfl (by kernel_rfl) rBs) (by kernel_rfl)))).NL (λb=>(b.ps,b.res)) (λ_=>rfl) (λp=>⟨p.1,p.2⟩) (λ_=>rfl) (λ_ _=>trivial)
theorem rAr:fU enc Tryz.prog w 26 Ar.c (λ_=>True):=
 (RF.reads (.cons Tryz.underlying26 (fa 1 rfl rfl (by kernel_rfl) (iy Tryz.underlying22 (by kernel_rfl) (ue (by kernel_rfl)) rTy)) (.cons Tryz.underlying26 (fa 2 rfl rfl (by kernel_rfl) rBs) (.last Tryz.underlying26 (fa 1 rfl rfl (by kernel_rfl) rB) (by kernel_rfl))))).NL
  (λb=>(b.ids,b.root,b.jumps)) (λ_=>rfl) (λp=>⟨p.1,p.2.1,p.2.2⟩) (λ_=>rfl) (λ_ _=>trivial)
theorem rMv:fU enc Tryz.prog w 48 Mv.c (λ_=>True):=
 (RF.reads (.cons Tryz.underlying48 (fa 1 rfl rfl (by kernel_rfl) rI) (.cons Tryz.underlying48 (fa 1 rfl rfl (by kernel_rfl) rI) (.cons Tryz.underlying48 (fa 1 rfl rfl (by kernel_rfl) rU) (.last Tryz.underlying48 (fa 1 rfl rfl (by kernel_rfl) rI) (by kernel_rfl)))))).NL
  (λb=>(b.id,b.arg,b.kind,b.n)) (λ_=>rfl) (λp=>⟨p.1,p.2.1,p.2.2.1,p.2.2.2⟩) (λ_=>rfl) (λ_ _=>trivial)
theorem rEi:fU enc Tryz.prog w 119 Ei.c (λ_=>True):=
 (RF.reads (.cons Tryz.underlying119 (fa 4 rfl rfl (by kernel_rfl) rMv) (.last Tryz.underlying119 (fa 1 rfl rfl (by kernel_rfl) rI) (by kernel_rfl)))).NL (λb=>(b.m,b.to)) (λ_=>rfl) (λp=>⟨p.1,p.2⟩) (λ_=>rfl) (λ_ _=>trivial)
theorem aho:fU enc Tryz.prog w 92 yC (λl=>l.length<=70368744177664):=
 (iy Tryz.underlying92 (by kernel_rfl) (ue (by kernel_rfl)) rEi).NL (λb=>b) (λ_=>rfl) (λb=>b) (λ_=>rfl) (λa h=>by
  have h:=h.2;rw[show Tryz.prog.bytesOf 119=40 by kernel_rfl]at h;unfold reachBytes at h;omega)
theorem rAx:fU enc Tryz.prog w 30 Ax.c BV:=
 (RF.reads (.cons Tryz.underlying30 (fa 1 rfl rfl (by kernel_rfl) (iy Tryz.underlying27 (by kernel_rfl) (ue (by kernel_rfl)) aho)) (.last Tryz.underlying30 (fa 1 rfl rfl (by kernel_rfl) (iy Tryz.underlying28 (by kernel_rfl) (ue (by kernel_rfl)) rB)) (by kernel_rfl)))).NL
  (λb=>(b.nx,b.fi)) (λ_=>rfl) (λp=>⟨p.1,p.2⟩) (λ_=>rfl) (λ_ h=>h.1.1)
theorem rSx:fU enc Tryz.prog w 32 Sx.c (λt=>BV t.x):=
 (RF.reads (.cons Tryz.underlying32 (fa 4 rfl rfl (by kernel_rfl) rAr) (.last Tryz.underlying32 (fa 2 rfl rfl (by kernel_rfl) rAx) (by kernel_rfl)))).NL (λb=>(b.a,b.x)) (λ_=>rfl) (λp=>⟨p.1,p.2⟩) (λ_=>rfl) (λ_ h=>h.2)
theorem rWd:fU enc Tryz.prog w 34 (λl:bc=>[.psl (l.map Mv.c)]) (λ_=>True):=(iy Tryz.underlying34 (by kernel_rfl) (ue (by kernel_rfl)) rMv).NL (λb=>b) (λ_=>rfl) (λb=>b) (λ_=>rfl) (λ_ _=>trivial)
end
theorem NO{W:World}(h:laidMetH Tryz.prog Rows.pactBlameRow.laid W):Lib.TabIs Tryz.prog W "internal/strconv.uint64pow10" .u64 Lib.pow10Tab:=by rw[MakeChecks.laidMetH_plain _ _ _ (by kernel_rfl)]at h;exact Hm.CE (g:=0) (by kernel_rfl) (by kernel_rfl) Tryz.underlying314 Tryz.underlying304 (by kernel_rfl) (by kernel_rfl) h
theorem KW(os:Os)(args:Array Value):laidMetH Tryz.prog Rows.pactBlameRow.laid ((World.doorLaid Tryz.prog 100000 os).forCall (λ_ _=>0) ⟨#[],args,[]⟩).memory:=
 laidMetH_of_parts3 (fuel:=8) (laidMet_of_run' 8 (by kernel_rfl) (by kernel_rfl)) (by kernel_rfl) (by kernel_rfl)
theorem ahp{W:World}(b:Lib.TabIs Tryz.prog W "internal/strconv.uint64pow10" .u64 Lib.pow10Tab){t:Hm.S.Sx}(d:Hm.BV t.x){m:List Hm.S.Mv}{vs:List Value}
  (a:Hm.Fv W [.agg t.c,.psl (m.map Hm.S.Mv.c)] vs):Calls Tryz.prog 3 vs.toArray W λe g=>e=.returned (.bool true)/\Below W.heap.size W g:=
 NN Hm.I0 rfl mixed (λf F h=>Hm.uA.get _ _ Hm.U.uW f F h) KV Hm.P.KU b d a
set_option maxRecDepth 100000 in
theorem Um(os:Os)(BW:os.Started)(H:Type)(enc:TypeId×Value->H):
  ReturnsInHanded {} Tryz.checked os 3 .any (λw args=>(Rows.pactBlameSpec.pre enc Tryz.prog Tryz.f3 [] false w args/\laidMetH Tryz.prog Rows.pactBlameRow.laid w)/\sizedMet enc Tryz.prog Tryz.f3 (OpenSpec.ofChange Rows.pactBlameSpec) false w args)
   (Rows.pactBlameSpec.post enc Tryz.prog Tryz.f3 false true false false):=by
 refine returnsInHanded_of_change_and (C:=Tryz.checked) (X:=λw _=>laidMetH Tryz.prog Rows.pactBlameRow.laid w) (λ_ _ _ v h=>h.of_heap v) own BW (by kernel_rfl) Tryz.func3
  (ChangeSpec.witness_shaped (enc:=enc) (C:=Tryz.checked) (os:=os) (X:=λw _=>laidMetH Tryz.prog Rows.pactBlameRow.laid w) false (World.doorLaid Tryz.prog 100000 os) #[.agg #[.slice none 0 0,.bool false,.int .i64 0,.bool false,.slice none 0 0,.slice none 0 0],.slice none 0 0] 8 rfl (World.shaped_of_RefB (by kernel_rfl) (by kernel_rfl)) (by kernel_rfl) (by kernel_rfl) (by kernel_rfl) (KW os _)) ?_
 intro W T3 args y O before a o _ r z _;have g:=o;obtain⟨p,q,f,A,rfl,B,D⟩:=o;have i:DataW.TrodAll enc Tryz.prog W 0 (λ_=>true) true Tryz.f3.params.toList args.toList y p:=f;have b:=a;rw[Tryz.params3]at i b r;obtain⟨t,m,E,_,j⟩:=Hm.KT (cw:=λl:List Hm.S.Mv=>.psl (l.map Hm.S.Mv.c)) i r b Tryz.underlying32 rSx Tryz.underlying34 rWd;obtain⟨F,G,P,Q,I,J,k,rfl,rfl,s,u⟩:=trodAll_two i;obtain rfl:args= #[F,G]:=by cases args;simp_all
 obtain⟨rfl,rfl⟩:=trodVars_none A;have L:∀x∈I,x.block<W.heap.size:=by obtain⟨m,n⟩:=s;exact DataW.trod_lt m _ _ _ n
 have M:∀x∈J,x.block<W.heap.size:=by obtain⟨m,n⟩:=u;exact DataW.trod_lt m _ _ _ n
 clear f a;refine(ahp (NO z) E j).mono λe T ⟨N,d⟩=>?_
 subst N;exact⟨_,rfl,_,_,_,[],_,[],g,trodAll_mk1 (shut_bool Tryz.underlying4 _),trodAll_cons_mk (Below.trod GQ (by kernel_rfl) (ue (by kernel_rfl)) s d L) (trodAll_cons_mk (Below.trod GQ (by kernel_rfl) (ue (by kernel_rfl)) u d M) trodAll_mk0),rfl,d.frame _,λh=>by cases h⟩
theorem FF:Rows.PactBlameSaid:=
 OpenClaim.holds_of_wide 3 Tryz.f3 rfl rfl rfl rfl rfl rfl rfl ⟨rfl,rfl,rfl,rfl,rfl⟩ rfl rfl rfl rfl rfl (by kernel_rfl) Tryz.func3 (by kernel_rfl)
  (ue (by kernel_rfl)) (by unfold Func.isWrapper;first|(rw[ar (by decide+kernel)];kernel_rfl)|(rw[au (by decide+kernel)];exact⟨rfl,rfl⟩))
  (λa BW H enc _=>Um a BW H enc)
theorem card_holds:Rows.PactBlameCardSaid:=
 Claim7.holds_tied_plain_at .later [] [.data,.data,.data] true (true, "34501aea18b9e37ece933fb7dd3ce466438e642d6ffec88fbbc8f2bb83f2b70e") false
  FF (λ_ h=>by cases h) (by kernel_rfl) (λ_ h=>by cases h) pactBlame_row_tie rfl ⟨rfl,rfl⟩ (by kernel_rfl) rfl
  (λf fn d b=>by
   obtain rfl:f=3:=lz ((show Tryz.prog.funcNamed "riposte/ripostelaw22.PactBlame" =some 3 by kernel_rfl).symm.trans d)|>.symm
   obtain rfl:fn=Tryz.f3:=(lz (Tryz.func3.symm.trans b)).symm;exact⟨by kernel_rfl,λj t c=>by
    rw[Tryz.params3]at c;have a:=Array.mem_of_getElem? c;simp at a;rcases a with rfl|rfl
    .show Tryz.prog.wantsStandIn 32=false
     kernel_rfl
    show Tryz.prog.wantsStandIn 34=false
    kernel_rfl⟩)
  (by kernel_rfl)
end Go.Proofs.YtepamfbheocmhaaGreatDoor
