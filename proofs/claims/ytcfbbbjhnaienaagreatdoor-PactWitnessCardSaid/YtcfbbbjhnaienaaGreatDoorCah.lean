/- PactWitness returns true for every pact, strategy and side. Conditions: the statement's own alone. -/
import Derived.Test.YtcfbbbjhnaienaaGreatDoorCab
import Derived.Test.YtcfbbbjhnaienaaGreatDoorCac
import Derived.Test.YtcfbbbjhnaienaaGreatDoorCaf
import Derived.Test.YtcfbbbjhnaienaaGreatDoorCag
import Derived.Test.YtcfbbbjhnaienaaGreatDoorCards
import Derived.Test.YtcfbbbjhnaienaaGreatDoorTie
import Derived.ProofKit
import Derived.LaidMore
import Derived.OpenShut
import Derived.OpenVars
import Derived.Carry
import Derived.Stop.Joined
import Derived.SevenTiedAt
set_option linter.all false
set_option maxRecDepth 10000
noncomputable section
namespace Go.Proofs.YtcfbbbjhnaienaaGreatDoor.K
open Go Go.RowKit
theorem NM(P:Program)(f:Nat)(F:Hm.HF):Hm.pq P f {F with pu:=false}=Hm.pq P f F:=by unfold Hm.pq;rfl
theorem K6(f:Nat)(F:Hm.HF)(h:Hm.P.oi f=some F):Hm.pq Go.Proofs.Tryz.prog f F=true:=by
 unfold Hm.P.oi at h;cases a:Hm.U.prog f with
 |some G=>rw[a]at h;cases h;rw[NM];exact Hm.vl.get _ _ Hm.U.vL f G a
 |none=>rw[a]at h;exact Hm.vl.get _ _ Hm.P.vL f F h
theorem NN{P:Program}{L:Hm.jE}(F:Hm.ag5 P L)(j:{L with ve:=some 6}=Hm.S.LU){oi:Nat->Option Hm.HF}(k:P.follows .mixedOrders=true)(d:∀f F,Hm.U.prog f=some F->Hm.pq P f F=true)(a:∀f F,oi f=some F->Hm.pq P f F=true)
  {l:Nat}(h0:Hm.isTrue (Hm.run {L with ve:=none} oi l (.call 6 [] Hm.s0))=true){W:World}(m:Lib.TabIs P W "internal/strconv.uint64pow10" .u64 Lib.pow10Tab){t:Hm.S.Sx}(o:Hm.um t.x){u:Hm.S.Sx}(p:Hm.um u.x){b:Bool}{vs:List Value}
  (i:Hm.F5 W [.agg t.c,.agg u.c,.bool b] vs):Calls P 3 vs.toArray W λe q=>e=.returned (.bool true)/\Below W.heap.size W q:=by
 obtain⟨n,h⟩:=Hm.xZ (Hm.S.ahJ t u b o p Hm.s0) trivial;exact Hm.F4 F k d a h0 (by rw[j];exact h) m i
end Go.Proofs.YtcfbbbjhnaienaaGreatDoor.K
namespace Go.Proofs.YtcfbbbjhnaienaaGreatDoor
open Go.ChangeShapes Go.WideShapes Go.ChangeAt Go.WideMaps Go.WideElems Go.RowKit
open Go Go.Proofs.YtcfbbbjhnaienaaGreatDoor.K
theorem own:ownKnob Tryz.prog.godebug=none:=by kernel_rfl
theorem G9:laidOutB Tryz.prog=true:=by kernel_rfl
theorem mixed:Tryz.prog.follows .mixedOrders=true:=by kernel_rfl
section
open Hm Hm.S
variable{H:Type}{enc:TypeId×Value->H}{w:World}
theorem rI:gM enc Tryz.prog w 3 (λn:Int=>[.int .i64 n]) (λ_=>True):=AO Tryz.underlying3 (by kernel_rfl)
theorem rU:gM enc Tryz.prog w 5 (λn:Int=>[.int .u8 n]) (λ_=>True):=AO Tryz.underlying5 (by kernel_rfl)
theorem rB:gM enc Tryz.prog w 4 (λb:Bool=>[.bool b]) (λ_=>True):=F6 Tryz.underlying4 (by kernel_rfl)
theorem rBs:gM enc Tryz.prog w 24 Bs.c (λ_=>True):=
 (RF.reads (.cons Tryz.underlying24 (fa 1 rfl rfl (by kernel_rfl) rB) (.last Tryz.underlying24 (fa 1 rfl rfl (by kernel_rfl) rI) (by kernel_rfl)))).Oy (λb=>(b.cell,b.n)) (λ_=>rfl) (λp=>⟨p.1,p.2⟩) (λ_=>rfl) (λ_ _=>trivial)
theorem rTy:gM enc Tryz.prog w 59 Ty.c (λ_=>True):=
 (RF.reads (.cons Tryz.underlying59 (fa 1 rfl rfl (by kernel_rfl) (jU Tryz.underlying57 (by kernel_rfl) (rD (by kernel_rfl)) rBs)) (.last Tryz.underlying59 (fa 2 rfl rfl (by kernel_rfl) rBs) (by kernel_rfl)))).Oy (λb=>(b.ps,b.res)) (λ_=>rfl) (λp=>⟨p.1,p.2⟩) (λ_=>rfl) (λ_ _=>trivial)
theorem rAr:gM enc Tryz.prog w 26 Ar.c (λ_=>True):=
 (RF.reads (.cons Tryz.underlying26 (fa 1 rfl rfl (by kernel_rfl) (jU Tryz.underlying22 (by kernel_rfl) (rD (by kernel_rfl)) rTy)) (.cons Tryz.underlying26 (fa 2 rfl rfl (by kernel_rfl) rBs) (.last Tryz.underlying26 (fa 1 rfl rfl (by kernel_rfl) rB) (by kernel_rfl))))).Oy
  (λb=>(b.ids,b.root,b.jumps)) (λ_=>rfl) (λp=>⟨p.1,p.2.1,p.2.2⟩) (λ_=>rfl) (λ_ _=>trivial)
theorem rMv:gM enc Tryz.prog w 47 Mv.c (λ_=>True):=
 (RF.reads (.cons Tryz.underlying47 (fa 1 rfl rfl (by kernel_rfl) rI) (.cons Tryz.underlying47 (fa 1 rfl rfl (by kernel_rfl) rI) (.cons Tryz.underlying47 (fa 1 rfl rfl (by kernel_rfl) rU) (.last Tryz.underlying47 (fa 1 rfl rfl (by kernel_rfl) rI) (by kernel_rfl)))))).Oy
  (λb=>(b.id,b.arg,b.kind,b.n)) (λ_=>rfl) (λp=>⟨p.1,p.2.1,p.2.2.1,p.2.2.2⟩) (λ_=>rfl) (λ_ _=>trivial)
theorem rEi:gM enc Tryz.prog w 118 Ei.c (λ_=>True):=
 (RF.reads (.cons Tryz.underlying118 (fa 4 rfl rfl (by kernel_rfl) rMv) (.last Tryz.underlying118 (fa 1 rfl rfl (by kernel_rfl) rI) (by kernel_rfl)))).Oy (λb=>(b.m,b.to)) (λ_=>rfl) (λp=>⟨p.1,p.2⟩) (λ_=>rfl) (λ_ _=>trivial)
theorem agC:gM enc Tryz.prog w 95 zd (λl=>l.length<=70368744177664):=
 (jU Tryz.underlying95 (by kernel_rfl) (rD (by kernel_rfl)) rEi).Oy (λb=>b) (λ_=>rfl) (λb=>b) (λ_=>rfl) (λa h=>by
  have h:=h.2;rw[show Tryz.prog.bytesOf 118=40 by kernel_rfl]at h;unfold reachBytes at h;omega)
theorem rAx:gM enc Tryz.prog w 30 Ax.c um:=
 (RF.reads (.cons Tryz.underlying30 (fa 1 rfl rfl (by kernel_rfl) (jU Tryz.underlying27 (by kernel_rfl) (rD (by kernel_rfl)) agC)) (.last Tryz.underlying30 (fa 1 rfl rfl (by kernel_rfl) (jU Tryz.underlying28 (by kernel_rfl) (rD (by kernel_rfl)) rB)) (by kernel_rfl)))).Oy
  (λb=>(b.nx,b.fi)) (λ_=>rfl) (λp=>⟨p.1,p.2⟩) (λ_=>rfl) (λ_ h=>h.1.1)
theorem rSx:gM enc Tryz.prog w 32 Sx.c (λt=>um t.x):=
 (RF.reads (.cons Tryz.underlying32 (fa 4 rfl rfl (by kernel_rfl) rAr) (.last Tryz.underlying32 (fa 2 rfl rfl (by kernel_rfl) rAx) (by kernel_rfl)))).Oy (λb=>(b.a,b.x)) (λ_=>rfl) (λp=>⟨p.1,p.2⟩) (λ_=>rfl) (λ_ h=>h.2)
end
theorem NO{W:World}(h:laidMetH Tryz.prog Rows.pactWitnessRow.laid W):Lib.TabIs Tryz.prog W "internal/strconv.uint64pow10" .u64 Lib.pow10Tab:=by rw[MakeChecks.laidMetH_plain _ _ _ (by kernel_rfl)]at h;exact Hm.C5 (g:=0) (by kernel_rfl) (by kernel_rfl) Tryz.underlying303 Tryz.underlying293 (by kernel_rfl) (by kernel_rfl) h
theorem K7(os:Os)(args:Array Value):laidMetH Tryz.prog Rows.pactWitnessRow.laid ((World.doorLaid Tryz.prog 100000 os).forCall (λ_ _=>0) ⟨#[],args,[]⟩).memory:=
 laidMetH_of_parts3 (fuel:=8) (laidMet_of_run' 8 (by kernel_rfl) (by kernel_rfl)) (by kernel_rfl) (by kernel_rfl)
theorem agD{W:World}(d:Lib.TabIs Tryz.prog W "internal/strconv.uint64pow10" .u64 Lib.pow10Tab){t:Hm.S.Sx}(g:Hm.um t.x){u:Hm.S.Sx}(i:Hm.um u.x){b:Bool}{vs:List Value}
  (a:Hm.F5 W [.agg t.c,.agg u.c,.bool b] vs):Calls Tryz.prog 3 vs.toArray W λe j=>e=.returned (.bool true)/\Below W.heap.size W j:=
 NN Hm.Jj rfl mixed (λf F h=>Hm.vl.get _ _ Hm.U.vL f F h) K6 Hm.P.K5 d g i a
set_option maxRecDepth 100000 in
theorem TY(os:Os)(Cj:os.Started)(H:Type)(enc:TypeId×Value->H):
  ReturnsInHanded {} Tryz.checked os 3 .any (λw args=>(Rows.pactWitnessSpec.pre enc Tryz.prog Tryz.f3 [] false w args/\laidMetH Tryz.prog Rows.pactWitnessRow.laid w)/\sizedMet enc Tryz.prog Tryz.f3 (OpenSpec.ofChange Rows.pactWitnessSpec) false w args)
   (Rows.pactWitnessSpec.post enc Tryz.prog Tryz.f3 false true false false):=by
 refine returnsInHanded_of_change_and (C:=Tryz.checked) (X:=λw _=>laidMetH Tryz.prog Rows.pactWitnessRow.laid w) (λ_ _ _ y h=>h.of_heap y) own Cj (by kernel_rfl) Tryz.func3
  (ChangeSpec.witness_shaped (enc:=enc) (C:=Tryz.checked) (os:=os) (X:=λw _=>laidMetH Tryz.prog Rows.pactWitnessRow.laid w) false (World.doorLaid Tryz.prog 100000 os) #[.agg #[.slice none 0 0,.bool false,.int .i64 0,.bool false,.slice none 0 0,.slice none 0 0],.agg #[.slice none 0 0,.bool false,.int .i64 0,.bool false,.slice none 0 0,.slice none 0 0],.bool false] 8 rfl (World.shaped_of_RefB (by kernel_rfl) (by kernel_rfl)) (by kernel_rfl) (by kernel_rfl) (by kernel_rfl) (K7 os _)) ?_
 intro W Zm args z Y before a n _ o A _;have i:=n;obtain⟨p,q,f,B,rfl,D,E⟩:=n;have j:DataW.TrodAll enc Tryz.prog W 0 (λ_=>true) true Tryz.f3.params.toList args.toList z p:=f;have d:=a;rw[Tryz.params3]at j d o;obtain⟨t,u,b,F,G,k⟩:=Hm.ah5 j o d Tryz.underlying32 rSx Tryz.underlying32 rSx Tryz.underlying4;obtain⟨I,J,L,Z,d2,d3,M,N,O,l,rfl,rfl,r,s,v⟩:=trodAll_three j;obtain rfl:args= #[I,J,L]:=by cases args;simp_all
 obtain⟨rfl,rfl⟩:=trodVars_none B;have P:∀x∈M,x.block<W.heap.size:=by obtain⟨m,g⟩:=r;exact DataW.trod_lt m _ _ _ g
 have Q:∀x∈N,x.block<W.heap.size:=by obtain⟨m,g⟩:=s;exact DataW.trod_lt m _ _ _ g
 have T:∀x∈O,x.block<W.heap.size:=by obtain⟨m,g⟩:=v;exact DataW.trod_lt m _ _ _ g
 clear f a;refine(agD (NO A) F G k).mono λe W' ⟨V,c⟩=>?_
 subst V;exact⟨_,rfl,_,_,_,[],_,[],i,trodAll_mk1 (shut_bool Tryz.underlying4 _),trodAll_cons_mk (Below.trod G9 (by kernel_rfl) (rD (by kernel_rfl)) r c P) (trodAll_cons_mk (Below.trod G9 (by kernel_rfl) (rD (by kernel_rfl)) s c Q) (trodAll_cons_mk (Below.trod G9 (by kernel_rfl) (rD (by kernel_rfl)) v c T) trodAll_mk0)),rfl,c.frame _,λh=>by cases h⟩
theorem Gf:Rows.PactWitnessSaid:=
 OpenClaim.holds_of_wide 3 Tryz.f3 rfl rfl rfl rfl rfl rfl rfl ⟨rfl,rfl,rfl,rfl,rfl⟩ rfl rfl rfl rfl rfl (by kernel_rfl) Tryz.func3 (by kernel_rfl)
  (rD (by kernel_rfl)) (by unfold Func.isWrapper;first|(rw[au (by decide+kernel)];kernel_rfl)|(rw[ar (by decide+kernel)];exact⟨rfl,rfl⟩))
  (λa Cj H enc _=>TY a Cj H enc)
theorem card_holds:Rows.PactWitnessCardSaid:=
 Claim7.holds_tied_plain_at .later [] [.data,.data,.data] true (true, "cfe4eeb344b7fb82f01b661e541221df13ec907f97c1ea0ca0d97cc8e3e71132") false
  Gf (λ_ h=>by cases h) (by kernel_rfl) (λ_ h=>by cases h) pactWitness_row_tie rfl ⟨rfl,rfl⟩ (by kernel_rfl) rfl
  (λf fn d b=>by
   obtain rfl:f=3:=lr ((show Tryz.prog.funcNamed "riposte/ripostelaw22.PactWitness" =some 3 by kernel_rfl).symm.trans d)|>.symm
   obtain rfl:fn=Tryz.f3:=(lr (Tryz.func3.symm.trans b)).symm;exact⟨by kernel_rfl,λj t c=>by
    rw[Tryz.params3]at c;have a:=Array.mem_of_getElem? c;simp at a;rcases a with rfl|rfl
    .show Tryz.prog.wantsStandIn 32=false
     kernel_rfl
    show Tryz.prog.wantsStandIn 4=false
    kernel_rfl⟩)
  (by kernel_rfl)
end Go.Proofs.YtcfbbbjhnaienaaGreatDoor
