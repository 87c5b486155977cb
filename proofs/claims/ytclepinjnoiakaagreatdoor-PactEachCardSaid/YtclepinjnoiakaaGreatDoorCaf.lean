/- PactEach returns true, part 6. -/
import Derived.Test.YtclepinjnoiakaaGreatDoorCae
import Derived.Test.YtclepinjnoiakaaGreatDoorCad
import Derived.Test.YtclepinjnoiakaaGreatDoorCac
import Derived.Test.YtclepinjnoiakaaGreatDoorCab
import Derived.ReadAgain
import Derived.ChangeArms
import Derived.ChangeShapes
import GoSem.ClaimWide
import GoSem.ClaimJoined
import Derived.Test.YtclepinjnoiakaaGreatDoorProg
set_option linter.all false
open List renaming length_cons->aA,length_nil->aE,nil_append->bD,cons_append->bB,set_append_right->UC,set_cons_zero->aS,set_cons_succ->cb,sum_cons->Gj,sum_nil->UI
open Option renaming getD_some->iY
open Int renaming toNat_natCast->jy
set_option maxRecDepth 10000
noncomputable section
namespace Go.Proofs.YtclepinjnoiakaaGreatDoor.K.Hm.S
open Go
def rL(l:aP):ay:=l.flatMap zp
def oK(x:Mn):ay:=x.op.flatMap sM++Lw x.forced++Lw x.lost
abbrev O5:Kd:=⟨false,[1]⟩
section
variable{s:HS}{o:Ky}
def ahQ(h:ao s.h o=some (.mp [])):OQ O5 (some (.mp o)) (some (HV.bool false)) (some (HV.str [110])) s=.v .undef (s.aK o (.mp [(HV.bool false,HV.str [110])])):=by
 show(match ao s.h o with
   |some (.mp b)=>(match de O5 b (HV.bool false) 0 with
    |some (i,some _)=>da.v .undef (s.aK o (.mp (lJ b i (HV.str [110]))))
    |some (_,none)=>.v .undef (s.aK o (.mp (b++[(HV.bool false,HV.str [110])])))
    |none=>.bad)
   |_=>.bad)=_
 rw[h];rfl
def ahR(h:ao s.h o=some (.mp [(HV.bool false,HV.str [110])])):OQ O5 (some (.mp o)) (some (HV.bool true)) (some (HV.str [121])) s=.v .undef (s.aK o (.mp [(HV.bool false,HV.str [110]),(HV.bool true,HV.str [121])])):=by
 show(match ao s.h o with
   |some (.mp b)=>(match de O5 b (HV.bool true) 0 with
    |some (i,some _)=>da.v .undef (s.aK o (.mp (lJ b i (HV.str [121]))))
    |some (_,none)=>.v .undef (s.aK o (.mp (b++[(HV.bool true,HV.str [121])])))
    |none=>.bad)
   |_=>.bad)=_
 rw[h];rfl
def VV(h:ao s.h o=some (.mp [(HV.bool false,HV.str [110]),(HV.bool true,HV.str [121])]))(b:Bool):VO O5 (some (.mp o)) (some (HV.bool b)) (HV.str []) false s=.v (HV.str (Lw b)) s:=by
 show(match ao s.h o with
   |some (.mp d)=>(match de O5 d (HV.bool b) 0 with
    |some (_,some v)=>da.v v s
    |some (_,none)=>.v (HV.str []) s
    |none=>.bad)
   |_=>.bad)=_
 rw[h];cases b<;>rfl
end
def ahS{x:Mn}(hl:x.op.length<=400)(hS:∀m∈x.op,mvS m)(s:HS):R (.call 169 [.agg (oJ x)] s)=.val (.bN [.str (rL x.op),.str (oK x)]) s:=by
 refine afh ?_ rfl (by simp[oJ]);have h0:aI s0 (λ_=>none) [] []:=⟨dT.start (by simp),by simp,by simp⟩;have C:=((h0.cY [.dZ,.ai]).ty (av (some (211,2)) s0.nx s0.ty));simp only[aA,aE,bw,Nat.reduceAdd]at C;have Z:oq (HS.mk (av (some (.cells (cR [.dZ,.ai]) 0 2 s0.nx)) s0.nx s0.h) s0.nx.succ (av (some [s0.nx]) s0.nx s0.gr) (av (some (211,2)) s0.nx s0.ty)) s0.nx .dZ .ai:=⟨by simp only;rw[af,ar rfl],.inl rfl,λo a b c h=>by cases h⟩;generalize h4:HS.mk _ _ _ _=d at C Z;have O:=((((C.cY [.dZ,.ai]).ty (av (some (211,2)) d.nx d.ty)).push 1).push 1);simp only[aA,aE,bw,Nat.reduceAdd,bD,bB]at O;have D:=(C.bz 0 _ _ rfl).1.2.2;have h5:s0.nx≠d.nx:=λe=>by rw[e]at D;exact(gR _ D).elim
 have E:oq (HS.mk (av (some (.cells (cR [.dZ,.ai]) 0 2 d.nx)) d.nx d.h) d.nx.succ (av (some [d.nx]) d.nx d.gr) (av (some (211,2)) d.nx d.ty)) s0.nx .dZ .ai:=⟨by simp only;rw[af,aq (λe=>h5 e)];exact Z.ty,.inl rfl,λo a b c h=>by cases h⟩;have h1:oq (HS.mk (av (some (.cells (cR [.dZ,.ai]) 0 2 d.nx)) d.nx d.h) d.nx.succ (av (some [d.nx]) d.nx d.gr) (av (some (211,2)) d.nx d.ty)) d.nx .dZ .ai:=⟨by simp only;rw[af,ar rfl],.inl rfl,λo a b c h=>by cases h⟩;generalize h8:HS.mk _ _ _ _=Sb at O E h1;simp[U.Xs,oJ,h4,h8];generalize ho:bK R (.loop U.xS) _ _=o;obtain⟨e2,s2,c2,pA,vA,pB,vB,rfl,hL,hM,hA,hB,I⟩:=aab (v1:=.ax (oJ x)) hl hS (by simp[oJ]) O E h1 ⟨rfl,rfl⟩ ho;clear ho;have r:di (λ_=>False) s2 (((HS.mk (av (some (.mp [])) s2.nx s2.h) s2.nx.succ s2.gr s2.ty).aK s2.nx (.mp [(HV.bool false,HV.str [110])])).aK s2.nx (.mp [(HV.bool false,HV.str [110]),(HV.bool true,HV.str [121])])):=by
  have h9:=Ky.ba s2.nx;refine⟨by simp only[HS.aK];omega,rfl,λp hp _=>?_,λ_ _ _=>rfl⟩;have V:p≠s2.nx:=λe=>by rw[e]at hp;exact gR _ hp
  simp only[HS.aK];rw[af,aq V,af,aq V,af,aq V]
 have m1:OQ O5 (some (.mp s2.nx)) (some (.bool false)) (some (.str [110])) (HS.mk (av (some (.mp [])) s2.nx s2.h) s2.nx.succ s2.gr s2.ty)=.v .undef _:=ahQ (by simp only;rw[af,ar rfl]);have m2:OQ O5 (some (.mp s2.nx)) (some (.bool true)) (some (.str [121])) ((HS.mk (av (some (.mp [])) s2.nx s2.h) s2.nx.succ s2.gr s2.ty).aK s2.nx (.mp [(HV.bool false,HV.str [110])]))=.v .undef _:=ahR (by simp only[HS.aK];rw[af,ar rfl]);have z:ao (((HS.mk (av (some (.mp [])) s2.nx s2.h) s2.nx.succ s2.gr s2.ty).aK s2.nx (.mp [(HV.bool false,HV.str [110])])).aK s2.nx (.mp [(HV.bool false,HV.str [110]),(HV.bool true,HV.str [121])])).h s2.nx=some (.mp [(HV.bool false,HV.str [110]),(HV.bool true,HV.str [121])]):=by simp only[HS.aK];rw[af,ar rfl]
 have q:s2.nx.toNat<(((HS.mk (av (some (.mp [])) s2.nx s2.h) s2.nx.succ s2.gr s2.ty).aK s2.nx (.mp [(HV.bool false,HV.str [110])])).aK s2.nx (.mp [(HV.bool false,HV.str [110]),(HV.bool true,HV.str [121])])).nx.toNat:=by have h9:=Ky.ba s2.nx;simp only[HS.aK];omega
 generalize HS.aK _ _ _=s4 at m1 m2 r z q;generalize HS.aK _ _ _=s5 at m2 r z q;have u:=hM.frame r;have ha:oq s5 s0.nx pA vA:=⟨by rw[r.2.1];exact hA.ty,hA.pp,by rw[r.2.1];exact hA.tv⟩;have X:oq s5 d.nx pB vB:=⟨by rw[r.2.1];exact hB.ty,hB.pp,by rw[r.2.1];exact hB.tv⟩;have k2:=nw zq x.op;have k3:=nw zr x.op;have hb:∀n∈x.op.flatMap zp,n<256:=by
  intro n A;obtain⟨m,hm,A⟩:=uU.1 A;obtain⟨g1,g2,g3,g4,g5,g6⟩:=hS m hm;rcases cG.1 A with A|A
  .exact El (by omega) n A
  simp at A;omega
 have hd:∀n∈x.op.flatMap sM,n<256:=by intro n A;obtain⟨m,hm,A⟩:=uU.1 A;obtain⟨g1,g2,g3,g4,g5,g6⟩:=hS m hm;exact El (by omega) n A
 have hf:vA=.ai∨x.op.flatMap zp≠ []:=by cases hx:x.op with|nil=>exact .inl (I hx).1|cons m l=>exact .inr (by simp[zp])
 have hg:vB=.ai∨x.op.flatMap sM≠ []:=by cases hx:x.op with|nil=>exact .inl (I hx).2|cons m l=>exact .inr (by simp only[ni,sM,me];split<;>simp)
 obtain⟨s6,h6,f6⟩:=O4 (u.bz 1 _ _ rfl).1 (u.mem.own 0 _ _ _ rfl) ha hf (by omega) hb;have cB:=(u.bz 0 _ _ rfl);have h2:=cB.1.frame f6 (by rw[cB.2];simp);have h3:=(u.mem.own 1 _ _ _ rfl).frame f6 (λk hk h=>by rw[hk]at h;cases h);have hj:oq s6 d.nx pB vB:=⟨by rw[f6.2.1];exact X.ty,X.pp,by rw[f6.2.1];exact X.tv⟩;obtain⟨s7,h7,f7⟩:=O4 h2 h3 hj hg (by omega) hd;have Y:c2 s2.nx=none:=by cases h:c2 s2.nx with|none=>rfl|some i=>exact absurd (hM.mem.bd _ _ h) (gR _)
 have J:ao s7.h s2.nx=some (.mp [(HV.bool false,HV.str [110]),(HV.bool true,HV.str [121])]):=by rw[f7.2.2.1 _ (ej q f6.1) (by show¬c2 s2.nx=some 1;rw[Y];simp),f6.2.2.1 _ q (by show¬c2 s2.nx=some 0;rw[Y];simp)];exact z
 have M:ao s6.h s2.nx=some (.mp [(HV.bool false,HV.str [110]),(HV.bool true,HV.str [121])]):=by rw[f6.2.2.1 _ q (by show¬c2 s2.nx=some 0;rw[Y];simp)];exact z
 have hq:=VV J x.forced;have hr:=VV J x.lost;have hs:=VV M x.forced;have ht:=VV M x.lost;have hz:=VV z x.forced;have k0:=VV z x.lost;have hy:∀b,(Lw b).length=1:=by intro b;cases b<;>rfl
 have e1:∀s,n8 false .add (some (.str (x.op.flatMap sM))) (some (.str (Lw x.forced))) s=.v (.str (x.op.flatMap sM++Lw x.forced)) s:=λs=>pX (by rw[hy];omega)
 have k1:∀s,n8 false .add (some (.str (x.op.flatMap sM++Lw x.forced))) (some (.str (Lw x.lost))) s=.v (.str (x.op.flatMap sM++Lw x.forced++Lw x.lost)) s:=λs=>pX (by rw[cE,hy,hy];omega)
 simp only[ab,ae]at hL;simp only[oJ]at hL;simp[hL,m1,m2,h6,h7,hq,hr,hs,ht,hz,k0,e1,k1,aa,rL,oK]
def ou(s:HS)(v:HV)(sz:Nat)(F:cg)(au:aR):Prop:=
 Sz sz au/\(∀k,F k->k.toNat<s.nx.toNat)/\∃o t lo d n g b,v=.sl o d au.length sz/\ao s.h o=some (.cells t lo n g)/\lo<=d/\d+au.length*sz<=n/\(∀j,j<au.length*sz->fP t (d+j)=(aD au)[j]?)/\ao s.gr g=some (o::b)/\o ∉ b/\(∀m∈o::b,F m)/\F g
section
variable{s:HS}{v:HV}{sz:Nat}{F:cg}{au:aR}
def bY.toO(h:bY s v sz F au)(h0:v≠ .ai):ou s v sz F au:=by
 obtain⟨d,m,n⟩:=h;rcases n with⟨rfl,_⟩|⟨o,t,q,g,b,rfl,r,I,u,z,A,C,D⟩
 .exact(h0 rfl).elim
 exact⟨d,m,o,t,0,0,q,g,b,rfl,r,aY _,by omega,λj E=>by rw[bw];exact u j E,z,A,C,D⟩
def ou.frame{s':HS}{G:cg}(h:ou s v sz F au)(d:di G s s')(u:∀k,F k->¬G k):ou s' v sz F au:=by obtain⟨C,m,o,t,lo,n,D,g,b,rfl,E,I,q,J,M,O,z,r⟩:=h;have A:=z o dy;exact⟨C,λk V=>ej (m k V) d.1,o,t,lo,n,D,g,b,rfl,by rw[d.2.2.1 o (m o A) (u o A)];exact E,I,q,J,by rw[d.2.2.2 g (m g r) (u g r)];exact M,O,z,r⟩
def ou.iS(h:ou s v sz F au):iS v=true:=by obtain⟨m,n,o,t,lo,d,q,g,b,rfl,_⟩:=h;rfl
def ou.one(h:ou s v sz F au):cellsOf v=some [v]:=by obtain⟨m,n,o,t,lo,d,q,g,b,rfl,_⟩:=h;rfl
def ou.len{s1:HS}(h:ou s v sz F au):yr 0 (some v) s1=.v (.int .i64 (au.length:Int)) s1:=by obtain⟨m,n,o,t,lo,d,q,g,b,rfl,_⟩:=h;simp
def ou.head{r:ak}(h:ou s v sz F (r::au)):∃o bo,(∀k,FD (some v) (some (.int k 0)) sz s=.v (.ptr o bo) s)/\F o/\fU (ao s.h o) bo sz=some r:=by obtain⟨q,D,o,t,lo,bo,d,g,m,rfl,u,z,b,n,E,I,A,J⟩:=h;have C:r.length=sz:=q r dy;refine⟨o,bo,λk=>by simp,A o dy,?_⟩;rw[aA,jV]at b n;rw[u];show(if lo<=bo then if bo+sz<=d then nE t sz bo else none else none)=_;rw[ar z,ar (by omega),ry t r _ _ (λi d=>by rw[n i (by omega),dw,ek (by omega)]) C.symm]
def ou.tail{e:En}{r:ak}(h:ou s v sz F (r::au)):∃q,DI (some v) (λd=>fI e d (some (.k (.int .i64 1)))) (λd=>fI e d none) none sz s=.v q s/\ou s q sz F au:=by
 obtain⟨u,A,o,t,lo,b,C,g,m,rfl,D,X,n,z,E,I,J,M⟩:=h;have O:r.length=sz:=u r dy;rw[aA,jV]at n z;refine⟨.sl o (b+1*sz) ((r::au).length-1) sz,?_,λx V=>u x (dh _ V),A,o,t,lo,b+1*sz,C,g,m,rfl,D,by omega,by omega,λj Y=>?_,E,I,J,M⟩
 .rw[Ns];show bU (some 1) _ _=_;simp only[dO,aA,ID];rw[ar ⟨by omega,by omega⟩]
 rw[show b+1*sz+j=b+(sz+j) by omega,z (sz+j) (by omega),dw,gu (by omega),O,show sz+j-sz=j by omega]
def ou.append{bx:Nat}{new:aR}(h:ou s v sz F au)(Z:Sz sz new)(h0:new≠ [])(u:au.length+new.length<=bx):
    ∃v' s',mW sz bx none (some v) (some (.psl new)) s=.v v' s'/\ou s' v' sz (λk=>F k∨k=s.nx) (au++new)/\di F s s'/\s'.nx=s.nx.succ:=by
  have h3:new.length≠0:=by simpa using h0
  have h4:=Ky.ba s.nx;rw[mX h.iS h0 Z];obtain⟨hs,C,o,t,lo,b,D,g,d,rfl,hb,h5,hh,h6,hg,h7,n,J⟩:=h;rw[mL h3 hb hg];obtain⟨k1,k2⟩:=jZ d s.h 11;rw[show(12:Nat)=11+1 from rfl,ru];generalize hf:(eU s.h 11 d).1=E at k1;generalize hl:(eU s.h 11 d).2=I at k2;obtain⟨j1,j2⟩:=hH o (b+au.length*sz) (b+au.length*sz+aM (aD new)) I E;have q:=kO E o (b+au.length*sz) (b+au.length*sz+aM (aD new)) I;generalize hq:(bP E o (b+au.length*sz) (b+au.length*sz+aM (aD new)) I).1=M at j1 q;generalize hr:(bP E o (b+au.length*sz) (b+au.length*sz+aM (aD new)) I).2=A at j2 q;have r:∀m∈A,m∈d:=λm u=>k2 m (j2 m u)
  have ho:ao M o=some (.cells t lo D g):=by rw[j1 o (.inr rfl),k1 o h7,hb]
  have O:Nq s sz bx none o b au.length (aD new) new.length g (E,o::I)=.v (.sl s.nx b (au.length+new.length) sz) {h:=av (some (.cells (dq (aD new) (b+au.length*sz) t) b (b+au.length*sz+(aD new).length) g)) s.nx (av (some (.cells t lo (b+au.length*sz) g)) o M),nx:=s.nx.succ,gr:=av (some (s.nx::o::A)) g s.gr,ty:=s.ty}:=by
    show(match bP E o (b+au.length*sz) (b+au.length*sz+aM (aD new)) (o::I)with
        |(h',V)=>match ao h' o with
          |some (.cells t lo D _)=>
            bif jn o V&&Nat.ble lo b&&Nat.ble (b+au.length*sz) D&&Nat.ble (au.length+new.length) bx then
              da.v (.sl s.nx b (au.length+new.length) sz) {h:=av (some (.cells (dq (aD new) (b+au.length*sz) t) b (b+au.length*sz+aM (aD new)) g)) s.nx (av (some (.cells t lo (b+au.length*sz) g)) o h'),nx:=s.nx.succ,gr:=av (some (s.nx::V)) g s.gr,ty:=mf none o s}
            else .bad
          |_=>.bad)=_
    rw[q];show(match ao M o with
          |some (.cells t lo D _)=>
            bif jn o (o::A)&&Nat.ble lo b&&Nat.ble (b+au.length*sz) D&&Nat.ble (au.length+new.length) bx then
              da.v (.sl s.nx b (au.length+new.length) sz) {h:=av (some (.cells (dq (aD new) (b+au.length*sz) t) b (b+au.length*sz+aM (aD new)) g)) s.nx (av (some (.cells t lo (b+au.length*sz) g)) o M),nx:=s.nx.succ,gr:=av (some (s.nx::o::A)) g s.gr,ty:=mf none o s}
            else .bad
          |_=>.bad)=_
    rw[ho];show(bif jn o (o::A)&&Nat.ble lo b&&Nat.ble (b+au.length*sz) D&&Nat.ble (au.length+new.length) bx then
              da.v (.sl s.nx b (au.length+new.length) sz) {h:=av (some (.cells (dq (aD new) (b+au.length*sz) t) b (b+au.length*sz+aM (aD new)) g)) s.nx (av (some (.cells t lo (b+au.length*sz) g)) o M),nx:=s.nx.succ,gr:=av (some (s.nx::o::A)) g s.gr,ty:=mf none o s}
            else .bad)=_
    rw[show jn o (o::A)=true by simp[jn,(Ky.beq_iff o o).2 rfl],cj,cj,cj,cV h5,cV hh,cV u,cP];rfl
  have hle:(aD au).length=au.length*sz:=cQ hs;have h8:(aD new).length=new.length*sz:=cQ Z;refine⟨_,_,O,⟨Sz.append hs Z,λk hk=>?_,s.nx,_,b,b,_,g,o::A,by rw[cE],by rw[af,ar rfl],aY _,?_,λj hj=>?_,by rw[af,ar rfl],?_,λm u=>?_,.inl J⟩,⟨by simp only;omega,rfl,λp hp Y=>?_,λp hp Y=>?_⟩,rfl⟩
  . simp only
    rcases hk with hk|rfl
    . have:=C k hk;omega
    omega
  . rw[cE,h8,qW];omega
  . rw[cE,qW]at hj
    rw[fC,kN];by_cases h9:j<au.length*sz
    . rw[aq (by omega),h6 j h9,ek (by omega)]
    rw[ar (by omega),gu (by omega),hle,show b+j-(b+au.length*sz)=j-au.length*sz by omega]
  . intro z
    rcases bm.1 z with z|z
    . have:=C o (n o dy);rw[<-z]at this;omega
    have:=C _ (n _ (dh _ (r _ z)));omega
  . rcases bm.1 u with rfl|u
    . exact .inr rfl
    refine .inl (n m ?_);rcases bm.1 u with rfl|u
    . exact dy
    exact dh _ (r _ u)
  . have ha:p≠o:=λe=>by subst e;exact Y (n p dy)
    have X:p ∉ d:=λz=>Y (n p (dh _ z))
    have hd:p≠s.nx:=λe=>by subst e;omega
    simp only;rw[af,aq hd,af,aq ha,j1 p (.inl λz=>X (k2 p z)),k1 p X]
  simp only;rw[af,aq λe=>by subst e;exact Y J]
end
def aac(K:Kd)(m k:bV)(z:HV)(s:HS):da:=match m,k with
  |some (.mp o),some key=>bif qC K key then(match ao s.h o with
   |some (.mp b)=>(match de K b key 0 with
    |some (i,some v)=>.v (.bN [v,.int .i64 (.ofNat i)]) s
    |some (_,none)=>.v (.bN [z,.int .i64 (.ofNat (aM b))]) (s.aK o (.mp (b++[(key,z)])))
    |none=>.bad)
   |_=>.bad)else .bad
  |_,_=>.bad
def aad(m i v:bV)(s:HS):da:=match m,i,v with
  |some (.mp o),some (.int _ (.ofNat i)),some v=>(match ao s.h o with
   |some (.mp b)=>bif Nat.blt i (aM b)then .v .undef (s.aK o (.mp (lJ b i v)))else .bad
   |_=>.bad)
  |_,_,_=>.bad
@[simp]def aby{e:En}{s:HS}{K:Kd}{m k:X}{z:HV}:cO (.men K m k z) e s=aac K (bq m e) (bq k e) z s:=rfl
@[simp]def abz{e:En}{s:HS}{m i v:X}:cO (.mes m i v) e s=aad (bq m e) (bq i e) (bq v e) s:=rfl
section
variable{α:Type}[DecidableEq α]{f:α->HV}{K:Kd}
def gG(f:α->HV)(l:List (α×HV)):List (HV×HV):=l.map λp=>(f p.1,p.2)
def lkp(t:α):List (α×HV)->bV
 |[]=>none
 |(k,v)::r=>if t=k then some v else lkp t r
def Em(t:α):List (α×HV)->Nat
 |[]=>0
 |(k,_)::r=>if t=k then 0 else Em t r+1
def Eo(d:∀a b,qB K (f a) (f b)=some (decide (a=b)))(t:α):∀(l:List (α×HV)) (n:Nat),de K (gG f l) (f t) n=some (n+Em t l,lkp t l)
 |[],n=>rfl
 |(k,v)::r,n=>by
  show(match qB K (f t) (f k)with|some true=>some (n,some v)|some false=>de K (gG f r) (f t) (Nat.succ n)|none=>none)=_;rw[d];unfold lkp Em;by_cases h:t=k
  .rw[cV h,ar h,ar h];rfl
  rw[cu h,aq h,aq h];simp only[Eo d t r (Nat.succ n)];rw[show n.succ+Em t r=n+(Em t r+1) by omega]
def zs{t:α}:∀{l:List (α×HV)},lkp t l=none↔t ∉ l.map Prod.fst
 |[]=>by simp[lkp]
 |(k,v)::r=>by
  unfold lkp;by_cases h:t=k
  .simp[h]
  simp[h,zs (l:=r)]
def wy{t:α}{v:HV}:∀{l:List (α×HV)},lkp t l=some v->(t,v)∈l
 |[]=>by simp[lkp]
 |(k,w)::r=>by
  unfold lkp;by_cases h:t=k
  .subst h;simp;intro h;exact .inl h.symm
  rw[aq h];intro h;exact dh _ (wy h)
def zt{t:α}{v:HV}:∀{l:List (α×HV)},lkp t l=some v->l[Em t l]?=some (t,v)
 |[]=>by simp[lkp]
 |(k,w)::r=>by
  unfold lkp Em;by_cases h:t=k
  .subst h;simp
  rw[aq h,aq h];intro h;simpa using zt h
omit [DecidableEq α]in
def zu(v:HV):∀(l:List (α×HV)) (i:Nat) (k:α) (w:HV),l[i]?=some (k,w)->lJ (gG f l) i v=gG f (l.set i (k,v))
 |[],i,k,w=>by simp
 |(b,d)::r,0,k,w=>by intro h;simp at h;obtain⟨rfl,rfl⟩:=h;rfl
 |(b,d)::r,i+1,k,w=>by intro h;simp at h;show(f b,d)::lJ (gG f r) i v=_;rw[zu v r i k w h];rfl
variable{s:HS}{o:Ky}{l:List (α×HV)}
def N4(d:∀a b,qB K (f a) (f b)=some (decide (a=b)))(m:∀a,qC K (f a)=true)(h:ao s.h o=some (.mp (gG f l)))(t:α)(z:HV):
  VO K (some (.mp o)) (some (f t)) z true s=.v (.bN [(lkp t l).getD z,.bool (lkp t l).isSome]) s:=by
 show(bif qC K (f t)then(match ao s.h o with
   |some (.mp n)=>(match de K n (f t) 0 with
    |some (_,some v)=>da.v (.bN [v,.bool true]) s
    |some (_,none)=>.v (.bN [z,.bool false]) s
    |none=>.bad)
   |_=>.bad)else .bad)=_
 rw[m,h];simp only[Eo d,cond_true];cases lkp t l<;>rfl
def aae(d:∀a b,qB K (f a) (f b)=some (decide (a=b)))(m:∀a,qC K (f a)=true)(h:ao s.h o=some (.mp (gG f l)))(t:α)(z:HV):
  VO K (some (.mp o)) (some (f t)) z false s=.v ((lkp t l).getD z) s:=by
 show(bif qC K (f t)then(match ao s.h o with
   |some (.mp n)=>(match de K n (f t) 0 with
    |some (_,some v)=>da.v v s
    |some (_,none)=>.v z s
    |none=>.bad)
   |_=>.bad)else .bad)=_
 rw[m,h];simp only[Eo d,cond_true];cases lkp t l<;>rfl
def ny(t:α)(v:HV)(l:List (α×HV)):List (α×HV):=match lkp t l with|some _=>l.set (Em t l) (t,v)|none=>l++[(t,v)]
def muV(d:∀a b,qB K (f a) (f b)=some (decide (a=b)))(m:∀a,qC K (f a)=true)(h:ao s.h o=some (.mp (gG f l)))(t:α)(v:HV):
  OQ K (some (.mp o)) (some (f t)) (some v) s=.v .undef (s.aK o (.mp (gG f (ny t v l)))):=by
 show(bif qC K (f t)then(match ao s.h o with
   |some (.mp n)=>(match de K n (f t) 0 with
    |some (i,some _)=>da.v .undef (s.aK o (.mp (lJ n i v)))
    |some (_,none)=>.v .undef (s.aK o (.mp (n++[(f t,v)])))
    |none=>.bad)
   |_=>.bad)else .bad)=_
 rw[m,h];simp only[Eo d,cond_true];unfold ny;cases q:lkp t l with|none=>simp[gG]|some w=>simp only;rw[zu v l _ t w (by rw[bw];exact zt q),bw]
def aaf(d:∀a b,qB K (f a) (f b)=some (decide (a=b)))(m:∀a,qC K (f a)=true)(h:ao s.h o=some (.mp (gG f l)))(t:α)(z:HV):
  aac K (some (.mp o)) (some (f t)) z s=match lkp t l with
   |some v=>.v (.bN [v,iV (Em t l)]) s
   |none=>.v (.bN [z,iV l.length]) (s.aK o (.mp (gG f (l++[(t,z)])))):=by
 show(bif qC K (f t)then(match ao s.h o with
   |some (.mp n)=>(match de K n (f t) 0 with
    |some (i,some v)=>da.v (.bN [v,.int .i64 (.ofNat i)]) s
    |some (_,none)=>.v (.bN [z,.int .i64 (.ofNat (aM n))]) (s.aK o (.mp (n++[(f t,z)])))
    |none=>.bad)
   |_=>.bad)else .bad)=_
 rw[m,h];simp only[Eo d,cond_true];cases q:lkp t l with|none=>simp[gG,cP,iV]|some w=>simp[iV]
omit [DecidableEq α]in
def aag(h:ao s.h o=some (.mp (gG f l))){i:Nat}{t:α}{w:HV}(d:l[i]?=some (t,w))(v:HV):
  aad (some (.mp o)) (some (iV i)) (some v) s=.v .undef (s.aK o (.mp (gG f (l.set i (t,v))))):=by
 have b:=(aV.1 d).1;show(match ao s.h o with
   |some (.mp m)=>bif Nat.blt i (aM m)then da.v .undef (s.aK o (.mp (lJ m i v)))else .bad
   |_=>.bad)=_
 rw[h];simp only;rw[cP,show Nat.blt i (gG f l).length=true from cp.2 (by simpa[gG]using b),zu v l i t w d];rfl
end
abbrev IZ:Kd:=⟨true,[0,2]⟩
def kQ(p:Int×List Nat):HV:=.agg [iV p.1,.str p.2]
def ov(p:Int×List Nat):qC IZ (kQ p)=true:=rfl
def lH(a b:Int×List Nat):qB IZ (kQ a) (kQ b)=some (decide (a=b)):=by unfold kQ;rw[so _ _ _ rfl rfl,dQ _ _ _ _ _ _ (fm ..) (dQ _ _ _ _ _ _ (Np ..) sn)];obtain⟨_,_⟩:=a;obtain⟨_,_⟩:=b;simp[Kq]
section
variable{s s':HS}{aw:bc}{L:cS}{K:dV}{F G:cg}{v:HV}{au:aR}{Q:List (Ky×List (HV×HV))}
def aI.Gl(h:aI s aw L K)(d:di G s s')(n:∀k i,aw k=some i->¬G k)(q:∀(a:Nat) o c,K[a]?=some (o,c)->¬G o):aI s' aw L K:=
 ⟨⟨λk i b=>ej (h.mem.bd k i b) d.1,h.mem.top,λi v sz au r=>(h.mem.own i v sz au r).frame d (λk b=>n k i b)⟩,λa o c m=>⟨(h.bz a o c m).1.frame d (q a o c m),(h.bz a o c m).2⟩,h.nd⟩
structure cA(s:HS)(F:cg)(v:HV)(au:aR)(aw:bc)(L:cS)(K:dV)(Q:List (Ky×List (HV×HV))):Prop where
 k:aI s aw L K
 q:ou s v 2 F au
 fc:∀p,F p->aw p=none
 fk:∀(a:Nat) o c,K[a]?=some (o,c)->¬F o
 mp:∀(a:Nat) o es,Q[a]?=some (o,es)->ao s.h o=some (.mp es)/\o.toNat<s.nx.toNat/\aw o=none/\¬F o
 nd:∀(a b:Nat) o es LP,Q[a]?=some (o,es)->Q[b]?=some (o,LP)->a=b
def cA.ne(h:cA s F v au aw L K Q){a b:Nat}{o p:Ky}{c:ak}{es:List (HV×HV)}(m:K[a]?=some (p,c))(n:Q[b]?=some (o,es)):o≠p:=by intro e;subst e;have d:=(h.k.bz a o c m).1.1;rw[(h.mp b o es n).1]at d;cases d
def cA.frame(h:cA s F v au aw L K Q)(b:di (λ_=>False) s s'):cA s' F v au aw L K Q:=
 ⟨h.k.frame b,h.q.frame b (λ_ _ h=>h),h.fc,h.fk,λa o m n=>by
  obtain⟨r,d,u,z⟩:=h.mp a o m n;exact⟨by rw[b.2.2.1 o d (λh=>h)];exact r,ej d b.1,u,z⟩,h.nd⟩
def cA.cY(h:cA s F v au aw L K Q)(c:ak):cA {h:=av (some (.cells (cR c) 0 c.length s.nx)) s.nx s.h,nx:=s.nx.succ,gr:=av (some [s.nx]) s.nx s.gr,ty:=s.ty} F v au aw L ((s.nx,c)::K) Q:=by have m:=h.k.cY c;have d:=di.alloc (s:=s) (.cells (cR c) 0 c.length s.nx) [s.nx];refine⟨m,(h.frame d).q,h.fc,λa o c' b=>?_,(h.frame d).mp,h.nd⟩;cases a with|zero=>simp at b;obtain⟨rfl,_⟩:=b;exact λn=>gR _ (h.q.2.1 _ n)|succ a=>exact h.fk a o c' b
def cA.tail(h:cA s F v au aw L K Q){n:Nat}:cA s F v au aw L (K.drop n) Q:=
 ⟨⟨h.k.mem,λa o c m=>h.k.bz (n+a) o c (by rwa[mH]at m),λa b o c d m r=>by
  have:=h.k.nd (n+a) (n+b) o c d (by rwa[mH]at m) (by rwa[mH]at r);omega⟩,h.q,h.fc,λa o c m=>h.fk (n+a) o c (by rwa[mH]at m),h.mp,h.nd⟩
def cA.cell(h:cA s F v au aw L K Q){a:Nat}{o:Ky}{c c':ak}(n:K[a]?=some (o,c))(z:gD s' o c')(r:di (λp=>p=o) s s'):cA s' F v au aw L (K.set a (o,c')) Q:=by
 refine⟨h.k.cell n z r,h.q.frame r (λk A e=>h.fk a o c n (by rw[<-e];exact A)),h.fc,λb p d m=>?_,λb p C m=>?_,h.nd⟩
 .rw[gS]at m
  split at m
  .split at m
   .simp at m;obtain⟨rfl,_⟩:=m;exact h.fk a _ c n
   cases m
  exact h.fk b p d m
 obtain⟨D,u,E,I⟩:=h.mp b p C m;exact⟨by rw[r.2.2.1 p u (h.ne n m)];exact D,ej u r.1,E,I⟩
def cA.put(h:cA s F v au aw L K Q){a:Nat}{o:Ky}{c new:ak}(b:K[a]?=some (o,c)){x:HV}(d:cellsOf x=some new)(m:new.length=c.length):∃s',qj c.length (some (.ptr o 0)) (some x) s=.v .undef s'/\cA s' F v au aw L (K.set a (o,new)) Q:=by obtain⟨s',n,q,r,_⟩:=(h.k.bz a o c b).1.put d m;exact⟨s',n,h.cell b q r⟩
def cA.y6(h:cA s F v au aw L K Q){a:Nat}{o:Ky}{c:ak}(b:K[a]?=some (o,c))(k:Nat)(d:k<c.length){x:HV}(m:cellsOf x=some [x]):∃s',qj 1 (some (.ptr o k)) (some x) s=.v .undef s'/\cA s' F v au aw L (K.set a (o,c.set k x)) Q:=by obtain⟨s',n,q,r,_⟩:=(h.k.bz a o c b).1.set k d x m;exact⟨s',n,h.cell b q r⟩
def cA.Lx(h:cA s F v au aw L K Q){b:Nat}{o:Ky}{es:List (HV×HV)}(A:Q[b]?=some (o,es))(m:List (HV×HV)):cA (s.aK o (.mp m)) F v au aw L K (Q.set b (o,m)):=by
 obtain⟨g1,X,J,M⟩:=h.mp b o es A;have O:di (λp=>p=o) s (s.aK o (.mp m)):=⟨aY _,rfl,λp _ Y=>by simp only[HS.aK];rw[af,aq Y],λ_ _ _=>rfl⟩;have Z:=(aV.1 A).1;refine⟨h.k.Gl O (λk i C e=>by rw[e,J]at C;cases C) (λa p c z e=>h.ne z A e.symm),h.q.frame O (λk C e=>M (by rw[<-e];exact C)),h.fc,h.fk,λa p n z=>?_,λa V p d n r D=>?_⟩
 .rw[gS]at z
  split at z
  .rename_i u
   try rw[ar (by omega)]at z
   cases z;exact⟨by simp only[HS.aK];rw[af,ar rfl],X,J,M⟩
  rename_i u;obtain⟨k1,k2,k3,k4⟩:=h.mp a p n z;have E:p≠o:=λe=>by subst e;exact u (h.nd b a p es n A z)
  exact⟨by simp only[HS.aK];rw[af,aq E];exact k1,k2,k3,k4⟩
 have key:∀(a:Nat) d,(Q.set b (o,m))[a]?=some (p,d)->∃I,Q[a]?=some (p,I):=by
  intro a d r;rw[gS]at r
  split at r
  .rename_i u
   try rw[ar (by omega)]at r
   cases r;exact⟨es,by rw[<-u];exact A⟩
  exact⟨d,r⟩
 obtain⟨_,r⟩:=key a d r;obtain⟨_,D⟩:=key V n D;exact h.nd a V p _ _ r D
def cA.ahT(h:cA s F v au aw L K Q){new:aR}(C:Sz 2 new)(h0:new≠ []){bx:Nat}(D:au.length+new.length<=bx):
  ∃d s',mW 2 bx none (some v) (some (.psl new)) s=.v d s'/\cA s' (λk=>F k∨k=s.nx) d (au++new) aw L K Q:=by
 obtain⟨d,s',E,I,n,X⟩:=h.q.append C h0 D;refine⟨d,s',E,h.k.Gl n (λk i z b=>by rw[h.fc k b]at z;cases z) h.fk,I,λp r=>?_,λa o c m b=>?_,λa o J m=>?_,h.nd⟩
 .rcases r with r|rfl
  .exact h.fc p r
  cases M:aw s.nx with|none=>rfl|some i=>exact absurd (h.k.mem.bd _ _ M) (gR _)
 .rcases b with b|rfl
  .exact h.fk a o c m b
  exact gR _ (h.k.bz a _ c m).1.2.2
 obtain⟨O,u,V,A⟩:=h.mp a o J m;refine⟨by rw[n.2.2.1 o u A];exact O,ej u n.1,V,λb=>?_⟩;rcases b with b|rfl
 .exact A b
 exact gR _ u
def cA.aah{e:En}{r:ak}(h:cA s F v (r::au) aw L K Q):∃b,DI (some v) (λd=>fI e d (some (.k (.int .i64 1)))) (λd=>fI e d none) none 2 s=.v b s/\cA s F b au aw L K Q:=by obtain⟨b,m,n⟩:=h.q.tail (e:=e);exact⟨b,m,h.k,n,h.fc,h.fk,h.mp,h.nd⟩
def cA.push(h:cA s F v au aw L K Q)(sz:Nat):cA s F v au aw (L++[(.ai,sz,[])]) K Q:=⟨h.k.push sz,h.q,h.fc,h.fk,h.mp,h.nd⟩
def cA.aai(h:cA s F v au aw L K Q)(i:Nat){w:HV}{sz:Nat}{es:aR}(D:L[i]?=some (w,sz,es)){new:aR}(E:Sz sz new)(h0:new≠ []){bx:Nat}(I:es.length+new.length<=bx):
  ∃w' s' b,mW sz bx none (some w) (some (.psl new)) s=.v w' s'/\cellsOf w'=some [w']/\cA s' F v au b (L.set i (w',sz,es++new)) K Q:=by
 obtain⟨J,s',M,O,V,d⟩:=h.k.mem.wj i D E h0 I;refine⟨J,s',_,M,O,⟨V,λa p c m=>?_,h.k.nd⟩,h.q.frame d (λk X e=>by rw[h.fc k X]at e;cases e),λp r=>?_,h.fk,λa o n m=>?_,h.nd⟩
 .obtain⟨u,z⟩:=h.k.bz a p c m;have Y:=u.2.2;exact⟨u.frame d (by rw[z];simp),by rw[aq λe=>by subst e;omega];exact z⟩
 .have:=h.q.2.1 p r;rw[aq λe=>by subst e;omega];exact h.fc p r
 obtain⟨Z,A,C,k4⟩:=h.mp a o n m;exact⟨by rw[d.2.2.1 o A (by show¬aw o=some i;rw[C];simp)];exact Z,ej A d.1,by rw[aq λe=>by subst e;omega];exact C,k4⟩
end
structure UA(a:Ar)(x:Fa)(S:Sn->Prop):Prop where
 st:S CI
 pl:∀y,S y->y.st<x.nx.length
 fin:∀y,S y->x.fi.getD y.st false=true->y.mn.over=true
 can:∀y,S y->∀e∈gl x y.st,jq a y.mn e.m=true
 UB:∀y,S y->∀e∈gl x y.st,S ⟨e.to,hZ y.mn e.m⟩
 shp:∀y z,S y->S z->y.st=z.st->rL y.mn.op=rL z.mn.op
 len:∀y,S y->y.mn.op.length+1<=x.nx.length
 sm:∀y,S y->∀m∈y.mn.op,mvS m
 bg:∀y,S y->y.mn.begun=false->y=CI
def sN(b:Sn):∀(es:bA) (l:j8) (y:Sn),y∈l->y∈j9 b l es
 |[],l,y,h=>h
 |e::es,l,y,h=>by
  show y∈j9 b (zg l b e) es;refine sN b es _ y ?_;unfold zg
  split
  .exact h
  exact Bv _ h
def Ep(b:Sn):∀(es:bA) (l:j8) (e:Eg),e∈es->(⟨e.to,hZ b.mn e.m⟩:Sn)∈j9 b l es
 |d::es,l,e,h=>by
  show _∈j9 b (zg l b d) es;rcases bm.1 h with rfl|h
  .refine sN b es _ _ ?_;unfold zg
   split
   .rename_i n;obtain⟨y,q,r⟩:=mO.1 n;rw[<-of_decide_eq_true r];exact q
   simp
  exact Ep b es _ e h
def Ly(b:Sn)(es:bA):∀(l:j8),l<+:j9 b l es:=by
 induction es with
 |nil=>intro l;exact uh l
 |cons e es d=>
  intro l;show l<+:j9 b (zg l b e) es;refine KP ?_ (d _);unfold zg
  split
  .exact uh l
  exact yV l _
structure LgJ(x:Fa)(i:Nat)(g:Lg):Prop where
 s0:CI∈g.l
 UB:∀z∈g.l.take i,∀e∈gl x z.st,(⟨e.to,hZ z.mn e.m⟩:Sn)∈g.l
 fin:∀z∈g.l.take i,z.st<x.nx.length->x.fi.getD z.st false=true->z.mn.over=true
def LgJ.run{a:Ar}{x:Fa}:∀(i:Nat) {g:Lg},fJ a x i=some g->LgJ x i g
 |0,g,r=>by cases r;exact⟨by simp[CI],by simp,by simp⟩
 |i+1,Y,r=>by
  rw[fJ]at r;cases h:fJ a x i with
  |none=>rw[h]at r;cases r
  |some g=>
   rw[h]at r;have u:=LgJ.run i h;have q:qP a x g i=some Y:=r;unfold qP at q
   split at q
   .rename_i Z;have I:=kH q;subst I;have hlen:=F5.1 Z;have E:g.l.take (i+1)=g.l.take i:=by rw[iZ (by omega),iZ hlen]
    exact⟨u.s0,by rw[E];exact u.UB,by rw[E];exact u.fin⟩
   rename_i b C
   split at q
   .cases q
   rename_i d
   split at q
   .cases q;obtain⟨J,D⟩:=aV.1 C;obtain⟨t,E⟩:=Ly b (x.nx.getD b.st []) g.l;have n:(j9 b g.l (x.nx.getD b.st [])).take (i+1)=g.l.take i++[b]:=by rw[<-E,GX (by omega),eW J,D]
    refine⟨sN b _ _ _ u.s0,λz m e M=>?_,λz m V A=>?_⟩
    .simp only at m;rw[n]at m;rcases cG.1 m with m|m
     .exact sN b _ _ _ (u.UB z m e M)
     rw[dE.1 m]at M ⊢;exact Ep b _ _ e M
    simp only at m;rw[n]at m;rcases cG.1 m with m|m
    .exact u.fin z m V A
    rw[dE.1 m]at V A ⊢;unfold Ee at d;rw[A]at d;cases O:b.mn.over with
    |true=>rfl
    |false=>
     rw[O]at d;simp at d;obtain⟨h1,X⟩:=d.2;have:b.st=0:=by omega
     rw[this]at A;rw[<-List.getD_eq_getElem?_getD]at X;rw[X]at A;cases A
   cases q
def CB:∀l:aP,rL l=(oi l).flatMap λp=>me (64*p.1+p.2+1).toNat++[32]
 |[]=>rfl
 |m::l=>by have:=CB l;unfold rL oi at this ⊢;rw[ni,cL,ni,this];rfl
def zv{a:Ar}(n:aB a=0){m:Mv}(h:eO a m=true):m.id<=8/\m.arg<=5:=by
 obtain⟨b,e,d⟩:=lB h;have z:a.ids.length<=8/\∀t∈a.ids,t.ps.length<=5:=by
  unfold aB at n
  split at n
  .cases n
  rename_i u;rw[not_or]at u;refine⟨by omega,λt q=>?_⟩;have:=u.2;simp only[Cq,rA]at this;have:=this t q;simp[iN]at this;omega
 unfold cI at d
 split at d
 .rename_i h0;omega
 split at d
 .rename_i A
  split at d
  .cases d
  rename_i t q;have r:=cH q;have:=z.2 t r
  split at d
  .omega
  split at d
  .omega
  cases d
 cases d
def Hx{a:Ar}{x:Fa}(u:cJ x)(A:aB a=0){N:Nat}{g:Lg}(q:fJ a x N=some g)(C:g.l.length<=N):UA a x (λy=>y∈g.l):=by
 have h:=qQ.run u N q;have j:=LgJ.run N q;have D:g.l.take N=g.l:=iZ C;have d:∀y∈g.l,y∈g.l.take N:=λy b=>by rw[D];exact b
 exact{
  st:=j.s0
  pl:=h.st
  fin:=λy b=>j.fin y (d y b) (h.st y b)
  can:=λy b=>h.can y (d y b)
  UB:=λy b=>j.UB y (d y b)
  shp:=λy z b I e=>by rw[CB,CB,h.plc (d y b) (d z I) e]
  len:=λy b=>h.deep (d y b)
  sm:=λy b m J=>by obtain⟨i,M,rfl⟩:=eH.1 J;obtain⟨Y,r,_⟩:=h.ask b (aO M);obtain⟨O,V,_,Z,_⟩:=fv r;obtain⟨X,g6⟩:=zv A r;exact⟨O,X,V,by omega,by omega,by omega⟩
  bg:=λy b n=>by
   rcases h.gen y b with rfl|⟨z,_,e,_,rfl⟩
   .rfl
   unfold hZ at n
   split at n<;>cases n}
abbrev lN:=Int×List Nat
@[simp]def eI(p:lN):ak:=[iV p.1,.str p.2]
@[simp]def sO(a:Ar)(x:Fa):ak:=[.psl (a.ids.map Ty.c),.bool a.root.cell,.int .i64 a.root.n,.bool a.jumps,.psl (x.nx.map oM),.psl (x.fi.map bC)]
def lI(sp:lN)(y:Sn)(w:HV)(fo lo:Bool):Prop:=(sp=(0,[])/\y=CI/\w=.ai/\fo=false/\lo=false)∨(y.mn.begun=true/\sp=((y.st:Int),oK y.mn)/\w=.psl (y.mn.op.map Mv.c)/\fo=y.mn.forced/\lo=y.mn.lost)
def N5(x:Mn):oK x≠ []:=by unfold oK;cases x.lost<;>simp[Lw]
def lI.zero{sp:lN}{y:Sn}{w:HV}{fo lo:Bool}(h:lI sp y w fo lo):decide (sp=(0,[]))= !y.mn.begun:=by
 rcases h with⟨b,d,_⟩|⟨b,d,_⟩
 .rw[b,d];rfl
 rw[b,d];have:=N5 y.mn;simp[this]
def aaj{a:Ar}{x:Fa}{S:Sn->Prop}(ok:dj a)(z:aB a=0)(d:UA a x S)(A:cJ x){sp:lN}{y:Sn}{w:HV}{fo lo:Bool}(q:S y)(h:lI sp y w fo lo){e:Eg}(C:e∈gl x y.st)(s:HS):
  R (.call 168 [.agg [w,.bool fo,.bool lo],.agg a.c,.agg e.m.c,.bool (decide (sp=(0,[])))] s)=.val (.bN [.agg (oJ (hZ y.mn e.m)),.bool true]) s:=by
 have J:=A.n;have M:=d.len y q;have b:=d.can y q e C;rw[h.zero];have key:=ahP ok z b (by omega) (λD=>by rw[d.bg y q D];exact⟨rfl,rfl,rfl⟩);rcases h with⟨u,r,rfl,rfl,rfl⟩|⟨u,r,rfl,rfl,rfl⟩
 .subst r;have u:du a.c=true:=by simp
  have r:du e.m.c=true:=by simp
  have E:=gA (a.ids.map Ty.c) (GW _);have I:=iQ (a.ids.map Ty.c) (GW _);refine yN 168 U.f168 _ [.agg (oJ CI.mn),.agg a.c,.agg e.m.c,.bool (!CI.mn.begun)] _ s rfl rfl rfl ?_ (by simp[eh]) ?_ (by simp[oJ]) (key s0)
  .simp[cC,cr,E]
  simp[oN,nn,I,oJ,CI]
 exact key s
@[simp]def EL(a:Ar)(x:Fa)(o4 o5 ot o8 o9:Ky)(v7:HV)(row:bA)(j:Nat):List (Nat×HV):=
 [(1,.ax (sO a x)),(4,.ptr o4 0),(5,.ptr o5 0),(6,.mp ot),(7,v7),(8,.ptr o8 0),(9,.ptr o9 0),(82,.psl (row.map Eg.c)),(83,iV row.length),(84,iV j)]
section
variable{a:Ar}{x:Fa}{o4 o5 ot o8 o9:Ky}{v7:HV}{row:bA}{j:Nat}{e:En}{s:HS}{F:cg}{au:aR}{aw:bc}{L:cS}{K:dV}{Q:List (Ky×List (HV×HV))}
def N6(u:cA s F v7 au aw L K Q)(m:bO e (EL a x o4 o5 ot o8 o9 v7 row j)){ed:Eg}(z:row[j]?=some ed):
  ∃e' s' kh,ev R U.BT e s=.code .normal e' s'/\bO e' (EL a x o4 o5 ot o8 o9 v7 row j++[(11,.ptr kh 0)])/\cA s' F v7 au aw L ((kh,ed.c)::K) Q:=by
 obtain⟨n,A⟩:=aV.1 z;have b:=u.cY ed.c;have d:=(b.k.bz 0 _ _ rfl).1.1;generalize h:HS.mk _ _ _ _=C at b d;simp only[Eg.c,aA,aE,bw,Nat.reduceAdd]at d h;generalize q:ev R U.BT e s=r;simp only[EL,ab,ae]at m;simp[m,n,A,h,ah,an]at q;subst q;exact⟨_,_,s.nx,rfl,by simp[m],b⟩
def N7{kh:Ky}{ed:Eg}{sp:lN}{w dp D E:HV}{fo lo:Bool}{nx:Mn}(h:cA s F v7 au aw L [(kh,ed.c),(o9,[w,.bool fo,.bool lo]),(o8,eI sp),(o5,[D,E,dp]),(o4,eI (0,[]))] Q)(C:bO e (EL a x o4 o5 ot o8 o9 v7 row j++[(11,.ptr kh 0)]))
  (d:∀s,R (.call 168 [.agg [w,.bool fo,.bool lo],.agg a.c,.agg ed.m.c,.bool (decide (sp=(0,[])))] s)=.val (.bN [.agg (oJ nx),.bool true]) s):
  ∃e' s' kR,ev R U.BU e s=.code .normal e' s'/\bO e' (EL a x o4 o5 ot o8 o9 v7 row j++[(11,.ptr kh 0),(12,.ptr kR 0),(13,.bool true)])/\cA s' F v7 au aw L [(kR,oJ nx),(kh,ed.c),(o9,[w,.bool fo,.bool lo]),(o8,eI sp),(o5,[D,E,dp]),(o4,eI (0,[]))] Q:=by
 have n:=(h.k.bz 0 _ _ rfl).1.1;have I:=(h.k.bz 1 _ _ rfl).1.1;have J:=(h.k.bz 2 _ _ rfl).1.1;have M:=(h.k.bz 4 _ _ rfl).1.1;have b:=h.cY (oJ nx);have q:=(b.k.bz 0 _ _ rfl).1.1;have u:=(b.k.bz 1 _ _ rfl).1.1;have f9:=(b.k.bz 2 _ _ rfl).1.1;have O:=(b.k.bz 3 _ _ rfl).1.1;have V:=(b.k.bz 5 _ _ rfl).1.1;have z:qB IZ (.agg [iV sp.1,.str sp.2]) (.agg [iV 0,.str []])=some (decide (sp=(0,[]))):=lH sp (0,[]);generalize A:HS.mk _ _ _ _=Y at b q u f9 O V;simp only[Eg.c,oJ,eI,aA,aE,bw,Nat.reduceAdd,iV]at q u f9 O V A n I J M z;simp only[Mv.c,Ar.c,oJ]at d;generalize X:ev R U.BU e s=r;simp only[EL,bB,bD,ab,ae]at C;simp[C,A,n,I,J,M,ah,an,aj,z,d]at X;subst X;exact⟨_,_,s.nx,rfl,by simp[C],b⟩
def N8{kh kR:Ky}{nx:Mn}{m n:ay}(u:cA s F v7 au aw L ((kR,oJ nx)::K) Q)(h:bO e (EL a x o4 o5 ot o8 o9 v7 row j++[(11,.ptr kh 0),(12,.ptr kR 0),(13,.bool true)]))
  (b:∀s,R (.call 169 [.agg (oJ nx)] s)=.val (.bN [.str m,.str n]) s):
  ∃e',ev R U.BV e s=.code .normal e' s/\bO e' (EL a x o4 o5 ot o8 o9 v7 row j++[(11,.ptr kh 0),(12,.ptr kR 0),(13,.bool true),(14,.str m),(15,.str n)]):=by
 have d:=(u.k.bz 0 _ _ rfl).1.1;simp only[oJ,aA,aE,bw,Nat.reduceAdd]at d b;generalize q:ev R U.BV e s=r;simp only[EL,bB,bD,ab,ae]at h;simp[h,d,b,aj]at q;subst q;exact⟨_,rfl,by simp[h]⟩
def N9{kh kR:Ky}{Gm:ak}{ed:Eg}{h m:ay}{T:List (Int×HV)}(n:cA s F v7 au aw L ((kR,Gm)::(kh,ed.c)::K) Q)(z:Q[2]?=some (ot,gG iV T))
  (b:bO e (EL a x o4 o5 ot o8 o9 v7 row j++[(11,.ptr kh 0),(12,.ptr kR 0),(13,.bool true),(14,.str h),(15,.str m)])):
  ∃e',ev R U.vP e s=.code .normal e' s/\bO e' (EL a x o4 o5 ot o8 o9 v7 row j++[(11,.ptr kh 0),(12,.ptr kR 0),(13,.bool true),(14,.str h),(15,.str m),(16,(lkp (ed.to:Int) T).getD (.str [])),(17,.bool (lkp (ed.to:Int) T).isSome)]):=by
 have d:=(n.k.bz 1 _ _ rfl).1.1;have q:=N4 (K:=KI) l7 (λ_=>rfl) (n.mp 2 _ _ z).1 (ed.to:Int) (.str []);simp only[Eg.c,iV,aA,aE,bw,Nat.reduceAdd]at d q;generalize u:ev R U.vP e s=r;simp only[EL,bB,bD,ab,ae]at b;simp[b,d,q]at u;subst u;exact⟨_,rfl,by simp[b]⟩
def Oa{kh kR:Ky}{nx:Mn}{n q:ay}{v:HV}{b:Bool}(u:cA s F v7 au aw L ((kR,oJ nx)::K) Q)(A:nx.op.length+1<=x.nx.length)(z:b=true->v=.str n)
  (h:bO e (EL a x o4 o5 ot o8 o9 v7 row j++[(11,.ptr kh 0),(12,.ptr kR 0),(13,.bool true),(14,.str n),(15,.str q),(16,v),(17,.bool b)])):
  ∃e',ev R U.vQ e s=.code .normal e' s/\bO e' (EL a x o4 o5 ot o8 o9 v7 row j++[(11,.ptr kh 0),(12,.ptr kR 0),(14,.str n),(15,.str q),(132,.bool false)]):=by
 have d:=(u.k.bz 0 _ _ rfl).1.1;simp only[oJ,aA,aE,bw,Nat.reduceAdd]at d;generalize m:ev R U.vQ e s=r;simp only[EL,bB,bD,ab,ae]at h;cases b with|false=>simp[h,d]at m;subst m;exact⟨_,rfl,by simp[h];omega⟩|true=>rw[z rfl]at h;simp[h,d]at m;subst m;exact⟨_,rfl,by simp[h];omega⟩
def Oc{kh kR:Ky}{Gm:ak}{ed:Eg}{b n:ay}{T:List (Int×HV)}(h:cA s F v7 au aw L ((kR,Gm)::(kh,ed.c)::K) Q)(q:Q[2]?=some (ot,gG iV T))
  (m:bO e (EL a x o4 o5 ot o8 o9 v7 row j++[(11,.ptr kh 0),(12,.ptr kR 0),(14,.str b),(15,.str n),(132,.bool false)])):
  ∃e' s',ev R U.BW e s=.code .normal e' s'/\bO e' (EL a x o4 o5 ot o8 o9 v7 row j++[(11,.ptr kh 0),(12,.ptr kR 0),(15,.str n)])/\cA s' F v7 au aw L ((kR,Gm)::(kh,ed.c)::K) (Q.set 2 (ot,gG iV (ny (ed.to:Int) (.str b) T))):=by
 have d:=(h.k.bz 1 _ _ rfl).1.1;have u:=muV (K:=KI) l7 (λ_=>rfl) (h.mp 2 _ _ q).1 (ed.to:Int) (.str b);simp only[Eg.c,iV,aA,aE,bw,Nat.reduceAdd]at d u;generalize z:ev R U.BW e s=r;simp only[EL,bB,bD,ab,ae]at m;simp[m,d,u]at z;subst z;exact⟨_,_,rfl,by simp[m],h.Lx q _⟩
def Od{kh kR:Ky}{Gm:ak}{ed:Eg}{q:ay}(z:cA s F v7 au aw L ((kR,Gm)::(kh,ed.c)::K) Q)
  (u:bO e (EL a x o4 o5 ot o8 o9 v7 row j++[(11,.ptr kh 0),(12,.ptr kR 0),(15,.str q)])):
  ∃e' s' sP,ev R U.BX e s=.code .normal e' s'/\bO e' (EL a x o4 o5 ot o8 o9 v7 row j++[(11,.ptr kh 0),(12,.ptr kR 0),(18,.ptr sP 0)])/\cA s' F v7 au aw L ((sP,eI (ed.to,q))::(kR,Gm)::(kh,ed.c)::K) Q:=by
 have d:=(z.k.bz 1 _ _ rfl).1.1;have b:=z.cY (eI ((ed.to:Int),q));have h:=(b.k.bz 0 _ _ rfl).1.1;have m:=(b.k.bz 2 _ _ rfl).1.1;generalize n:HS.mk _ _ _ _=C at b h m;simp only[Eg.c,eI,iV,aA,aE,bw,Nat.reduceAdd]at d n h m;generalize A:ev R U.BX e s=r;simp only[EL,bB,bD,ab,ae]at u;simp[u,d,n,ah,an]at A;subst A;exact⟨_,_,s.nx,rfl,by simp[u],b⟩
end
section
variable{a:Ar}{x:Fa}{o4 o5 ot o8 o9 kh kR sP oh ow:Ky}{v7 dp:HV}{row:bA}{j:Nat}{e:En}{s:HS}{F:cg}{au:aR}{aw:bc}{L:cS}{K:dV}{Q:List (Ky×List (HV×HV))}{Gm O6 c9 c4:ak}{p sp:lN}{H W:List (lN×HV)}{nx:Mn}
def Hy{w1:HV}{h m:Bool}(A:cA s F v7 au aw L [(sP,eI p),(kR,Gm),(kh,O6),(o9,c9),(o8,eI sp),(o5,[.mp oh,.mp ow,dp]),(o4,c4)] Q)(D:Q[0]?=some (oh,gG kQ H))
  (E:(lkp p H).getD (.agg [.ai,.bool false,.bool false])=.agg [w1,.bool h,.bool m])(h1:cellsOf w1=some [w1])
  (I:bO e (EL a x o4 o5 ot o8 o9 v7 row j++[(11,.ptr kh 0),(12,.ptr kR 0),(18,.ptr sP 0)])):
  ∃e' s' k,ev R U.vR e s=.code .normal e' s'/\bO e' (EL a x o4 o5 ot o8 o9 v7 row j++[(11,.ptr kh 0),(12,.ptr kR 0),(18,.ptr sP 0),(20,.bool (lkp p H).isSome)])/\cA s' F v7 au aw L [k,(sP,eI p),(kR,Gm),(kh,O6),(o9,c9),(o8,eI sp),(o5,[.mp oh,.mp ow,dp]),(o4,c4)] Q:=by
 have n:=(A.k.bz 0 _ _ rfl).1.1;have X:=(A.k.bz 5 _ _ rfl).1.1;have J:=N4 (K:=IZ) lH ov (A.mp 0 _ _ D).1 p (.agg [.ai,.bool false,.bool false]);rw[E]at J;have q:=A.cY [.ai,.bool false,.bool false];have d:=(q.k.bz 1 _ _ rfl).1.1;have M:=(q.k.bz 6 _ _ rfl).1.1;have C:=N4 (K:=IZ) lH ov (q.mp 0 _ _ D).1 p (.agg [.ai,.bool false,.bool false]);rw[E]at C;generalize u:HS.mk _ _ _ _=Sz at q d M C;have z:cellsOf (.agg [w1,.bool h,.bool m])=some [w1,.bool h,.bool m]:=by simp[cellsOf]
 obtain⟨S1,O,b⟩:=q.put (a:=0) rfl (x:=.agg [w1,.bool h,.bool m]) z rfl;have V:=eQ (l:=[w1,.bool h,.bool m]) O z rfl;have f18:=(b.k.bz 1 _ _ rfl).1.1;have f5:=(b.k.bz 6 _ _ rfl).1.1;have Y:=N4 (K:=IZ) lH ov (b.mp 0 _ _ D).1 p (.agg [.ai,.bool false,.bool false]);rw[E]at Y;simp only[eI,kQ,iV,aA,aE,bw,Nat.reduceAdd]at n X J d M C u O V f18 f5 Y;generalize Z:ev R U.vR e s=r;simp only[EL,bB,bD,ab,ae]at I;simp[I,n,X,J,u,d,M,C,O,aj]at Z;subst Z;exact⟨_,_,_,rfl,by simp[I],b⟩
def Oe(b:cA s F v7 au aw L [(sP,eI p),(kR,oJ nx),(kh,O6),(o9,c9),(o8,eI sp),(o5,[.mp oh,.mp ow,dp]),(o4,c4)] Q)(n:Q[0]?=some (oh,gG kQ H))
  (m:bO e (EL a x o4 o5 ot o8 o9 v7 row j++[(11,.ptr kh 0),(12,.ptr kR 0),(18,.ptr sP 0)])):
  ∃e' s',ev R U.vT e s=.code .normal e' s'/\bO e' (EL a x o4 o5 ot o8 o9 v7 row j++[(11,.ptr kh 0),(12,.ptr kR 0),(18,.ptr sP 0)])/\cA s' F v7 au aw L [(sP,eI p),(kR,oJ nx),(kh,O6),(o9,c9),(o8,eI sp),(o5,[.mp oh,.mp ow,dp]),(o4,c4)] (Q.set 0 (oh,gG kQ (ny p (.agg (oJ nx)) H))):=by
 have d:=(b.k.bz 0 _ _ rfl).1.1;have h:=(b.k.bz 1 _ _ rfl).1.1;have q:=(b.k.bz 5 _ _ rfl).1.1;have u:=muV (K:=IZ) lH ov (b.mp 0 _ _ n).1 p (.agg (oJ nx));simp only[eI,kQ,oJ,iV,aA,aE,bw,Nat.reduceAdd]at d h q u;generalize z:ev R U.vT e s=r;simp only[EL,bB,bD,ab,ae]at m;simp[m,d,h,q,u,aj]at z;subst z;exact⟨_,_,rfl,by simp[m],b.Lx n _⟩
def Of(m:cA s F v7 au aw L ((sP,eI p)::K) Q)(u:au.length+1<=5864062014805)
  (h:bO e (EL a x o4 o5 ot o8 o9 v7 row j++[(11,.ptr kh 0),(12,.ptr kR 0),(18,.ptr sP 0)])):
  ∃e' s' b z,ev R U.vU e s=.code .normal e' s'/\bO e' (EL a x o4 o5 ot o8 o9 b row j++[(11,.ptr kh 0),(12,.ptr kR 0),(18,.ptr sP 0)])/\cA s' z b (au++[eI p]) aw L ((sP,eI p)::K) Q:=by
 have d:=(m.k.bz 0 _ _ rfl).1.1;obtain⟨A,s',n,C⟩:=m.ahT (new:=[eI p]) (Sz.cons rfl Sz.nil) (by simp) (bx:=5864062014805) (by simpa using u);simp only[eI,iV,aA,aE,bw,Nat.reduceAdd]at d n;generalize q:ev R U.vU e s=r;simp only[EL,bB,bD,ab,ae]at h;simp[h,d,n,aj]at q;subst q;exact⟨_,_,A,_,rfl,by simp[h],C⟩
end
section
variable{a:Ar}{x:Fa}{o4 o5 ot o8 o9 kh kR sP oh ow:Ky}{v7 dp:HV}{row:bA}{j:Nat}{e:En}{s:HS}{F:cg}{au:aR}{aw:bc}{L:cS}{K:dV}{Q:List (Ky×List (HV×HV))}{Gm c9 c4:ak}{p sp:lN}{W:List (lN×HV)}{ed:Eg}
def Hz{b:Bool}(d:bO e (EL a x o4 o5 ot o8 o9 v7 row j++[(11,.ptr kh 0),(12,.ptr kR 0),(18,.ptr sP 0),(20,.bool b)])):
  ∃e',ev R U.vS e s=.code .normal e' s/\bO e' (EL a x o4 o5 ot o8 o9 v7 row j++[(11,.ptr kh 0),(12,.ptr kR 0),(18,.ptr sP 0),(151,.bool !b)]):=by
 generalize h:ev R U.vS e s=r;simp only[EL,bB,bD,ab,ae]at d;simp[d]at h;subst h;exact⟨_,rfl,by simp[d]⟩
def Og(h:j<row.length)(n:row.length<=6000)(b:bO e (EL a x o4 o5 ot o8 o9 v7 row j)):
  ∃e',ev R U.BY e s=.code .normal e' s/\bO e' (EL a x o4 o5 ot o8 o9 v7 row (j+1)):=by
 have m:=bj h (by omega);generalize d:ev R U.BY e s=r;simp only[EL,ab,ae]at b;simp[b,m]at d;subst d;exact⟨_,rfl,by simp[b]⟩
def Lz(q:cA s F v7 au aw L [(sP,eI p),(kR,Gm),(kh,ed.c),(o9,c9),(o8,eI sp),(o5,[.mp oh,.mp ow,dp]),(o4,c4)] Q)(I:Q[1]?=some (ow,gG kQ W))(hl:lkp sp W=none)(h4:W.length=L.length)
  (J:bO e (EL a x o4 o5 ot o8 o9 v7 row j++[(11,.ptr kh 0),(12,.ptr kR 0),(18,.ptr sP 0)])):
  ∃e' s' h u,ev R U.qi e s=.code .normal e' s'/\bO e' (EL a x o4 o5 ot o8 o9 v7 row j)/\cA s' F v7 au h (L++[(u,6,[ed.m.c++eI p])]) [(sP,eI p),(kR,Gm),(kh,ed.c),(o9,c9),(o8,eI sp),(o5,[.mp oh,.mp ow,dp]),(o4,c4)] (Q.set 1 (ow,gG kQ (W++[(sp,u)]))):=by
 have z:=(q.k.bz 0 _ _ rfl).1.1;have A:=(q.k.bz 2 _ _ rfl).1.1;have X:=(q.k.bz 4 _ _ rfl).1.1;have Y:=(q.k.bz 5 _ _ rfl).1.1;have C:=aaf (K:=IZ) lH ov (q.mp 1 _ _ I).1 sp .ai;rw[hl]at C;simp only at C;have M:=(aV.1 I).1;have b:=(q.Lx I (gG kQ (W++[(sp,HV.ai)]))).push 6;generalize h5:HS.aK _ _ _=S1 at C b;have b18:=(b.k.bz 0 _ _ rfl).1.1;have O:=(b.k.bz 2 _ _ rfl).1.1;have b8:=(b.k.bz 4 _ _ rfl).1.1;have b5:=(b.k.bz 5 _ _ rfl).1.1;have hg:(L++[(HV.ai,6,([]:aR))])[L.length]?=some (.ai,6,[]):=by simp
 obtain⟨u,S2,h,Z,k2,d⟩:=b.aai L.length hg (new:=[ed.m.c++eI p]) (Sz.cons rfl Sz.nil) (by simp) (bx:=2513169434916) (by simp);have V:=(d.k.bz 0 _ _ rfl).1.1;have O6:=(d.k.bz 2 _ _ rfl).1.1;have c8:=(d.k.bz 4 _ _ rfl).1.1;have c5:=(d.k.bz 5 _ _ rfl).1.1;have D:(Q.set 1 (ow,gG kQ (W++[(sp,HV.ai)])))[1]?=some (ow,gG kQ (W++[(sp,HV.ai)])):=by rw[gF M]
 have E:=aag (d.mp 1 _ _ D).1 (i:=W.length) (t:=sp) (w:=.ai) (by simp) u;have n:=d.Lx D (gG kQ ((W++[(sp,HV.ai)]).set W.length (sp,u)));rw[Cv]at n;simp only[UC _ _ (aY W.length),lg,aS]at n E;rw[UC _ _ (aY L.length),lg,aS,bD]at n;generalize h6:HS.aK _ _ _=S3 at E n;simp only[eI,kQ,Eg.c,Mv.c,iV,bB,bD,aA,aE,bw,Nat.reduceAdd]at z A X Y b18 O b8 b5 V O6 c8 c5 C Z E;generalize hr:ev R U.qi e s=r;simp only[EL,bB,bD,ab,ae]at J;simp[J,z,A,X,Y,C,Z,E,aj]at hr;subst hr;exact⟨_,_,h,u,rfl,by simp[J],n⟩
def LA{v:HV}{es:aR}(h:cA s F v7 au aw L [(sP,eI p),(kR,Gm),(kh,ed.c),(o9,c9),(o8,eI sp),(o5,[.mp oh,.mp ow,dp]),(o4,c4)] Q)(C:Q[1]?=some (ow,gG kQ W))(O:lkp sp W=some v)(D:L[Em sp W]?=some (v,6,es))(E:es.length+1<=2513169434916)
  (I:bO e (EL a x o4 o5 ot o8 o9 v7 row j++[(11,.ptr kh 0),(12,.ptr kR 0),(18,.ptr sP 0)])):
  ∃e' s' d n,ev R U.qi e s=.code .normal e' s'/\bO e' (EL a x o4 o5 ot o8 o9 v7 row j)/\cA s' F v7 au d (L.set (Em sp W) (n,6,es++[ed.m.c++eI p])) [(sP,eI p),(kR,Gm),(kh,ed.c),(o9,c9),(o8,eI sp),(o5,[.mp oh,.mp ow,dp]),(o4,c4)] (Q.set 1 (ow,gG kQ (W.set (Em sp W) (sp,n)))):=by
 have q:=(h.k.bz 0 _ _ rfl).1.1;have u:=(h.k.bz 2 _ _ rfl).1.1;have V:=(h.k.bz 4 _ _ rfl).1.1;have X:=(h.k.bz 5 _ _ rfl).1.1;have A:=aaf (K:=IZ) lH ov (h.mp 1 _ _ C).1 sp .ai;rw[O]at A;simp only at A;obtain⟨n,S2,d,Y,k2,b⟩:=h.aai (Em sp W) D (new:=[ed.m.c++eI p]) (Sz.cons rfl Sz.nil) (by simp) (bx:=2513169434916) (by simpa using E);have J:=(b.k.bz 0 _ _ rfl).1.1;have O6:=(b.k.bz 2 _ _ rfl).1.1;have c8:=(b.k.bz 4 _ _ rfl).1.1;have c5:=(b.k.bz 5 _ _ rfl).1.1;have M:=aag (b.mp 1 _ _ C).1 (i:=Em sp W) (t:=sp) (w:=v) (zt O) n;have z:=b.Lx C (gG kQ (W.set (Em sp W) (sp,n)));generalize h4:HS.aK _ _ _=S3 at M z;simp only[eI,kQ,Eg.c,Mv.c,iV,bB,bD,aA,aE,bw,Nat.reduceAdd]at q u V X J O6 c8 c5 A Y M;generalize Z:ev R U.qi e s=r;simp only[EL,bB,bD,ab,ae]at I;simp[I,q,u,V,X,A,Y,M,aj]at Z;subst Z;exact⟨_,_,d,n,rfl,by simp[I],z⟩
end
def uZ{A B:HC}{e b:En}{s s1:HS}(h:ev R A e s=.code .normal b s1):ev R (.seq A B) e s=ev R B b s1:=by rw[FB,h];rfl
def LB{i:Nat}{e:En}{s:HS}{A B:HC}(h:look e i=some (.bool true)):ev R (.cond (.t i) A B) e s=ev R A e s:=by rw[vY];show DF (look e i) _ _=_;rw[h];rfl
def HA{i:Nat}{e:En}{s:HS}{A B:HC}(h:look e i=some (.bool false)):ev R (.cond (.t i) A B) e s=ev R B e s:=by rw[vY];show DF (look e i) _ _=_;rw[h];rfl
def LC{α:Type}[DecidableEq α]{t:α}{v:HV}{l:List (α×HV)}{p:α×HV}(h:p∈ny t v l):p∈l∨p=(t,v):=by
 unfold ny at h
 split at h
 .exact qL h
 simpa using h
def pZ(S:Sn->Prop)(p:lN):Prop:=p=(0,[])∨∃y,S y/\y.mn.begun=true/\p=((y.st:Int),oK y.mn)
def HB(S:Sn->Prop)(p:lN×HV):Prop:=p=((0,[]),.agg [.ai,.bool false,.bool false])∨∃y,S y/\y.mn.begun=true/\p=(((y.st:Int),oK y.mn),.agg (oJ y.mn))
def HB.spot{S:Sn->Prop}{p:lN×HV}(h:HB S p):pZ S p.1:=by
 rcases h with rfl|⟨y,b,d,rfl⟩
 .exact .inl rfl
 exact .inr ⟨y,b,d,rfl⟩
structure WI(S:Sn->Prop)(dn td:List lN)(H:List (lN×HV))(T:List (Int×HV))(W:List (lN×HV))(L:cS)(sp:lN)(r:Nat):Prop where
 hk:H.map Prod.fst=dn++td
 hn:(dn++td).Nodup
 he:∀p∈H,HB S p
 te:∀p∈T,∃y,S y/\p.1=(y.st:Int)/\p.2=.str (rL y.mn.op)
 wl:W.length=L.length
 we:∀(i:Nat) k v,W[i]?=some (k,v)->k∈dn/\∃au,L[i]?=some (v,6,au)/\au.length<=if k=sp then r else 6000
 sd:sp∈dn
section
variable{a:Ar}{x:Fa}{S:Sn->Prop}{o4 o5 ot o8 o9 oh ow:Ky}{v7 dp:HV}{row:bA}{j N:Nat}{e:En}{s:HS}{F:cg}{aw:bc}{L:cS}{sp:lN}{dn td:List lN}{H W:List (lN×HV)}{T:List (Int×HV)}
def Oh(m:j<row.length)(b:bO e (EL a x o4 o5 ot o8 o9 v7 row j)):
  ∃e',ev R U.BS e s=.code .normal e' s/\look e' 85=some (.bool true)/\bO e' (EL a x o4 o5 ot o8 o9 v7 row j):=by
 have d:(j:Int)<row.length:=by omega
 generalize h:ev R U.BS e s=r;simp only[EL,ab,ae]at b;simp[b,d]at h;subst h;exact⟨_,rfl,by simp[b]⟩
def aak(ok:dj a)(hc:aB a=0)(hx:cJ x)(J:UA a x S)(hf:∀l:List lN,l.Nodup->(∀p∈l,pZ S p)->l.length<=N)(hN:N<=3518437208883)
  {y:Sn}(hy:S y){w:HV}{fo lo:Bool}(hh:lI sp y w fo lo)(hg:row=gl x y.st)(k8:row.length<=6000){ed:Eg}(hj:row[j]?=some ed)
  (A:WI S dn td H T W L sp j)
  (hM:cA s F v7 (td.map eI) aw L [(o9,[w,.bool fo,.bool lo]),(o8,eI sp),(o5,[.mp oh,.mp ow,dp]),(o4,eI (0,[]))] [(oh,gG kQ H),(ow,gG kQ W),(ot,gG iV T)])
  (hL:bO e (EL a x o4 o5 ot o8 o9 v7 row j)):
  ∃e' s' F' ho b r X T' W' L',ev R U.tJ e s=.code .normal e' s'/\bO e' (EL a x o4 o5 ot o8 o9 ho row (j+1))/\WI S dn r X T' W' L' sp (j+1)/\
   cA s' F' ho (r.map eI) b L' [(o9,[w,.bool fo,.bool lo]),(o8,eI sp),(o5,[.mp oh,.mp ow,dp]),(o4,eI (0,[]))] [(oh,gG kQ X),(ow,gG kQ W'),(ot,gG iV T')]:=by
 obtain⟨h8,hr⟩:=aV.1 hj;have h4:ed∈gl x y.st:=by rw[<-hg,<-hr];exact bX h8
 have E:=J.UB y hy ed h4;have ks:=hx.n;have hlen:=J.len _ E;have k9:=J.sm _ E;have h5:(hZ y.mn ed.m).begun=true:=by unfold hZ;split<;>rfl
 have hs:=aaj ok hc J hx hy hh h4;generalize kt:hZ y.mn ed.m=nx at*;have ht:=ahS (x:=nx) (by simp only at hlen;omega) k9;obtain⟨e0,q13,ka,L0⟩:=Oh (s:=s) h8 hL;obtain⟨e1,s1,kh,q14,L1,M1⟩:=N6 hM L0 hj;obtain⟨e2,s2,kR,q15,L2,M2⟩:=N7 (nx:=nx) M1 L1 hs;obtain⟨e3,kb,L3⟩:=N8 M2 L2 ht;obtain⟨e4,q17,L4⟩:=N9 M2 rfl L3;have hv:(lkp (ed.to:Int) T).isSome=true->(lkp (ed.to:Int) T).getD (.str [])=.str (rL nx.op):=by
  intro h;cases C:lkp (ed.to:Int) T with
  |none=>rw[C]at h;cases h
  |some t=>obtain⟨z,z1,z2,z3⟩:=A.te _ (wy C);simp only at z2 z3;rw[z3,iY,J.shp z _ z1 E (by simp only;omega)]
 obtain⟨e5,q18,L5⟩:=Oa M2 hlen hv L4;obtain⟨e6,s6,kc,L6,M6⟩:=Oc M2 rfl (by simpa using L5);obtain⟨e7,s7,sP,kd,L7,M7⟩:=Od M6 L6;simp only[cb,aS]at M7;have hz:∀p∈ny (ed.to:Int) (.str (rL nx.op)) T,∃y,S y/\p.1=(y.st:Int)/\p.2=.str (rL y.mn.op):=by
  intro p d;rcases LC d with d|rfl
  .exact A.te p d
  exact⟨_,E,rfl,rfl⟩
 have ke:∃e8 Y F8 v8 r X,ev R (.seq U.vR (.seq U.vS (.cond (.t 151) (.seq U.vT U.vU) .skip))) e7 s7=.code .normal e8 Y/\bO e8 (EL a x o4 o5 ot o8 o9 v8 row j++[(11,.ptr kh 0),(12,.ptr kR 0),(18,.ptr sP 0)])/\WI S dn r X (ny (ed.to:Int) (.str (rL nx.op)) T) W L sp j/\
   cA Y F8 v8 (r.map eI) aw L [(sP,eI (ed.to,oK nx)),(kR,oJ nx),(kh,ed.c),(o9,[w,.bool fo,.bool lo]),(o8,eI sp),(o5,[.mp oh,.mp ow,dp]),(o4,eI (0,[]))] [(oh,gG kQ X),(ow,gG kQ W),(ot,gG iV (ny (ed.to:Int) (.str (rL nx.op)) T))]:=by
  cases C:lkp ((ed.to:Int),oK nx) H with
  |some v=>
   have kg:∃w1 b1 b2,v=.agg [w1,.bool b1,.bool b2]/\cellsOf w1=some [w1]:=by
    rcases A.he _ (wy C)with h|⟨z,_,_,h⟩
    .exact⟨_,_,_,ct Prod.snd h,rfl⟩
    exact⟨_,_,_,ct Prod.snd h,rfl⟩
   obtain⟨w1,b1,b2,rfl,ki⟩:=kg;obtain⟨e8,Y,k,h9,L8,M8⟩:=Hy M7 rfl (by rw[C];rfl) ki L7;rw[C]at L8;obtain⟨M,YG,D⟩:=Hz (s:=Y) L8;have Z:=M8.tail (n:=1);refine⟨M,Y,F,v7,td,H,?_,?_,⟨A.hk,A.hn,A.he,hz,A.wl,A.we,A.sd⟩,Z⟩
   .rw[uZ h9,uZ YG,HA (by simp only[EL,bB,bD,ab,ae]at D;simp[D])];rfl
   simp only[EL,bB,bD,ab,ae]at D ⊢;simp[D]
  |none=>
   obtain⟨e8,Y,k,h9,L8,M8⟩:=Hy M7 rfl (by rw[C];rfl) rfl L7;rw[C]at L8;obtain⟨M,YG,D⟩:=Hz (s:=Y) L8;have Z:=M8.tail (n:=1);have kj:bO M (EL a x o4 o5 ot o8 o9 v7 row j++[(11,.ptr kh 0),(12,.ptr kR 0),(18,.ptr sP 0)]):=by simp only[EL,bB,bD,ab,ae]at D ⊢;simp[D]
   obtain⟨k0,ku,q24,ha,kk⟩:=Oe Z rfl kj;have k4:((ed.to:Int),oK nx) ∉ dn++td:=by rw[<-A.hk];exact zs.1 C
   have h6:(dn++(td++[((ed.to:Int),oK nx)])).Nodup:=by rw[<-List.append_assoc,BD];exact⟨A.hn,by simp,λp d q hq e=>k4 (by rw[<-List.mem_singleton.1 hq,<-e];exact d)⟩
   have h7:ny ((ed.to:Int),oK nx) (.agg (oJ nx)) H=H++[(((ed.to:Int),oK nx),.agg (oJ nx))]:=by unfold ny;rw[C]
   have hb:∀p∈dn++(td++[((ed.to:Int),oK nx)]),pZ S p:=by
    intro p d;rw[<-List.append_assoc,cG]at d;rcases d with d|d
    .rw[<-A.hk]at d;obtain⟨q,hq,rfl⟩:=dA.1 d;exact(A.he q hq).spot
    rw[dE.1 d];exact .inr ⟨_,E,h5,rfl⟩
   have hle:=hf _ h6 hb;simp only[cE,aA,aE]at hle;obtain⟨kl,km,kn,ko,q25,kp,kq⟩:=Of kk (by rw[bH];omega) ha;refine⟨kl,km,ko,kn,td++[((ed.to:Int),oK nx)],ny ((ed.to:Int),oK nx) (.agg (oJ nx)) H,?_,kp,⟨?_,h6,?_,hz,A.wl,A.we,A.sd⟩,?_⟩
   .rw[uZ h9,uZ YG,LB (by simp only[EL,bB,bD,ab,ae]at D;simp[D]),uZ q24,q25]
   .rw[h7,eD,A.hk];simp
   .intro p d;rw[h7]at d;rcases cG.1 d with d|d
    .exact A.he p d
    rw[dE.1 d];exact .inr ⟨_,E,h5,rfl⟩
   simpa using kq
 obtain⟨e8,Y,F8,v8,r,X,qm,L8,u,M8⟩:=ke;have last:∃M s9 b W' L',ev R U.qi e8 Y=.code .normal M s9/\bO M (EL a x o4 o5 ot o8 o9 v8 row j)/\WI S dn r X (ny (ed.to:Int) (.str (rL nx.op)) T) W' L' sp (j+1)/\
   cA s9 F8 v8 (r.map eI) b L' [(sP,eI (ed.to,oK nx)),(kR,oJ nx),(kh,ed.c),(o9,[w,.bool fo,.bool lo]),(o8,eI sp),(o5,[.mp oh,.mp ow,dp]),(o4,eI (0,[]))] [(oh,gG kQ X),(ow,gG kQ W'),(ot,gG iV (ny (ed.to:Int) (.str (rL nx.op)) T))]:=by
  have O:∀(i:Nat) k v,W[i]?=some (k,v)->k∈dn/\∃au,L[i]?=some (v,6,au)/\au.length<=if k=sp then j+1 else 6000:=by
   intro i k v I;obtain⟨h1,au,h2,h3⟩:=u.we i k v I;refine⟨h1,au,h2,?_⟩
   split at h3
   .rw[ar (by assumption)];omega
   rw[aq (by assumption)];exact h3
  cases C:lkp sp W with
  |none=>
   obtain⟨M,s9,b,v',ON,D,Z⟩:=Lz M8 rfl C u.wl L8;refine⟨M,s9,b,W++[(sp,v')],_,ON,D,⟨u.hk,u.hn,u.he,u.te,by simp[u.wl],λi k v I=>?_,u.sd⟩,Z⟩;rcases EH i W.length with V|rfl|V
   .rw[ek V]at I;obtain⟨h1,au,h2,h3⟩:=O i k v I;exact⟨h1,au,by rw[ek (by rw[<-u.wl];exact V)];exact h2,h3⟩
   .simp at I;obtain⟨rfl,rfl⟩:=I;exact⟨u.sd,_,by rw[u.wl];simp;rfl,by simp⟩
   rw[Av (by simp;omega)]at I;cases I
  |some v=>
   obtain⟨h1,au,h2,h3⟩:=u.we _ _ _ (zt C);rw[ar rfl]at h3;obtain⟨M,s9,b,v',ON,D,Z⟩:=LA M8 rfl C h2 (by omega) L8;refine⟨M,s9,b,W.set (Em sp W) (sp,v'),_,ON,D,⟨u.hk,u.hn,u.he,u.te,by simp[u.wl],λi k v2 I=>?_,u.sd⟩,Z⟩;by_cases hd:Em sp W=i
   .subst hd;have k5:=(aV.1 (zt C)).1;rw[gF k5]at I;cases I;exact⟨h1,_,by rw[gF (by rw[<-u.wl];exact k5)],by simp;omega⟩
   rw[ju hd]at I;obtain⟨k1,k6,k2,k3⟩:=O i k v2 I;exact⟨k1,k6,by rw[ju hd];exact k2,k3⟩
 obtain⟨M,s9,b,W',L',ON,D,I9,Z⟩:=last;obtain⟨k0,kr,ha⟩:=Og (s:=s9) h8 k8 D;refine⟨k0,s9,F8,v8,b,r,X,_,W',L',?_,ha,I9,Z.tail (n:=3)⟩;unfold U.tJ;rw[uZ q13,uZ (show ev R (.cond (.t 85) .skip (.exit 2)) e0 s=.code .normal e0 s by rw[LB ka];rfl)];refine uZ ?_ |>.trans kr;unfold U.JX;rw[yn,uZ q14,uZ q15,uZ kb];have k7:ev R (.seq U.vP (.seq U.vQ (.cond (.t 132) (.seq U.GQ .ret) .skip))) e3 s2=.code .normal e5 s2:=by rw[uZ q17,uZ q18,HA (by simp only[EL,bB,bD,ab,ae]at L5;simp[L5])];rfl
 rw[uZ k7,uZ kc,uZ kd,uZ qm,ON];rfl
def aal(ok:dj a)(V:aB a=0)(X:cJ x)(M:UA a x S)(A:∀l:List lN,l.Nodup->(∀p∈l,pZ S p)->l.length<=N)(Y:N<=3518437208883)
  {y:Sn}(Z:S y){w:HV}{fo lo:Bool}(hh:lI sp y w fo lo)(C:row=gl x y.st)(O:row.length<=6000)
  (D:WI S dn td H T W L sp 0)
  (E:cA s F v7 (td.map eI) aw L [(o9,[w,.bool fo,.bool lo]),(o8,eI sp),(o5,[.mp oh,.mp ow,dp]),(o4,eI (0,[]))] [(oh,gG kQ H),(ow,gG kQ W),(ot,gG iV T)])
  (m:bO e (EL a x o4 o5 ot o8 o9 v7 row 0)){o:Out}(ho:ev R (.loop U.tJ) e s=o):
  ∃e' s' I d b h n q u z,o=.code (.exit 2) e' s'/\bO e' (EL a x o4 o5 ot o8 o9 d row row.length)/\WI S dn h n q u z sp row.length/\
   cA s' I d (h.map eI) b z [(o9,[w,.bool fo,.bool lo]),(o8,eI sp),(o5,[.mp oh,.mp ow,dp]),(o4,eI (0,[]))] [(oh,gG kQ n),(ow,gG kQ u),(ot,gG iV q)]:=by
 refine fG ho row.length
  (λj e s=>∃(F:cg) (v7:HV) (aw:bc) (td:List lN) (H:List (lN×HV)) (T:List (Int×HV)) (W:List (lN×HV)) (L:cS),bO e (EL a x o4 o5 ot o8 o9 v7 row j)/\WI S dn td H T W L sp j/\
   cA s F v7 (td.map eI) aw L [(o9,[w,.bool fo,.bool lo]),(o8,eI sp),(o5,[.mp oh,.mp ow,dp]),(o4,eI (0,[]))] [(oh,gG kQ H),(ow,gG kQ W),(ot,gG iV T)])
  (λo=>∃e' s' I d b h n q u z,o=.code (.exit 2) e' s'/\bO e' (EL a x o4 o5 ot o8 o9 d row row.length)/\WI S dn h n q u z sp row.length/\
   cA s' I d (h.map eI) b z [(o9,[w,.bool fo,.bool lo]),(o8,eI sp),(o5,[.mp oh,.mp ow,dp]),(o4,eI (0,[]))] [(oh,gG kQ n),(ow,gG kQ u),(ot,gG iV q)])
  0 (by omega) ⟨F,v7,aw,td,H,T,W,L,m,D,E⟩
  (λj e s r hj ⟨F,v7,aw,td,H,T,W,L,m,D,E⟩ J=>by
   obtain⟨e',s',I,d,b,h,n,q,u,z,h1,h2,h3,h4⟩:=aak ok V X M A Y Z hh C O (aO hj) D E m;exact .inl ⟨e',s',by rw[<-J];exact h1,I,d,b,h,n,q,u,z,h2,h3,h4⟩)
  (λe s r ⟨F,v7,aw,td,H,T,W,L,m,D,E⟩ J=>by
   have h5:=m;simp only[EL,ab,ae]at m;simp[U.tJ,m]at J;subst J;exact⟨by simp,_,_,F,v7,aw,td,H,T,W,L,rfl,by simp[m],D,E⟩)
@[simp]def EO(a:Ar)(x:Fa)(o4 o5 ot:Ky)(v7:HV):List (Nat×HV):=[(1,.ax (sO a x)),(4,.ptr o4 0),(5,.ptr o5 0),(6,.mp ot),(7,v7)]
variable{au:aR}{K:dV}{Q:List (Ky×List (HV×HV))}
def LD(h:cA s F v7 au aw L K Q)(b:bO e (EO a x o4 o5 ot v7)):
  ∃e',ev R U.Fl e s=.code .normal e' s/\look e' 35=some (.bool (decide (0<au.length)))/\bO e' (EO a x o4 o5 ot v7):=by
 have m:=h.q.len (s1:=s);generalize d:ev R U.Fl e s=r;simp only[EO,ab,ae]at b;simp[b,m]at d;subst d;exact⟨_,rfl,by simp[b]⟩
def UD{p:lN}{au:aR}(u:cA s F v7 (eI p::au) aw L K Q)(m:bO e (EO a x o4 o5 ot v7)):
  ∃e' s' o8,ev R U.Fm e s=.code .normal e' s'/\bO e' (EO a x o4 o5 ot v7++[(8,.ptr o8 0)])/\cA s' F v7 (eI p::au) aw L ((o8,eI p)::K) Q:=by
 obtain⟨E,C,D,I,z⟩:=u.q.head;have n:=D .i64;have b:=u.cY (eI p);have d:=(b.k.bz 0 _ _ rfl).1.1;generalize h:HS.mk _ _ _ _=J at b d;simp only[eI,iV,aA,aE,bw,Nat.reduceAdd]at h d z;generalize A:ev R U.Fm e s=r;simp only[EO,ab,ae]at m;simp[m,n,z,h,ah,an]at A;subst A;exact⟨_,_,s.nx,rfl,by simp[m],b⟩
def UE{p:lN}{au:aR}(u:cA s F v7 (eI p::au) aw L K Q)(h:bO e (EO a x o4 o5 ot v7++[(8,.ptr o8 0)])):
  ∃e' b,ev R U.Fo e s=.code .normal e' s/\bO e' (EO a x o4 o5 ot b++[(8,.ptr o8 0)])/\cA s F b au aw L K Q:=by
 obtain⟨n,m,z⟩:=u.aah (e:=e);have m:DI (some v7) (λ_=>some 1) (λd=>some d) none 2 s=.v n s:=m;generalize q:ev R U.Fo e s=r;simp only[EO,bB,bD,ab,ae]at h;simp[h,m]at q;subst q;exact⟨_,n,rfl,by simp[h],z⟩
def UF{w:HV}{fo lo:Bool}(m:cA s F v7 au aw L [(o8,eI sp),(o5,[.mp oh,.mp ow,dp]),(o4,eI (0,[]))] Q)(I:Q[0]?=some (oh,gG kQ H))(J:lkp sp H=some (.agg [w,.bool fo,.bool lo]))(X:cellsOf w=some [w])
  (q:bO e (EO a x o4 o5 ot v7++[(8,.ptr o8 0)])):
  ∃e' s' o9,ev R U.Fp e s=.code .normal e' s'/\bO e' (EO a x o4 o5 ot v7++[(8,.ptr o8 0),(9,.ptr o9 0)])/\cA s' F v7 au aw L [(o9,[w,.bool fo,.bool lo]),(o8,eI sp),(o5,[.mp oh,.mp ow,dp]),(o4,eI (0,[]))] Q:=by
 have M:=(m.k.bz 0 _ _ rfl).1.1;have O:=(m.k.bz 1 _ _ rfl).1.1;have u:=aae (K:=IZ) lH ov (m.mp 0 _ _ I).1 sp (.agg [.ai,.bool false,.bool false]);rw[J]at u;have b:=m.cY [.ai,.bool false,.bool false];have z:=(b.k.bz 1 _ _ rfl).1.1;have A:=(b.k.bz 2 _ _ rfl).1.1;have n:=aae (K:=IZ) lH ov (b.mp 0 _ _ I).1 sp (.agg [.ai,.bool false,.bool false]);rw[J]at n;generalize d:HS.mk _ _ _ _=Sz at b z A n;have h:cellsOf (.agg [w,.bool fo,.bool lo])=some [w,.bool fo,.bool lo]:=by simp[cellsOf]
 obtain⟨Y,C,D⟩:=b.put (a:=0) rfl (x:=.agg [w,.bool fo,.bool lo]) h rfl;have E:=eQ (l:=[w,.bool fo,.bool lo]) C h rfl;simp only[eI,kQ,iV,iY,aA,aE,bw,Nat.reduceAdd]at M O u z A n d C E;generalize V:ev R U.Fp e s=r;simp only[EO,bB,bD,ab,ae]at q;simp[q,M,O,u,d,z,A,n,C,aj]at V;subst V;exact⟨_,_,_,rfl,by simp[q],D⟩
end
def lI.pl{sp:lN}{y:Sn}{w:HV}{fo lo:Bool}(h:lI sp y w fo lo):sp.1=(y.st:Int):=by rcases h with⟨rfl,rfl,_⟩|⟨_,rfl,_⟩<;>rfl
def lI.len{sp:lN}{y:Sn}{w:HV}{fo lo:Bool}{s:HS}(h:lI sp y w fo lo):yr 0 (some w) s=.v (iV y.mn.op.length) s:=by
 rcases h with⟨_,rfl,rfl,_⟩|⟨_,_,rfl,_⟩
 .rfl
 simp[iV]
def lI.cell{sp:lN}{y:Sn}{w:HV}{fo lo:Bool}(h:lI sp y w fo lo):cellsOf w=some [w]:=by rcases h with⟨_,_,rfl,_⟩|⟨_,_,rfl,_⟩<;>rfl
section
variable{a:Ar}{x:Fa}{o4 o5 ot o8 o9 oh ow:Ky}{v7:HV}{e:En}{s:HS}{F:cg}{aw:bc}{L:cS}{sp:lN}{au:aR}{Q:List (Ky×List (HV×HV))}{y:Sn}{w:HV}{fo lo:Bool}{d0:Int}
def UG(C:lI sp y w fo lo)(h:cA s F v7 au aw L [(o9,[w,.bool fo,.bool lo]),(o8,eI sp),(o5,[.mp oh,.mp ow,iV d0]),(o4,eI (0,[]))] Q)
  (m:bO e (EO a x o4 o5 ot v7++[(8,.ptr o8 0),(9,.ptr o9 0)])):
  ∃e' s' D,ev R U.Fq e s=.code .normal e' s'/\bO e' (EO a x o4 o5 ot v7++[(8,.ptr o8 0),(9,.ptr o9 0)])/\cA s' F v7 au aw L [(o9,[w,.bool fo,.bool lo]),(o8,eI sp),(o5,[.mp oh,.mp ow,iV D]),(o4,eI (0,[]))] Q:=by
 have u:=(h.k.bz 0 _ _ rfl).1.1;have z:=(h.k.bz 2 _ _ rfl).1.1;have b:=λs=>C.len (s:=s)
 obtain⟨E,n,d⟩:=h.y6 (a:=2) rfl 2 (by simp) (x:=iV (max d0 y.mn.op.length)) rfl;have q:=ib n rfl;simp only[cb,aS]at d;simp only[iV,aA,aE,bw,Nat.reduceAdd]at u z n q b;generalize A:ev R U.Fq e s=r;simp only[EO,bB,bD,ab,ae]at m;simp[m,u,z,n,b]at A;subst A;exact⟨_,_,_,rfl,by simp[m],d⟩
def Oi(A:lI sp y w fo lo)(M:y.st<x.nx.length)(O:x.nx.length=x.fi.length)(D:x.fi.getD y.st false=true->y.mn.over=true)(C:cA s F v7 au aw L [(o9,[w,.bool fo,.bool lo]),(o8,eI sp),(o5,[.mp oh,.mp ow,iV d0]),(o4,eI (0,[]))] Q)
  (q:bO e (EO a x o4 o5 ot v7++[(8,.ptr o8 0),(9,.ptr o9 0)])):
  ∃e',ev R U.vO e s=.code .normal e' s/\look e' 75=some (.bool false)/\bO e' (EO a x o4 o5 ot v7++[(8,.ptr o8 0),(9,.ptr o9 0)]):=by
 have E:=(C.k.bz 0 _ _ rfl).1.1;have u:=(C.k.bz 1 _ _ rfl).1.1;have I:=(C.k.bz 3 _ _ rfl).1.1;have h:=λs=>A.len (s:=s)
 have V:=A.pl;have m:y.st<x.fi.length:=by omega
 have J:(y.st:Int)<x.fi.length:=by omega
 have X:=A.zero;have b:qB IZ (.agg [iV sp.1,.str sp.2]) (.agg [iV 0,.str []])=some (!y.mn.begun):=by rw[<-X];exact lH sp (0,[])
 rw[getD_at m]at D;simp only[eI,iV,aA,aE,bw,Nat.reduceAdd]at E u I h b;rw[V]at u b;generalize z:ev R U.vO e s=r;simp only[EO,bB,bD,ab,ae]at q;cases n:x.fi[y.st]with|false=>simp[q,u,m,n]at z;subst z;exact⟨_,rfl,by simp[q]⟩|true=>have d:=D n;unfold Mn.over at d;simp only[aL,bL]at d;rw[d.1]at b;rw[d.2]at h;simp[q,E,u,I,m,n,h,b,aj]at z;subst z;exact⟨_,rfl,by simp[q]⟩
def Oj(u:lI sp y w fo lo)(b:y.st<x.nx.length)(z:cA s F v7 au aw L [(o9,[w,.bool fo,.bool lo]),(o8,eI sp),(o5,[.mp oh,.mp ow,iV d0]),(o4,eI (0,[]))] Q)
  (h:bO e (EO a x o4 o5 ot v7++[(8,.ptr o8 0),(9,.ptr o9 0)])):
  ∃e',ev R U.BR e s=.code .normal e' s/\bO e' (EL a x o4 o5 ot o8 o9 v7 (gl x y.st) 0):=by
 have m:=(z.k.bz 1 _ _ rfl).1.1;have A:=u.pl;have n:(y.st:Int)<x.nx.length:=by omega
 have d:gl x y.st=x.nx[y.st]:=getD_at b _;simp only[eI,iV,aA,aE,bw,Nat.reduceAdd]at m;rw[A]at m;generalize q:ev R U.BR e s=r;simp only[EO,bB,bD,ab,ae]at h;simp[h,m,b]at q;subst q;exact⟨_,rfl,by simp[h,d]⟩
end
structure WO(S:Sn->Prop)(dn td:List lN)(H:List (lN×HV))(T:List (Int×HV))(W:List (lN×HV))(L:cS):Prop where
 hk:H.map Prod.fst=dn++td
 hn:(dn++td).Nodup
 he:∀p∈H,HB S p
 te:∀p∈T,∃y,S y/\p.1=(y.st:Int)/\p.2=.str (rL y.mn.op)
 wl:W.length=L.length
 we:∀(i:Nat) k v,W[i]?=some (k,v)->k∈dn/\∃au,L[i]?=some (v,6,au)/\au.length<=6000
section
variable{a:Ar}{x:Fa}{S:Sn->Prop}{o4 o5 ot oh ow:Ky}{v7:HV}{N:Nat}{e:En}{s:HS}{F:cg}{aw:bc}{L:cS}{dn td:List lN}{H W:List (lN×HV)}{T:List (Int×HV)}{d0:Int}
def aam(ok:dj a)(hc:aB a=0)(Y:cJ x)(b:UA a x S)(C:∀l:List lN,l.Nodup->(∀p∈l,pZ S p)->l.length<=N)(hN:N<=3518437208883){sp:lN}
  (d:WO S dn (sp::td) H T W L)
  (hM:cA s F v7 ((sp::td).map eI) aw L [(o5,[.mp oh,.mp ow,iV d0]),(o4,eI (0,[]))] [(oh,gG kQ H),(ow,gG kQ W),(ot,gG iV T)])
  (hL:bO e (EO a x o4 o5 ot v7)):
  ∃e' s' F' m D E H' T' W' L' Z,ev R U.rl e s=.code .normal e' s'/\bO e' (EO a x o4 o5 ot m)/\WO S (dn++[sp]) E H' T' W' L'/\
   cA s' F' m (E.map eI) D L' [(o5,[.mp oh,.mp ow,iV Z]),(o4,eI (0,[]))] [(oh,gG kQ H'),(ow,gG kQ W'),(ot,gG iV T')]:=by
 obtain⟨e0,q5,r,L0⟩:=LD hM hL;have r:look e0 35=some (.bool true):=by rw[r];simp
 obtain⟨e1,s1,o8,q6,L1,M1⟩:=UD hM L0;obtain⟨e2,v2,q7,L2,M2⟩:=UE M1 L1;have h4:sp∈H.map Prod.fst:=by rw[d.hk];simp
 obtain⟨v,hv⟩:∃v,lkp sp H=some v:=by cases h:lkp sp H with|none=>exact(zs.1 h h4).elim|some v=>exact⟨v,rfl⟩
 obtain⟨y,w,fo,lo,hy,rfl,I⟩:∃y w fo lo,S y/\v=.agg [w,.bool fo,.bool lo]/\lI sp y w fo lo:=by
  rcases d.he _ (wy hv)with h|⟨z,u,J,h⟩
  .exact⟨CI,.ai,false,false,b.st,ct Prod.snd h,.inl ⟨ct Prod.fst h,rfl,rfl,rfl,rfl⟩⟩
  exact⟨z,_,_,_,u,ct Prod.snd h,.inr ⟨J,ct Prod.fst h,rfl,rfl,rfl⟩⟩
 have q:=b.pl y hy;obtain⟨e3,s3,o9,q8,L3,M3⟩:=UF M2 rfl hv I.cell L2;obtain⟨e4,s4,Z,q9,L4,M4⟩:=UG I M3 L3;obtain⟨e5,q10,h5,L5⟩:=Oi I q Y.nf (b.fin y hy) M4 L4;obtain⟨e6,h6,L6⟩:=Oj I q M4 L5;have h7:(gl x y.st).length<=6000:=by rw[show gl x y.st=x.nx[y.st] from getD_at q _];exact Y.row q
 have h8:(dn++[sp]++td).Nodup:=by simpa using d.hn
 have M:sp ∉ dn:=by intro h;have:=BD.1 d.hn;exact this.2.2 sp h sp (by simp) rfl
 have h9:WI S (dn++[sp]) td H T W L sp 0:=⟨by rw[d.hk];simp,h8,d.he,d.te,d.wl,λi k v hi=>by
  obtain⟨u,au,J,h3⟩:=d.we i k v hi;refine⟨Bv _ u,au,J,?_⟩;rw[aq λe=>M (by rw[<-e];exact u)];exact h3,by simp⟩
 generalize ho:ev R (.loop U.tJ) e6 s4=o;obtain⟨e7,s7,F7,m,O,ha,H7,T7,W7,L7,rfl,V,A,M7⟩:=aal ok hc Y b C hN hy I rfl h7 h9 M4 L6 ho;refine⟨e7,s7,F7,m,O,ha,H7,T7,W7,L7,Z,?_,?_,⟨A.hk,A.hn,A.he,A.te,A.wl,λi k v hi=>?_⟩,M7.tail (n:=2)⟩
 .unfold U.rl;rw[FB,uZ q5,LB r];show(Out.code .normal e0 s).ch (ev R U.BZ)=_;show ev R U.BZ e0 s=_;unfold U.BZ;have X:ev R (.seq U.vO (.cond (.t 75) (.seq U.GP .ret) .skip)) e4 s4=.code .normal e5 s4:=by rw[uZ q10,HA h5];rfl
  rw[yn,uZ q6,uZ q7,uZ q8,uZ q9,uZ X,uZ h6];unfold U.JY;rw[yn,ho];rfl
 .simp only[EL,EO,ab,ae]at V ⊢;simp[V]
 obtain⟨u,au,J,h3⟩:=A.we i k v hi;refine⟨u,au,J,?_⟩
 split at h3<;>omega
def aan(ok:dj a)(V:aB a=0)(X:cJ x)(D:UA a x S)(d:∀l:List lN,l.Nodup->(∀p∈l,pZ S p)->l.length<=N)(Y:N<=3518437208883)
  (n:WO S [] td H T W L)
  (h:cA s F v7 (td.map eI) aw L [(o5,[.mp oh,.mp ow,iV d0]),(o4,eI (0,[]))] [(oh,gG kQ H),(ow,gG kQ W),(ot,gG iV T)])
  (m:bO e (EO a x o4 o5 ot v7)){o:Out}(Z:ev R (.loop U.rl) e s=o):
  ∃e' s',o=.code (.exit 0) e' s'/\look e' 5=some (.ptr o5 0):=by
 have exit:∀(e:En) (s:HS) (F:cg) (v7:HV) (aw:bc) (L:cS) (K:dV) (Q:List (Ky×List (HV×HV))),cA s F v7 [] aw L K Q->bO e (EO a x o4 o5 ot v7)->∃e',ev R U.rl e s=.code (.exit 0) e' s/\look e' 5=some (.ptr o5 0):=by
  intro e s F v7 aw L K Q h m;obtain⟨e0,q5,E,M⟩:=LD h m;refine⟨e0,?_,?_⟩
  .unfold U.rl;rw[FB,uZ q5,HA (by rw[E];rfl)];rfl
  simp only[EO,ab,ae]at M;exact M.2.2.1
 refine fG Z N
  (λi e s=>∃(F:cg) (v7:HV) (aw:bc) (dn td:List lN) (H:List (lN×HV)) (T:List (Int×HV)) (W:List (lN×HV)) (L:cS) (d0:Int),dn.length=i/\bO e (EO a x o4 o5 ot v7)/\WO S dn td H T W L/\
   cA s F v7 (td.map eI) aw L [(o5,[.mp oh,.mp ow,iV d0]),(o4,eI (0,[]))] [(oh,gG kQ H),(ow,gG kQ W),(ot,gG iV T)])
  (λo=>∃e' s',o=.code (.exit 0) e' s'/\look e' 5=some (.ptr o5 0))
  0 (by omega) ⟨F,v7,aw,[],td,H,T,W,L,d0,rfl,m,n,h⟩
  (λi e s r hi ⟨F,v7,aw,dn,td,H,T,W,L,d0,u,m,n,h⟩ C=>by
   cases td with
   |nil=>obtain⟨e',b,z⟩:=exit e s F v7 aw L _ _ h m;rw[C]at b;exact .inr ⟨by rw[b];simp,e',s,b,z⟩
   |cons sp td=>
    obtain⟨e',s',F',I,A,J,H',T',W',L',d1,b,z,h3,h4⟩:=aam ok V X D d Y n h m;exact .inl ⟨e',s',by rw[<-C];exact b,F',I,A,dn++[sp],J,H',T',W',L',d1,by simp[u],z,h3,h4⟩)
  (λe s r ⟨F,v7,aw,dn,td,H,T,W,L,d0,u,m,n,h⟩ C=>by
   cases td with
   |nil=>obtain⟨e',b,z⟩:=exit e s F v7 aw L _ _ h m;rw[C]at b;exact⟨by rw[b];simp,e',s,b,z⟩
   |cons sp td=>
    have:=d _ n.hn (λp O=>by
     rw[<-n.hk]at O;obtain⟨q,hq,rfl⟩:=dA.1 O;exact(n.he q hq).spot)
    simp at this;omega)
end
section
variable{s s':HS}{K:dV}{Q:List (Ky×List (HV×HV))}
structure fK(s:HS)(K:dV)(Q:List (Ky×List (HV×HV))):Prop where
 k:aI s (λ_=>none) [] K
 mp:∀(a:Nat) o es,Q[a]?=some (o,es)->ao s.h o=some (.mp es)/\o.toNat<s.nx.toNat
 nd:∀(a b:Nat) o es LP,Q[a]?=some (o,es)->Q[b]?=some (o,LP)->a=b
def fK.start(s:HS):fK s [] []:=
 ⟨⟨⟨λk i h=>(by cases h),λk i h=>(by cases h),λi v sz au h=>(by simp at h)⟩,by simp,by simp⟩,by simp,by simp⟩
def fK.frame(h:fK s K Q)(b:di (λ_=>False) s s'):fK s' K Q:=
 ⟨h.k.frame b,λa o m n=>by
  obtain⟨q,d⟩:=h.mp a o m n;exact⟨by rw[b.2.2.1 o d (λh=>h)];exact q,ej d b.1⟩,h.nd⟩
def fK.cY(h:fK s K Q)(c:ak):fK {h:=av (some (.cells (cR c) 0 c.length s.nx)) s.nx s.h,nx:=s.nx.succ,gr:=av (some [s.nx]) s.nx s.gr,ty:=s.ty} ((s.nx,c)::K) Q:=
 ⟨h.k.cY c,(h.frame (di.alloc (s:=s) (.cells (cR c) 0 c.length s.nx) [s.nx])).mp,h.nd⟩
def fK.UH(h:fK s K Q)(m:List (HV×HV)):fK {h:=av (some (.mp m)) s.nx s.h,nx:=s.nx.succ,gr:=s.gr,ty:=s.ty} K ((s.nx,m)::Q):=by
 have A:=Ky.ba s.nx;have z:di (λ_=>False) s {h:=av (some (.mp m)) s.nx s.h,nx:=s.nx.succ,gr:=s.gr,ty:=s.ty}:=⟨by simp only;omega,rfl,λp C _=>by simp only;rw[af,aq λe=>by subst e;omega],λ_ _ _=>rfl⟩;have u:=h.frame z;refine⟨u.k,λa o r d=>?_,λa b o r q d n=>?_⟩
 .cases a with|zero=>simp at d;obtain⟨rfl,rfl⟩:=d;exact⟨by simp only;rw[af,ar rfl],by simp only;omega⟩|succ a=>exact u.mp a o r d
 cases a with
 |zero=>cases b with|zero=>rfl|succ b=>simp at d n;have:=(h.mp b o q n).2;rw[<-d.1]at this;exact(gR _ this).elim
 |succ a=>cases b with|zero=>simp at d n;have:=(h.mp a o r d).2;rw[<-n.1]at this;exact(gR _ this).elim|succ b=>simp at d n;rw[h.nd a b o r q d n]
def fK.toW(h:fK s K Q){t:aR}(d:Sz 2 t):cA {h:=av (some (.cells (cR (aD t)) 0 (aD t).length s.nx)) s.nx s.h,nx:=s.nx.succ,gr:=av (some [s.nx]) s.nx s.gr,ty:=s.ty} (λk=>k=s.nx) (.sl s.nx 0 t.length 2) t (λ_=>none) [] K Q:=by
 have q:=Ky.ba s.nx;have r:=di.alloc (s:=s) (.cells (cR (aD t)) 0 (aD t).length s.nx) [s.nx];have m:=h.frame r;refine⟨m.k,?_,λ_ _=>rfl,λa o c b e=>?_,λa o n b=>?_,h.nd⟩
 .refine bY.toO ⟨d,λk u=>by subst u;simp only;omega,.inr ⟨s.nx,cR (aD t),(aD t).length,s.nx,[],rfl,?_,by rw[cQ d];exact aY _,by simp,?_,by simp,by simp,rfl⟩⟩ (by simp)
  .simp only;rw[af,ar rfl]
  simp only;rw[af,ar rfl]
 .have:=(h.k.bz a o c b).1.2.2;rw[e]at this;exact gR _ this
 obtain⟨z,A⟩:=m.mp a o n b;refine⟨z,A,rfl,λe=>?_⟩;have:=(h.mp a o n b).2;rw[e]at this;exact gR _ this
def fK.O7{o:Ky}{es:List (HV×HV)}(h:fK s K ((o,es)::Q))(m:List (HV×HV)):fK (s.aK o (.mp m)) K ((o,m)::Q):=by
 obtain⟨A,C⟩:=h.mp 0 o es rfl;have D:di (λp=>p=o) s (s.aK o (.mp m)):=⟨aY _,rfl,λp _ E=>by simp only[HS.aK];rw[af,aq E],λ_ _ _=>rfl⟩;refine⟨h.k.Gl D (λk i I=>by cases I) (λa p c q e=>?_),λa p n q=>?_,λa b p d n q J=>?_⟩
 .have r:=(h.k.bz a p c q).1.1;rw[e,A]at r;cases r
 .cases a with|zero=>simp at q;obtain⟨rfl,rfl⟩:=q;exact⟨by simp only[HS.aK];rw[af,ar rfl],C⟩|succ a=>
   obtain⟨M,O⟩:=h.mp (a+1) p n q;have u:p≠o:=λe=>by subst e;have:=h.nd 0 (a+1) p es n rfl q;omega
   exact⟨by simp only[HS.aK];rw[af,aq u];exact M,O⟩
 have key:∀(a:Nat) d,((o,m)::Q)[a]?=some (p,d)->∃z,((o,es)::Q)[a]?=some (p,z):=by intro a d r;cases a with|zero=>simp at r;exact⟨es,by simp[r.1]⟩|succ a=>exact⟨d,r⟩
 obtain⟨_,r⟩:=key a d q;obtain⟨_,V⟩:=key b n J;exact h.nd a b p _ _ r V
def fK.put(h:fK s K Q){a:Nat}{o:Ky}{c new:ak}(m:K[a]?=some (o,c)){x:HV}(z:cellsOf x=some new)(A:new.length=c.length):∃s',qj c.length (some (.ptr o 0)) (some x) s=.v .undef s'/\fK s' (K.set a (o,new)) Q:=by
 obtain⟨s',d,C,n,_⟩:=(h.k.bz a o c m).1.put z A;refine⟨s',d,h.k.cell m C n,λb p D E=>?_,h.nd⟩;obtain⟨r,u⟩:=h.mp b p D E;have q:p≠o:=λe=>by subst e;have d:=(h.k.bz a p c m).1.1;rw[r]at d;cases d
 exact⟨by rw[n.2.2.1 p u q];exact r,ej u n.1⟩
def fK.ahU{m n q:Ky×List (HV×HV)}(h:fK s K [m,n,q]):fK s K [q,n,m]:=by
 have key:∀(a:Nat) r,[q,n,m][a]?=some r->a<=2/\ [m,n,q][2-a]?=some r:=by
  intro a r d
  match a with|0=>exact⟨by omega,d⟩|1=>exact⟨by omega,d⟩|2=>exact⟨by omega,d⟩|a+3=>simp at d
 refine⟨h.k,λa o u d=>h.mp _ o u (key a _ d).2,λa b o u z d A=>?_⟩;obtain⟨E,C⟩:=key a _ d;obtain⟨I,D⟩:=key b _ A;have:=h.nd _ _ o u z C D;omega
end
def ahV{a:Ar}{x:Fa}{S:Sn->Prop}{N:Nat}(ok:dj a)(hc:aB a=0)(hx:cJ x)(b:UA a x S)(d:∀l:List lN,l.Nodup->(∀p∈l,pZ S p)->l.length<=N)(hN:N<=3518437208883)(s:HS):
  ∃o5 s',R (.call 150 [.agg (sO a x)] s)=.val (.bN [.ptr o5 0,.bool true]) s':=by
 have M0:=(fK.start s).cY (eI (0,[]));generalize m:HS.mk _ _ _ _=h1 at M0;obtain⟨s1,E,I⟩:=M0.put (a:=0) rfl (x:=.agg (eI (0,[]))) (new:=eI (0,[])) rfl rfl;have J:=eQ (l:=eI (0,[])) E rfl rfl;simp only[aS]at I;have c1:=(I.k.bz 0 _ _ rfl).1.1;have z:=I.UH [];have M:=(z.k.bz 0 _ _ rfl).1.1;have A:=muV (K:=IZ) (f:=kQ) (l:=[]) lH ov (z.mp 0 _ _ rfl).1 (0,[]) (.agg [.ai,.bool false,.bool false]);generalize O:HS.mk _ _ _ _=s2 at z M A;have M3:=z.O7 (gG kQ (ny (0,[]) (.agg [.ai,.bool false,.bool false]) []));generalize h4:HS.aK _ _ _=s3 at M3 A;have M4:=M3.UH [];generalize V:HS.mk _ _ _ _=X at M4;have M5:=M4.cY [.mp s1.nx,.mp s3.nx,iV 0];generalize n:HS.mk _ _ _ _=s5 at M5;have Y:=M5.UH [];have C:=muV (K:=KI) (f:=iV) (l:=[]) l7 (λ_=>rfl) (Y.mp 0 _ _ rfl).1 0 (.str []);generalize Z:HS.mk _ _ _ _=s6 at Y C;have M7:=Y.O7 (gG iV (ny 0 (.str []) []));generalize h6:HS.aK _ _ _=s7 at M7 C;have c7:=(M7.k.bz 1 _ _ rfl).1.1;have M8:=M7.ahU.toW (t:=[eI (0,[])]) (Sz.cons rfl Sz.nil);simp only[dw,mV,Co]at M8;generalize q:HS.mk _ _ _ _=s8 at M8;simp only[eI,kQ,iV,aA,aE,bw,Nat.reduceAdd]at c1 M A E J m n C c7 q;have hI:WO S [] [(0,[])] (ny ((0,[]):lN) (.agg [.ai,.bool false,.bool false]) []) (ny (0:Int) (.str []) []) [] []:=
  ⟨rfl,by simp,λp hp=>.inl (by simpa[ny,lkp]using hp),λp hp=>⟨CI,b.st,by
   have:p=((0:Int),HV.str []):=by simpa[ny,lkp]using hp
   rw[this];exact⟨rfl,rfl⟩⟩,rfl,λi k v h=>by simp at h⟩
 have hE:∃u s',ev R U.MF (bn [.agg (sO a x)] 0) s=.code .ret u s'/\look u 2=some (.ptr X.nx 0)/\look u 3=some (.bool true):=by generalize D:ev R U.MF (bn [.agg (sO a x)] 0) s=r;simp[U.MF,U.JZ,m,E,O,M,A,V,n,Z,C,c7,q,aj]at D;generalize ho:ev R (.loop U.rl) _ _=o at D;obtain⟨e9,s9,rfl,h5⟩:=aan ok hc hx b d hN (o4:=s.nx) (o5:=X.nx) (ot:=s5.nx) hI (d0:=0) (v7:=.sl s7.nx 0 1 2) M8 (by simp) ho;clear ho;simp[h5]at D;subst D;exact⟨_,_,rfl,by simp⟩
 obtain⟨u,s',hE,h2,h3⟩:=hE;exact⟨X.nx,s',ae0 rfl ⟨.ret,u,s',hE,.inr rfl,by simp[h2,h3]⟩⟩
def spo(y:Sn):lN:=if y.mn.begun=true then((y.st:Int),oK y.mn)else(0,[])
def LG{S:Sn->Prop}{g:j8}(h0:CI∈g)(d:∀y,S y->y∈g)(l:List lN)(h:l.Nodup)(m:∀p∈l,pZ S p):l.length<=g.length:=by
 have:=sL (l:=l) (l':=g.map spo) h (λp b=>by
  rcases m p b with rfl|⟨y,n,q,rfl⟩
  .exact dA.2 ⟨CI,h0,rfl⟩
  exact dA.2 ⟨y,d y n,by unfold spo;rw[ar q]⟩)
 simpa using this
section
variable{a:Ar}{x:Fa}{N:Nat}{g:Lg}
def ahW(ok:dj a)(n:aB a=0)(q:cJ x)(C:tV x)(D:gW x=x)(E:Gc x)(I:x.nx.length<=24)(J:fJ a x N=some g)(M:g.l.length<=N)(O:N<=3518437208883)(s:HS):
  ∃o5 s',R (.call 121 [.agg (sO a x)] s)=.val (.bN [.ptr o5 0,iV 0]) s':=by
 have h:=w82 a ok;rw[n]at h;have b:=ahJ x q C D E I;have z:=Hx q n J M;obtain⟨o5,s',d⟩:=ahV ok n q z (LG z.st (λy V=>V)) (by omega) s;have u:∃m,ev R U.Ms (bn [.agg (sO a x)] 0) s=.code .ret m s'/\look m 2=some (.ptr o5 0)/\look m 3=some (iV 0):=by generalize A:ev R U.Ms (bn [.agg (sO a x)] 0) s=r;simp only[Ar.c,iV]at h;simp only[Fa.c,iV]at b;simp only[sO]at d;simp[U.Ms,h,b,d]at A;subst A;exact⟨_,rfl,by simp[iV]⟩
 obtain⟨m,u,X,Y⟩:=u;exact⟨o5,s',aeC rfl ⟨.ret,m,s',u,.inr rfl,by simp[X,Y]⟩⟩
def w84(ok:dj a)(h:aB a=0)(m:cJ x)(n:tV x)(q:gW x=x)(r:Gc x)(u:x.nx.length<=24)(z:fJ a x N=some g)(A:g.l.length<=N)(d:N<=3518437208883)(s:HS):
  R (.call 84 [.agg (sO a x)] s)=.val (iV 0) s:=by
 refine q84 ?_;obtain⟨o5,s',b⟩:=ahW ok h m n q r u z A d s0;simp only[sO]at b;simp[U.b84,b,aa]
end
def uq(m:Mv):Bool:=decide (m.kind=3)==(decide (0<m.id)&&decide (m.arg=0))
def w50(m:Mv)(s:HS):R (.call 50 [.agg m.c] s)=.val (.bool (uq m)) s:=by refine q50 ?_;by_cases h:0<m.id<;>simp[U.b50,h,aa,uq]
def mP(x:Fa)(p:Nat)(m:Mv):Int:=match(gl x p).find? (λe=>decide (e.m=m))with|some e=>e.to|none=> -1
def Gn{x:Fa}{p:Nat}{m:Mv}{i:Nat}(b:i<(gl x p).length)(d:(gl x p)[i].m=m)(n:∀j (h:j<(gl x p).length),j<i->¬(gl x p)[j].m=m):mP x p m=((gl x p)[i].to:Int):=by unfold mP;rw[List.find?_eq_some_iff_getElem.2 ⟨by simpa using d,i,b,rfl,λj q=>by simpa using n j (by omega) q⟩]
def Gp{x:Fa}{p:Nat}{m:Mv}(h:∀j (h:j<(gl x p).length),¬(gl x p)[j].m=m):mP x p m= -1:=by
 unfold mP;rw[KD.2 λe b=>by
  obtain⟨j,d,rfl⟩:=eH.1 b;simpa using h j d]
def w90{x:Fa}(Z:cJ x){p:Nat}(O:p<x.nx.length)(m:Mv)(s:HS):R (.call 90 [.agg x.c,iV p,.agg m.c] s)=.val (iV (mP x p m)) s:=by
 refine q90 ?_;have h3:(p:Int)<x.nx.length:=by omega
 have q:x.nx[p]=gl x p:=(getD_at O _).symm;have V:(gl x p).length<=6000:=by rw[<-q];exact Z.row O
 simp[U.b90,O,q];generalize X:bK R (.loop U.Dy) _ _=o;obtain⟨row,D⟩:∃row,row=gl x p:=⟨_,rfl⟩;rw[<-D]at V X;have hq:(∃(i:Nat) (h:i<row.length),row[i].m=m/\(∀j (h:j<row.length),j<i->¬row[j].m=m)/\∃b s',o=.code .ret b s'/\look b 6=some (iV row[i].to))∨((∀j (h:j<row.length),¬row[j].m=m)/\∃b s',o=.code (.exit 0) b s'):=by
  refine aX X row.length
   (λi e s=>bO e [(5,.ax m.c),(14,.psl (row.map Eg.c)),(15,iV row.length),(16,iV i)]/\∀j (h:j<row.length),j<i->¬row[j].m=m)
   (λo=>(∃(i:Nat) (h:i<row.length),row[i].m=m/\(∀j (h:j<row.length),j<i->¬row[j].m=m)/\∃b s',o=.code .ret b s'/\look b 6=some (iV row[i].to))∨((∀j (h:j<row.length),¬row[j].m=m)/\∃b s',o=.code (.exit 0) b s'))
   0 (by omega) ⟨by simp,λj _ h=>by omega⟩
   (λi e s r C ⟨u,J⟩ z=>by
    have E:(i:Int)<row.length:=by omega
    have I:=(fK.start s).cY (row[i]).c;have n:=(I.k.bz 0 _ _ rfl).1.1;generalize A:HS.mk _ _ _ _=S1 at I n;have d:=rC row[i].m m;have hw:=bj C (by omega);simp only[Eg.c,Mv.c,aA,aE,bw,Nat.reduceAdd]at n A d;simp only[ab,ae]at u;by_cases M:row[i].m=m
    .rw[cV M]at d;simp[U.Dy,u,C,E,A,n,ah,an,aj,d]at z;subst z;exact .inr ⟨by simp,.inl ⟨i,C,M,J,_,_,rfl,by simp[iV]⟩⟩
    rw[cu M]at d;simp[U.Dy,u,C,E,A,n,ah,an,aj,d,hw]at z;subst z;refine .inl ⟨_,_,rfl,by simp[u],λj h hj=>?_⟩;by_cases Y:j=i
    .subst Y;exact M
    exact J j h (by omega))
   (λe s r ⟨u,J⟩ z=>by
    simp only[ab,ae]at u;simp[U.Dy,u]at z;subst z;exact⟨by simp,.inr ⟨λj h=>J j h h,_,_,rfl⟩⟩)
 clear X;subst D;rcases hq with⟨i,C,h1,h2,b,s',rfl,h6⟩|⟨h,b,s',rfl⟩
 .rw[Gn C h1 h2];simp[h6,aa]
 rw[Gp h];simp[aa]
def Er{x:Fa}(d:cJ x){p:Nat}(b:p<x.nx.length)(m:Mv):mP x p m= -1∨∃q:Nat,mP x p m=q/\q<x.nx.length:=by unfold mP;cases h:(gl x p).find? (λe=>decide (e.m=m))with|none=>exact .inl rfl|some e=>refine .inr ⟨e.to,rfl,?_⟩;have:=FQ h;rw[show gl x p=x.nx[p] from getD_at b _]at this;exact d.to _ (bX b) e this
def kG(x:Fa):Nat->Nat->aP->Int×Int
 |p,i,[]=>(p,i)
 |p,i,m::r=>if mP x p m= -1 then(-1,i)else kG x (mP x p m).toNat (i+1) r
def w48{x:Fa}(I:cJ x)(l:aP)(hl:l.length<=4611686018427387904)(s:HS):R (.call 48 [.agg x.c,.psl (l.map Mv.c)] s)=.val (.bN [iV (kG x 0 0 l).1,iV (kG x 0 0 l).2]) s:=by
 refine q48 ?_;simp[U.b48];generalize Z:bK R (.loop U.Du) _ _=o;have J:(∃(i:Nat),kG x 0 0 l=(-1,(i:Int))/\∃b s',o=.code .ret b s'/\look b 4=some (iV (-1))/\look b 5=some (iV i))∨(∃p:Nat,kG x 0 0 l=((p:Int),(l.length:Int))/\∃b s',o=.code (.exit 0) b s'/\look b 4=some (iV p)/\look b 1=some (.psl (l.map Mv.c))):=by
  refine aX Z l.length
   (λi e s=>∃p:Nat,p<x.nx.length/\kG x 0 0 l=kG x p i (l.drop i)/\bO e [(1,.psl (l.map Mv.c)),(2,.ax x.c),(4,iV p),(8,.psl (l.map Mv.c)),(9,iV l.length),(10,iV i)])
   (λo=>(∃(i:Nat),kG x 0 0 l=(-1,(i:Int))/\∃b s',o=.code .ret b s'/\look b 4=some (iV (-1))/\look b 5=some (iV i))∨(∃p:Nat,kG x 0 0 l=((p:Int),(l.length:Int))/\∃b s',o=.code (.exit 0) b s'/\look b 4=some (iV p)/\look b 1=some (.psl (l.map Mv.c))))
   0 (by omega) ⟨0,I.pos,rfl,by simp[iV]⟩
   (λi e s r E ⟨p,M,h,n⟩ u=>by
    have A:(i:Int)<l.length:=by omega
    have C:=(fK.start s).cY (l[i]).c;have m:=(C.k.bz 0 _ _ rfl).1.1;generalize z:HS.mk _ _ _ _=S1 at C m;have d:=w90 I M l[i];have hw:=bj E hl;have fY:l.drop i=l[i]::l.drop (i+1):=oY E;rw[fY,kG]at h;simp only[Mv.c,aA,aE,bw,Nat.reduceAdd]at m z;simp only[Fa.c,Mv.c,iV]at d;simp only[ab,ae]at n;rcases Er I M l[i]with O|⟨q,O,J⟩
    .rw[O]at d h;rw[ar rfl]at h;simp[U.Du,n,E,A,z,m,ah,an,aj,d]at u;subst u;exact .inr ⟨by simp,.inl ⟨i,h,_,_,rfl,by simp[iV]⟩⟩
    rw[O]at d h;have D:¬(q:Int)= -1:=by omega
    rw[aq D,jy]at h;simp[U.Du,n,E,A,z,m,ah,an,aj,d,D,hw]at u;subst u;exact .inl ⟨_,_,rfl,q,J,h,by simp[n,iV]⟩)
   (λe s r ⟨p,M,h,n⟩ u=>by
    simp only[ab,ae]at n;simp[U.Du,n]at u;subst u;rw[Br (aY _),kG]at h;exact⟨by simp,.inr ⟨p,h,_,_,rfl,by simp[n]⟩⟩)
 clear Z;rcases J with⟨i,V,b,s',rfl,X,Y⟩|⟨p,V,b,s',rfl,X,Y⟩
 .rw[V];simp[X,Y,aa]
 rw[V];simp[X,Y,aa]
def ur(a b:Bs):qB ⟨true,[1,0]⟩ (.agg a.c) (.agg b.c)=some (decide (a=b)):=by simp only[Bs.c];rw[so _ _ _ rfl rfl,dQ _ _ _ _ _ _ (Kl ..) (dQ _ _ _ _ _ _ (fm ..) sn)];obtain⟨c,n⟩:=a;obtain⟨c',d⟩:=b;cases c<;>cases c'<;>simp
def ahX(l l':pP)(O:l.length<=4611686018427387904)(s:HS):R (.call 123 [.psl (l.map Bs.c),.psl (l'.map Bs.c)] s)=.val (.bool (decide (l=l'))) s:=by
 refine aeE ?_;by_cases C:l.length=l'.length
 case neg=>
  rw[cu (λh=>C (by rw[h]))];have D:¬(l.length:Int)=l'.length:=by omega
  simp[U.QF,D,aa]
 simp[U.QF,C.symm];generalize J:bK R (.loop U.xJ) _ _=o;have V:=jh J l.length (λi=>∀(E:i<l.length) (M:i<l'.length),l[i]=l'[i]) (λi=>[(0,.psl (l.map Bs.c)),(1,.psl (l'.map Bs.c)),(12,iV l.length),(13,iV i)]) [] 0 (λ_ o=>∃z,o=.code .ret z s0/\look z 4=some (.bool false)) (by simp[iV])
  (λi e r n d m=>by
   have q:(i:Int)<l.length:=by omega
   have I:i<l'.length:=by omega
   have X:(i:Int)<l'.length:=by omega
   have b:=ur l[i] l'[i];simp only[Bs.c]at b;simp only[ab,ae]at d;by_cases A:l[i]=l'[i]
   .rw[cV A]at b;simp[U.xJ,d,n,q,I,b,bj n O]at m;subst m;exact .inl ⟨λ_ _=>A,_,rfl,by simp[d]⟩
   rw[cu A]at b;simp[U.xJ,d,n,q,I,b]at m;subst m;exact .inr ⟨λh=>A (h n I),by simp,_,rfl,by simp⟩)
  (λe r d m=>by
   simp only[ab,ae]at d;simp[U.xJ,d]at m;subst m;exact⟨_,rfl,by simp⟩)
 clear J;rcases V with⟨i,n,_,Y,z,rfl,Z⟩|⟨u,z,rfl,d⟩
 .rw[cu (λh=>Y (by subst h;exact λ_ _=>rfl))];simp[Z,aa]
 rw[cV (ix C (λi E M=>u i E E M))];simp[aa]
def ahY(t u:Ty)(m:t.ps.length<=4611686018427387904)(s:HS):R (.call 122 [.agg t.c,.agg u.c] s)=.val (.bool (decide (t=u))) s:=by
 refine aeD ?_;have d:=ahX t.ps u.ps m;have b:=ur t.res u.res;have n:decide (t=u)=(decide (t.res=u.res)&&decide (t.ps=u.ps)):=by obtain⟨p,r⟩:=t;obtain⟨q,z⟩:=u;simp[Bool.and_comm]
 simp only[Bs.c]at b;rw[n];by_cases h:t.res=u.res
 .rw[cV h]at b ⊢;simp[U.QE,b,d,aa]
 rw[cu h]at b ⊢;simp[U.QE,b,aa]
def w67(t u:Ty)(V:t.ps.length<=4611686018427387904)(s:HS):R (.call 67 [.agg t.c,.agg u.c] s)=.val (.bool (decide (t=u))) s:=by
 refine q67 ?_;have b:=ur t.res u.res;simp only[Bs.c]at b;by_cases C:t.ps.length=u.ps.length
 case neg=>
  rw[cu (λh=>C (by rw[h]))];have I:¬(t.ps.length:Int)=u.ps.length:=by omega
  simp[U.b67,I,aa]
 by_cases d:t.res=u.res
 case neg=>rw[cu (λh=>d (by rw[h]))];rw[cu d]at b;simp[U.b67,C,b,aa]
 rw[cV d]at b;simp[U.b67,C.symm,b];generalize M:bK R (.loop U.Dw) _ _=o;have X:=jh M t.ps.length (λi=>∀(n:i<t.ps.length) (O:i<u.ps.length),t.ps[i]=u.ps[i]) (λi=>[(2,.ax t.c),(3,.ax u.c),(5,iV i)]) [] 0 (λ_ o=>∃D,o=.code .ret D s0/\look D 4=some (.bool false)) (by simp[iV])
  (λi e r q m d=>by
   have z:(i:Int)<t.ps.length:=by omega
   have J:i<u.ps.length:=by omega
   have Y:(i:Int)<u.ps.length:=by omega
   have b:=ur t.ps[i] u.ps[i];simp only[Bs.c]at b;simp only[ab,ae]at m;by_cases E:t.ps[i]=u.ps[i]
   .rw[cV E]at b;simp[U.Dw,m,q,z,J,b,bj q V]at d;subst d;exact .inl ⟨λ_ _=>E,_,rfl,by simp[m]⟩
   rw[cu E]at b;simp[U.Dw,m,q,z,J,b]at d;subst d;exact .inr ⟨λh=>E (h q J),by simp,_,rfl,by simp⟩)
  (λe r m d=>by
   simp only[ab,ae]at m;simp[U.Dw,m]at d;subst d;exact⟨_,rfl,by simp⟩)
 clear M;rcases X with⟨i,q,_,Z,D,rfl,h4⟩|⟨A,D,rfl,m⟩
 .rw[cu (λh=>Z (by subst h;exact λ_ _=>rfl))];simp[h4,aa]
 have n:=ix C (λi n O=>A i n n O);rw[cV (show t=u by obtain⟨p,r⟩:=t;obtain⟨p',r'⟩:=u;simp only at n d;rw[n,d])];simp[aa]
def w30(a b:Ar)(ok:dj a)(s:HS):R (.call 30 [.agg a.c,.agg b.c] s)=.val (.bool (decide (a=b))) s:=by
 refine q30 ?_;have d:=ur a.root b.root;simp only[Bs.c]at d;have hl:=ok.1;by_cases D:a.ids.length=b.ids.length
 case neg=>
  rw[cu (λh=>D (by rw[h]))];have O:¬(a.ids.length:Int)=b.ids.length:=by omega
  simp[U.Wx,O,aa]
 by_cases m:a.root=b.root
 case neg=>rw[cu (λh=>m (by rw[h]))];rw[cu m]at d;simp[U.Wx,D,d,aa]
 rw[cV m]at d;by_cases z:a.jumps=b.jumps
 case neg=>
  rw[cu (λh=>z (by rw[h]))];have V:(a.jumps != b.jumps)=true:=by simpa using z
  simp[U.Wx,D,d,V,aa]
 simp[U.Wx,D.symm,d,z.symm];generalize Y:bK R (.loop U.Dt) _ _=o;have hq:=jh Y a.ids.length (λi=>∀(A:i<a.ids.length) (Z:i<b.ids.length),a.ids[i]=b.ids[i]) (λi=>[(2,.ax a.c),(3,.ax b.c),(5,iV i)]) [] 0 (λ_ o=>∃J,o=.code .ret J s0/\look J 4=some (.bool false)) (by simp[iV,z])
  (λi e r C u m=>by
   have E:(i:Int)<a.ids.length:=by omega
   have X:i<b.ids.length:=by omega
   have h3:(i:Int)<b.ids.length:=by omega
   have n:=w67 a.ids[i] b.ids[i] (by have:=ok.2 _ (bX C);omega);simp only[Ty.c]at n;simp only[ab,ae]at u;by_cases M:a.ids[i]=b.ids[i]
   .rw[cV M]at n;simp[U.Dt,u,C,E,X,n,bj C (by omega)]at m;subst m;exact .inl ⟨λ_ _=>M,_,rfl,by simp[u]⟩
   rw[cu M]at n;simp[U.Dt,u,C,E,X,n]at m;subst m;exact .inr ⟨λh=>M (h C X),by simp,_,rfl,by simp⟩)
  (λe r u m=>by
   simp only[ab,ae]at u;simp[U.Dt,u]at m;subst m;exact⟨_,rfl,by simp⟩)
 clear Y;rcases hq with⟨i,C,_,hb,J,rfl,h4⟩|⟨I,J,rfl,u⟩
 .rw[cu (λh=>hb (by subst h;exact λ_ _=>rfl))];simp[h4,aa]
 have A:=ix D (λi A Z=>I i A A Z);rw[cV (show a=b by obtain⟨p,r,q⟩:=a;obtain⟨p',r',q'⟩:=b;simp only at A m z;rw[A,m,z])];simp[aa]
def ahZ(l l':sq)(hl:l.length<=4611686018427387904)(hp:∀t∈l,t.ps.length<=4611686018427387904)(s:HS):R (.call 124 [.psl (l.map Ty.c),.psl (l'.map Ty.c),.fn 122 [] []] s)=.val (.bool (decide (l=l'))) s:=by
 refine aeF ?_ rfl (by simp[eh]);by_cases M:l.length=l'.length
 case neg=>
  rw[cu (λh=>M (by rw[h]))];have O:¬(l.length:Int)=l'.length:=by omega
  simp[U.QG,O,aa]
 simp[U.QG,M.symm];generalize Z:bK R (.loop U.xK) _ _=o;have hq:(¬l=l'/\∃d s',o=.code .ret d s'/\look d 6=some (.bool false))∨(l=l'/\∃d s',o=.code (.exit 0) d s'):=by
  refine aX Z l.length
   (λi e s=>bO e [(1,.psl (l'.map Ty.c)),(2,.fn 122 [] []),(15,.psl (l.map Ty.c)),(16,iV l.length),(17,iV i)]/\∀j (h:j<l.length) (h':j<l'.length),j<i->l[j]=l'[j])
   (λo=>(¬l=l'/\∃d s',o=.code .ret d s'/\look d 6=some (.bool false))∨(l=l'/\∃d s',o=.code (.exit 0) d s'))
   0 (by omega) ⟨by simp[iV],λj _ _ h=>by omega⟩
   (λi e s r I ⟨m,V⟩ n=>by
    have E:(i:Int)<l.length:=by omega
    have hy:i<l'.length:=by omega
    have h3:(i:Int)<l'.length:=by omega
    have q:=(fK.start s).cY (l[i]).c;generalize u:HS.mk _ _ _ _=S1 at q;have X:=(q.k.bz 0 _ _ rfl).1.1;have z:=q.cY (l'[i]).c;generalize A:HS.mk _ _ _ _=S2 at z;have C:=(z.k.bz 0 _ _ rfl).1.1;have D:=(z.k.bz 1 _ _ rfl).1.1;have b:=ahY l[i] l'[i] (hp _ (bX I));have hw:=bj I hl;simp only[Ty.c,aA,aE,bw,Nat.reduceAdd]at X C D u A b;simp only[ab,ae]at m;by_cases J:l[i]=l'[i]
    .rw[cV J]at b;simp[U.xK,m,I,E,hy,u,A,C,D,ah,an,aj,b,hw]at n;subst n;refine .inl ⟨_,_,rfl,by simp[m],λj h h' hj=>?_⟩;by_cases Y:j=i
     .subst Y;exact J
     exact V j h h' (by omega)
    rw[cu J]at b;simp[U.xK,m,I,E,hy,u,A,C,D,ah,an,aj,b]at n;subst n;exact .inr ⟨by simp,.inl ⟨λh=>J (by subst h;rfl),_,_,rfl,by simp⟩⟩)
   (λe s r ⟨m,V⟩ n=>by
    simp only[ab,ae]at m;simp[U.xK,m]at n;subst n;exact⟨by simp,.inr ⟨ix M (λi h1 h2=>V i h1 h2 h1),_,_,rfl⟩⟩)
 clear Z;rcases hq with⟨h,d,s',rfl,h4⟩|⟨h,d,s',rfl⟩
 .rw[cu h];simp[h4,aa]
 rw[cV h];simp[aa]
def w85(a b:Ar)(ok:dj a)(s:HS):R (.call 85 [.agg a.c,.agg b.c] s)=.val (.bool (decide (a=b))) s:=by
 refine q85 ?_;have d:=ur a.root b.root;simp only[Bs.c]at d;have m:=ahZ a.ids b.ids (by have:=ok.1;omega) (λt A=>by have:=ok.2 t A;omega);by_cases n:a.root=b.root
 case neg=>rw[cu (λh=>n (by rw[h]))];rw[cu n]at d;simp-implicitDefEqProofs[U.b85,d,aa]
 rw[cV n]at d;by_cases u:a.jumps=b.jumps
 case neg=>
  rw[cu (λh=>u (by rw[h]))];have z:(a.jumps==b.jumps)=false:=by simpa using u
  simp-implicitDefEqProofs[U.b85,d,z,aa]
 have C:decide (a=b)=decide (a.ids=b.ids):=by obtain⟨p,r,q⟩:=a;obtain⟨D,E,I⟩:=b;simp only at n u;subst n u;simp
 rw[C];simp-implicitDefEqProofs[U.b85,d,u,m,aa]
def w46(s:HS):R (.call 46 [] s)=.val (.agg [iV (-1),.bool false]) s:=by refine q46 ?_;have n:=(fK.start s0).cY [.int .i64 0,.bool false];generalize q:HS.mk _ _ _ _=r at n;obtain⟨u,h,b⟩:=n.put (a:=0) rfl (x:=.agg [iV (-1),.bool false]) (new:=[iV (-1),.bool false]) rfl rfl;have m:=eQ (l:=[iV (-1),.bool false]) h rfl rfl;simp only[aS]at b;have d:=(b.k.bz 0 _ _ rfl).1.1;simp only[aA,aE,bw,Nat.reduceAdd,iV]at q h m d;simp[U.b46,q,h,d,aj];exact aa (by simp[eh])
def ah0(b:Bs)(s:HS):R (.call 120 [.agg b.c] s)=.val (.agg (Ty.mk [] b).c) s:=by refine aeB ?_;have r:=(fK.start s0).cY [.ai,.bool false,.int .i64 0];generalize u:HS.mk _ _ _ _=z at r;obtain⟨A,m,h⟩:=r.put (a:=0) rfl (x:=.agg [.ai,.bool b.cell,iV b.n]) (new:=[.ai,.bool b.cell,iV b.n]) rfl rfl;have q:=eQ (l:=[.ai,.bool b.cell,iV b.n]) m rfl rfl;simp only[aS]at h;have d:=(h.k.bz 0 _ _ rfl).1.1;simp only[aA,aE,bw,Nat.reduceAdd,iV]at u m q d;simp[U.Xe,u,m,d,aj];exact aC (.agg (.cons .ai (.data (by simp))))
def u9(l:List fH)(M:Nat)(h:∀r∈l,r.length<=M):∀i,((l.take i).map List.length).sum<=i*M
 |0=>by simp
 |i+1=>by
  have m:=u9 l M h i;by_cases b:i<l.length
  .rw[eW b,eD,Kr,jV];have:=h _ (bX b);simp only[cL,qX,Gj,UI];omega
  have d:l.take (i+1)=l.take i:=by rw[iZ (by omega),iZ (by omega)]
  rw[d,jV];omega
def w10(t:Sx)(J:∀r∈t.x.nx,r.length<=70368744177664):∃b,(∀s,R (.call 10 [.agg t.c] s)=.val (.bool b) s)/\(b=true->nc t.a/\t.x.nx.length<=24/\t.x.fi.length<=26/\(t.x.nx.map List.length).sum<=120):=by
 obtain⟨b9,A,O⟩:=w9 t.a
 suffices h:∃b,pN [.tmp 2] (bK R U.GF (bn [.agg t.c] 0) s0)=some (.bool b)/\(b=true->nc t.a/\t.x.nx.length<=24/\t.x.fi.length<=26/\(t.x.nx.map List.length).sum<=120) by obtain⟨b,V,X⟩:=h;exact⟨b,λs=>q10 V,X⟩
 simp only[Ar.c]at A;cases b9 with
 |false=>refine⟨false,?_,λh=>by cases h⟩;simp-implicitDefEqProofs[U.GF,A,aa]
 |true=>
  by_cases hn:24<t.x.nx.length
  .have m:(24:Int)<t.x.nx.length:=by omega
   refine⟨false,?_,λh=>by cases h⟩;simp-implicitDefEqProofs[U.GF,A,m,aa]
  have m:¬(24:Int)<t.x.nx.length:=by omega
  by_cases hf:26<t.x.fi.length
  .have u:(26:Int)<t.x.fi.length:=by omega
   refine⟨false,?_,λh=>by cases h⟩;simp-implicitDefEqProofs[U.GF,A,m,u,aa]
  have u:¬(26:Int)<t.x.fi.length:=by omega
  refine⟨decide ((t.x.nx.map List.length).sum<=120),?_,λh=>⟨O rfl,by omega,by omega,by simpa using h⟩⟩;simp-implicitDefEqProofs[U.GF,A,m,u];generalize M:bK R (.loop U.GJ) _ _=o;have Y:∃z s',o=.code (.exit 0) z s'/\look z 3=some (iV (t.x.nx.map List.length).sum):=by
   refine aX M t.x.nx.length
    (λi e s=>bO e [(1,.ax t.c),(3,iV ((t.x.nx.take i).map List.length).sum),(4,iV i)])
    (λo=>∃z s',o=.code (.exit 0) z s'/\look z 3=some (iV (t.x.nx.map List.length).sum))
    0 (by omega) (by simp[iV])
    (λi e s r C n d=>by
     have D:(i:Int)<t.x.nx.length:=by omega
     have Z:=u9 t.x.nx 70368744177664 J i;have h4:=J _ (bX C);have hmul:i*70368744177664<=24*70368744177664:=jU _ (by omega);have hw:=bj C (by omega);have E:bR .i64 ((((t.x.nx.take i).map List.length).sum:Nat)+(t.x.nx[i].length:Int))=(((t.x.nx.take i).map List.length).sum:Nat)+(t.x.nx[i].length:Int):=bM (by omega) (by omega);have I:((t.x.nx.take (i+1)).map List.length).sum=((t.x.nx.take i).map List.length).sum+t.x.nx[i].length:=by rw[eW C];simp only[eD,Kr,cL,qX,Gj,UI,Nat.add_zero]
     rw[I];generalize((t.x.nx.take i).map List.length).sum=q at*;simp only[ab,ae]at n;simp[U.GJ,n,C,D,hw,E]at d;subst d;exact .inl ⟨_,_,rfl,by simp[n,iV]⟩)
    (λe s r n d=>by
     rw[iZ (aY _)]at n;simp only[ab,ae]at n;simp[U.GJ,n]at d;subst d;exact⟨by simp,_,_,rfl,by simp[n]⟩)
  clear M;obtain⟨z,s',rfl,h3⟩:=Y;simp[h3,aa];omega
def w68{a:Ar}{x:Fa}(ok:dj a)(b:∀s,R (.call 84 [.agg (sO a x)] s)=.val (iV 0) s)(w:aP)(s:HS):R (.call 68 [.agg (sO a x),.psl (w.map Mv.c)] s)=.val (.bN [.agg x.c,iV (iP a w)]) s:=by refine q68 ?_;have h:=w45 a ok w;have r:=(fK.start s0).cY [.ai,.ai];generalize u:HS.mk _ _ _ _=z at r;obtain⟨A,n,m⟩:=r.put (a:=0) rfl (x:=.agg x.c) (new:=x.c) rfl rfl;have q:=eQ (l:=x.c) n rfl rfl;simp only[aS]at m;have d:=(m.k.bz 0 _ _ rfl).1.1;simp only[Fa.c,aA,aE,bw,Nat.reduceAdd]at u n q d;simp only[sO,iV]at b;simp only[Ar.c,iV]at h;simp[U.b68,u,b,h,n,d,aj];exact aa (by simp)
def wz{x:Fa}:∀(l:aP) (p i:Nat),(kG x p i l).1= -1->∃j:Nat,(kG x p i l).2=((i+j:Nat):Int)/\j<l.length
 |[],p,i=>by intro h;simp[kG]at h
 |m::r,p,i=>by
  intro h;unfold kG at h ⊢;by_cases b:mP x p m= -1
  .rw[ar b];exact⟨0,by simp⟩
  rw[aq b]at h ⊢;obtain⟨j,d,n⟩:=wz r _ _ h;exact⟨j+1,by rw[d];congr 1;omega,by simp;omega⟩
def vE(a:Ar)(x:Fa)(w:aP):Int×Bool×Int:=
 if iP a w=0 then
  if(kG x 0 0 w).1= -1 then((kG x 0 0 w).2,uq (w.getD (kG x 0 0 w).2.toNat default),0)else(-1,false,0)
 else(0,false,iP a w)
def w31{a:Ar}{x:Fa}(ok:dj a)(Z:cJ x)(D:∀s,R (.call 84 [.agg (sO a x)] s)=.val (iV 0) s)(w:aP)(hw:w.length<=4611686018427387904)(s:HS):
  R (.call 31 [.agg (sO a x),.psl (w.map Mv.c)] s)=.val (.bN [iV (vE a x w).1,.bool (vE a x w).2.1,iV (vE a x w).2.2]) s:=by
 refine q31 ?_;have b:=w68 ok D w;have d:=w48 Z w hw;have E:=(fK.start s0).cY x.c;generalize A:HS.mk _ _ _ _=S0 at E;have d0:=(E.k.bz 0 _ _ rfl).1.1;have h:=E.cY [iV (-1),.bool false];generalize m:HS.mk _ _ _ _=S2 at h;have V:=(h.k.bz 0 _ _ rfl).1.1;have I:=(h.k.bz 1 _ _ rfl).1.1;simp only[sO,Fa.c,iV]at b;simp only[Fa.c,iV]at d;have n:=w46;simp only[iV]at n;simp only[Fa.c,iV,aA,aE,bw,Nat.reduceAdd]at A m d0 V I;unfold vE;by_cases C:iP a w=0
 case neg=>rw[aq C];simp[U.b31,b,A,C,ah,an,aa]
 rw[ar C];rw[C]at b;by_cases q:(kG x 0 0 w).1= -1
 case neg=>rw[aq q];simp[U.b31,b,A,n,m,V,I,d,q,ah,an,aj,aa]
 rw[ar q];obtain⟨j,J,r⟩:=wz w 0 0 q;rw[bw]at J;rw[q,J]at d;rw[J,jy,getD_at r];have u:=w50 w[j];simp only[Mv.c]at u;have X:(j:Int)<w.length:=by omega
 obtain⟨S3,M,z⟩:=h.put (a:=0) rfl (x:=.agg [iV j,.bool (uq w[j])]) (new:=[iV j,.bool (uq w[j])]) rfl rfl;have O:=eQ (l:=[iV j,.bool (uq w[j])]) M rfl rfl;simp only[aS]at z;have Y:=(z.k.bz 0 _ _ rfl).1.1;simp only[iV,aA,aE,bw,Nat.reduceAdd]at M O Y;simp[U.b31,b,A,n,m,I,d,r,u,M,Y,ah,an,aj,aa]
def jG(b:Bs):Ty:=⟨[],b⟩
def ah1(l:pP)(hl:l.length<=100000)(s:HS):R (.call 119 [.psl (l.map Bs.c),.fn 120 [] []] s)=.val (.psl ((l.map jG).map Ty.c)) s:=by
 refine aeA ?_ rfl (by simp[eh]);simp[U.Xd];generalize I:bK R (.loop U.BK) _ _=o;have h0:aI s0 (λ_=>none) [(.ai,3,[])] []:=⟨dT.start (by simp),by simp,by simp⟩;have M:∃q s' aw v,o=.code (.exit 0) q s'/\look q 4=some v/\aI s' aw [(v,3,(l.map jG).map Ty.c)] []:=by
  refine aX I l.length
   (λi e s=>∃(aw:bc) (v:HV),bO e [(1,.fn 120 [] []),(4,v),(7,.psl (l.map Bs.c)),(8,iV l.length),(9,iV i)]/\aI s aw [(v,3,((l.take i).map jG).map Ty.c)] [])
   (λo=>∃q s' aw v,o=.code (.exit 0) q s'/\look q 4=some v/\aI s' aw [(v,3,(l.map jG).map Ty.c)] [])
   0 (by omega) ⟨_,.ai,by simp[iV],by simpa using h0⟩
   (λi e s r C ⟨aw,v,d,u⟩ z=>by
    have D:(i:Int)<l.length:=by omega
    have h:=u.cY (l[i]).c;have m:=(h.bz 0 _ _ rfl).1.1;generalize A:HS.mk _ _ _ _=S1 at h m;have b:=ah0 l[i];obtain⟨O,s2,V,J,k2,E⟩:=h.append 0 rfl (new:=[(jG l[i]).c]) (Sz.cons rfl Sz.nil) (by simp) (bx:=3518437208883) (by simp;omega);have X:=bj C (by omega);simp only[Bs.c,Ty.c,jG,qX,aA,aE,bw,Nat.reduceAdd]at m A b J;simp only[ab,ae]at d;simp[U.BK,d,C,D,A,m,ah,an,aj,b,J,X]at z;subst z;refine .inl ⟨_,_,rfl,V,O,by simp[d],?_⟩;rw[eW C,eD,eD];exact E.Hi)
   (λe s r ⟨aw,v,d,u⟩ z=>by
    rw[iZ (aY _)]at u;simp only[ab,ae]at d;simp[U.BK,d]at z;subst z;exact⟨by simp,_,_,aw,v,rfl,by simp[d],u⟩)
 clear I;obtain⟨q,s',aw,v,rfl,Y,u⟩:=M;have Z:=(u.mem.own 0 _ _ _ rfl).vw (n:=14) (cq (λx=>by simp) _);simp[Y];exact aC (by simpa using Z)
def w83{a:Ar}(ok:dj a)(hc:aB a=0){k:Nat}{t:Ty}{sp:Sp}(hk:a.ids[k]?=some t)(hp:t.ps.length<=100000)(D:iA a ((k:Int)+1) 0=some sp)(s:HS):
  R (.call 83 [.agg a.c,iV ((k:Int)+1)] s)=.val (.bN [.agg (Ar.mk (t.ps.map jG) sp.b sp.zx).c,iV 0]) s:=by
 refine q83 ?_;obtain⟨E,hg⟩:=aV.1 hk;have X:(k:Int)<a.ids.length:=by omega
 have d:=YX a ok;rw[hc]at d;have h:=Zb a ok ((k:Int)+1) 0;rw[D]at h;have q:=ah1 t.ps hp;have hl:=ok.1;have hw:bR .i64 ((k:Int)+1-1)=k:=by rw[show(k:Int)+1-1=k by omega];exact bM (by omega) (by omega)
 have I:bR .i64 (k:Int)=k:=bM (by omega) (by omega);have J:¬(k:Int)+1=0:=by omega
 have r:=(fK.start s0).cY [.ai,.bool false,.int .i64 0,.bool false];generalize u:HS.mk _ _ _ _=S1 at r;have n:=r.cY a.c;generalize z:HS.mk _ _ _ _=S2 at n;have Y:=(n.k.bz 0 _ _ rfl).1.1;have m:=n.cY sp.c;generalize A:HS.mk _ _ _ _=S3 at m;have Z:=(m.k.bz 0 _ _ rfl).1.1;have d6:=(m.k.bz 1 _ _ rfl).1.1;obtain⟨S4,M,C⟩:=m.put (a:=2) rfl (x:=.agg (Ar.mk (t.ps.map jG) sp.b sp.zx).c) (new:=(Ar.mk (t.ps.map jG) sp.b sp.zx).c) rfl rfl;have O:=eQ (l:=(Ar.mk (t.ps.map jG) sp.b sp.zx).c) M rfl rfl;simp only[aS,cb]at C;have d4:=(C.k.bz 2 _ _ rfl).1.1;simp only[GZ,Ar.c,Sp.c,iV]at d h;simp only[Ar.c,Sp.c,pc,aA,aE,bw,Nat.reduceAdd]at u z A Y Z d6 M O d4;simp[U.b83,u,d,z,Y,h,A,Z,d6,J,I,E,hg,q,M,d4,ah,an,aj];have V:eu (t.ps.map (Ty.c∘jG))=true:=cq (λx=>by simp[jG,eh]) _;exact aa (by simp[V])
def Bc(a:Ar)(id:Int)(i:Ar)(x:Fa):ak:=a.c++[iV id]++sO i x
def w44{a i:Ar}{x:Fa}{id:Int}(ok:dj a)(r:dj i)(z:aB a=0)(h:∀s,R (.call 83 [.agg a.c,iV id] s)=.val (.bN [.agg i.c,iV 0]) s)(m:∀s,R (.call 84 [.agg (sO i x)] s)=.val (iV 0) s)(s:HS):
  R (.call 44 [.agg (Bc a id i x)] s)=.val (iV 0) s:=by
 refine q44 ?_ rfl (by simp[Bc]);have b:=w82 a ok;rw[z]at b;have d:=w85 i i r;rw[cV rfl]at d;have n:=(fK.start s0).cY i.c;generalize q:HS.mk _ _ _ _=A at n;have u:=(n.k.bz 0 _ _ rfl).1.1;simp only[Ar.c,iV]at b h d;simp only[sO,iV]at m;simp only[Ar.c,aA,aE,bw,Nat.reduceAdd]at q u;simp[U.b44,Bc,b,h,q,u,m,d,ah,an,aj,aa]
def HD(id:Int):∀(ps:pP) (i j:Nat),(yE i j ps).find? (dr id 0)=none
 |[],_,_=>rfl
 |b::r,i,j=>by rw[yE,FN (by simp only[dr,bL];omega)];exact HD id r i (j+1)
def HE(jumps:Bool):∀(b:sq) (i k:Nat) (t:Ty),b[k]?=some t->
  (tY jumps i b).find? (dr (((i+k:Nat):Int)+1) 0)=some ⟨((i+k:Nat):Int)+1,0,t.res,jumps||decide (0<t.ps.length)⟩
 |t0::r,i,0,t,h=>by cases h;rw[tY,List.find?_cons_of_pos (by simp[dr])];rfl
 |t0::r,i,k+1,t,h=>by rw[tY,FN (by simp only[dr,bL];omega),List.find?_append,HD];have:=HE jumps r (i+1) k t h;rw[show i+1+k=i+(k+1) by omega]at this;exact this
def I0{a:Ar}{k:Nat}{t:Ty}(h:a.ids[k]?=some t):
  iA a ((k:Int)+1) 0=some ⟨(k:Int)+1,0,t.res,a.jumps||decide (0<t.ps.length)⟩:=by
 unfold iA su;rw[FN (by simp only[dr,bL];omega)];have:=HE a.jumps a.ids 0 k t h;rw[bw]at this;exact this
def ah2{a:Ar}(ok:dj a)(b:aB a=0){id:Int}(z:1<=id)(A:id<=a.ids.length)(s:HS):
  R (.call 83 [.agg a.c,iV id] s)=.val (.bN [.agg (gO a id).c,iV 0]) s:=by
 obtain⟨k,rfl⟩:∃k:Nat,id=(k:Int)+1:=⟨(id-1).toNat,by omega⟩;have d:a.ids[k]?=some a.ids[k]:=aO (by omega);have n:a.ids[k].ps.length<=100000:=by
  unfold aB at b
  split at b
  .cases b
  rename_i q;have r:iN a.ids[k]=false:=by
   cases m:iN a.ids[k]
   .rfl
   exact(q (.inr (mO.2 ⟨_,bX (by omega),m⟩))).elim
  simp only[iN,As]at r;omega
 have h:=w83 ok b d n (I0 d) s;have u:gO a ((k:Int)+1)=⟨a.ids[k].ps.map jG,a.ids[k].res,a.jumps||decide (0<a.ids[k].ps.length)⟩:=by
  unfold gO;rw[show((k:Int)+1-1).toNat=k by omega,d];have m:(!a.ids[k].ps.isEmpty)=decide (0<a.ids[k].ps.length):=by generalize a.ids[k].ps=l;cases l<;>simp
  simp only[m];rfl
 rw[u];exact h
def O8{a:Ar}(h:nc a)(r:aB a=0):Bb a:=by
 intro id arg b e d;have u:=iO r d;simp only[ef,bL]at u;have key:LW b.n:=by
  unfold cI at d
  split at d
  .cases d;exact h.2.1
  split at d
  .split at d
   .cases d
   rename_i t z;have m:=h.2.2 t (cH z)
   split at d
   .cases d;exact m.2.1
   split at d
   .rw[mK]at d;obtain⟨q,A,C⟩:=d;cases C;exact m.2.2 _ (cH A)
   cases d
  cases d
 rcases key with h|h<;>omega
def UJ{a:Ar}(r:aB a=0){m:Mv}(h:eO a m=true): -1<=m.n/\m.n<=64:=by
 obtain⟨b,e,d⟩:=lB h;have u:=iO r d;simp only[ef,bL]at u;unfold eO cw lA at h;rw[d]at h;simp only[bL,Bool.decide_or,mJ,dk,lZ,bm,dA,gy,cG]at h;rcases h with(h|⟨k,q,h⟩)|(h|⟨k,q,h⟩)
 .rw[h];exact⟨by simp,by simp⟩
 .rw[<-h]
  split at q
  .simp only[Cd];omega
  omega
 .split at h
  .rw[dE.1 h];exact⟨by simp,by simp⟩
  cases h
 rw[<-h];simp only[oE];omega
def smF{a:Ar}{x:Fa}{N:Nat}{g:Lg}(u:cJ x)(m:aB a=0)(z:tV x)(d:gW x=x)(A:fJ a x N=some g)(C:g.l.length<=N):Gc x:=by
 rcases ZH u z d with h|h
 .rw[h];intro l d e b;rw[dE.1 d]at b;cases b
 have W:=Hx u m A C;have D:=A6 h (P:=λi=>∃y∈g.l,y.st=i) ⟨CI,W.st,rfl⟩ (λi n ⟨y,q,e⟩ ed b=>⟨_,W.UB y q ed (by unfold gl;rw[e];exact b),rfl⟩);intro l d e b;obtain⟨i,n,rfl⟩:=eH.1 d;obtain⟨y,q,E⟩:=D i n;have r:=ji (W.can y q e (by unfold gl;rw[E,dF,aO n];exact b));obtain⟨I,J,_,M,_⟩:=fv r;obtain⟨O,V⟩:=zv m r;obtain⟨X,Y⟩:=UJ m r;unfold gn;omega
structure Rt(a:Ar)(x:Fa):Prop where
 th:nc a
 hc:aB a=0
 hx:cJ x
 ha:tV x
 hl:gW x=x
 hn:x.nx.length<=24
 he:(x.nx.map List.length).sum<=120
 run:∃g,fJ a x 3518437208883=some g
def nc.ok{a:Ar}(h:nc a):dj a:=⟨by have:=h.1;omega,λt b=>by have:=(h.2.2 t b).1;omega⟩
def Rt.w84{a:Ar}{x:Fa}(h:Rt a x)(s:HS):R (.call 84 [.agg (sO a x)] s)=.val (iV 0) s:=by obtain⟨g,b⟩:=h.run;have d:=(Δ h.hx h.hc (O8 h.th h.hc) h.hn h.he).fin g b;exact S.w84 h.th.ok h.hc h.hx h.ha h.hl (smF h.hx h.hc h.ha h.hl b d) h.hn b d (aY _) s
def HG:∀(v:aP) (x:Wk),(cW x v).2=v.length->∀m∈v,eO x.a m=true
 |[],_,_,m,h=>by cases h
 |m0::r,x,h,m,b=>by
  unfold cW at h
  split at h
  .rename_i d;rcases bm.1 b with rfl|b
   .exact lC d
   have:=HG r (bI x m0) (by simpa using h) m b;rwa[wb]at this
  simp at h
def LH:∀(v:aP) (x:Wk),(cW x v).2<=v.length
 |[],_=>aY _
 |m::r,x=>by
  unfold cW
  split
  .simp only[aA];have:=LH r (bI x m);omega
  exact fD _
def Ok{a:Ar}{v:aP}(h:(fp a v).2=0):∀m∈v,eO a m=true:=by
 refine HG v (gT a) ?_;have d:=LH v (gT a);unfold fp at h
 split at h
 .rename_i b;exact(b h).elim
 split at h
 .cases h
 split at h
 .cases h
 omega
def zA(x:Fa)(w:aP)(b:Int×Bool)(c:ay):Int×Bool:=
 if(kG x 0 0 (aW w c)).1= -1/\(b.1<0∨((c.getD (kG x 0 0 (aW w c)).2.toNat 0:Nat):Int)<b.1)then
  (((c.getD (kG x 0 0 (aW w c)).2.toNat 0:Nat):Int),uq (w.getD (c.getD (kG x 0 0 (aW w c)).2.toNat 0) ⟨0,0,0,0⟩))
 else b
def Es{m:Mv}(b:0<m.id)(n:0<=m.arg):uq (bJ m)= !uq m:=by
 unfold uq bJ;by_cases h:m.arg=0
 .simp[h,b]
 have:0<m.arg:=by omega
 by_cases d:m.kind=3<;>simp[h,d,this]
def Ol{uV:Ar}{id:Int}{w:aP}{l:dH}(z:KW uV id w l)(ok:dj uV)(hid:0<id)(x:Fa){c:ay}(A:c∈l)(b:Int×Bool):
  (vE uV x (aW w c)).2.2=0/\(vE uV x (aW w c)).1<c.length/\
  zA x w b c=if 0<=(vE uV x (aW w c)).1/\(b.1<0∨((c.getD (vE uV x (aW w c)).1.toNat 0:Nat):Int)<b.1)then(((c.getD (vE uV x (aW w c)).1.toNat 0:Nat):Int),!(vE uV x (aW w c)).2.1)else b:=by
 have D:=z.leg c A;have O:iP uV (aW w c)=0:=by rw[uT uV ok];exact D
 have hlen:(aW w c).length=c.length:=by simp[aW]
 unfold vE zA;rw[ar O];by_cases n:(kG x 0 0 (aW w c)).1= -1
 .obtain⟨j,V,m⟩:=wz _ _ _ n;rw[ar n,V];rw[hlen]at m;have C:((0+j:Nat):Int).toNat=j:=by omega
  refine⟨rfl,by simp only;omega,?_⟩;simp only[C];have X:c.getD j 0=c[j]:=by rw[dF,aO m];rfl
  have E:=z.bd c A _ (bX m);have Y:(aW w c).getD j default=bJ (w.getD c[j] ⟨0,0,0,0⟩):=by rw[dF];simp[aW,m]
  have d:zZ w id c[j]=true:=by
   have:=z.dX _ E;have q:c[j]∈l.flatten:=List.mem_flatten.2 ⟨c,A,bX m⟩;have:=List.count_pos_iff.2 q;by_cases I:zZ w id c[j]=true
   .exact I
   rw[aq I]at*;omega
  have J:w[c[j]]?=some w[c[j]]:=aO E;have r:w.getD c[j] ⟨0,0,0,0⟩=w[c[j]]:=by rw[dF,J];rfl
  have M:w[c[j]].id=id:=by unfold zZ at d;rw[J]at d;simp only[aL,bL]at d;exact d.1
  have u:0<=w[c[j]].arg:=by
   have Z:=Ok D (bJ w[c[j]]) (by
    rw[<-r];exact dA.2 ⟨c[j],bX m,rfl⟩)
   exact(fv Z).1
  rw[X,Y,r,Es (by omega) u,Bool.not_not];have h0:(0:Int)<=((0+j:Nat):Int):=by omega
  simp only[n,Bq,h0]
 rw[aq n];refine⟨rfl,by simp only;omega,?_⟩;rw[aq (λh=>n h.1),aq (λh=>by have:=h.1;simp only at this;omega)]
def Ed.mono{l:j8}{au:aR}{D b:Nat}(h:Ed l au D)(d:D<=b):Ed l au b:=⟨h.len,h.row,λx m=>fh (h.op x m) d⟩
def ah3(a:Ar)(ok:dj a)(hc:aB a=0)(x:Fa)(hx:cJ x){N D:Nat}(hN:Lo a x N D){i:Nat}(hi:i<N){g:Lg}(hg:fJ a x i=some g){e:En}{s:HS}{r:Out}{v4 v5 v6 v7 v8:HV}{aw:bc}{E6 au:aR}
  (hL:bO e [(2,.ax a.c),(3,.ax x.c),(4,v4),(5,v5),(6,v6),(7,v7),(8,v8),(9,iV i)])
  (hM:aI s aw [(v6,1,E6),(v7,1,g.kn.map bC),(v8,5,au)] [])(hE:IY g.op E6)(hS:Ed g.l au D)(u:i<g.l.length)(V:bK R U.lX e s=r)(q:Ee x g g.l[i]=false)(h8:(g.l[i]).st<x.nx.length):
  ((∃k,∃h:k<x.nx[(g.l[i]).st].length,jq a (g.l[i]).mn x.nx[(g.l[i]).st][k].m=false)/\∃e' s',r=.code .ret e' s'/\look e' 4=some .ai/\look e' 5=some (.bool false))∨
  ((∀k,(h:k<x.nx[(g.l[i]).st].length)->jq a (g.l[i]).mn x.nx[(g.l[i]).st][k].m=true)/\∃(e':En) (s':HS),r=.code .normal e' s'/\∃(aw:bc) (v6 v7 v8:HV) (E6 au:aR),bO e' [(2,.ax a.c),(3,.ax x.c),(4,v4),(5,v5),(6,v6),(7,v7),(8,v8),(9,iV (i+1:Nat))]/\
   aI s' aw [(v6,1,E6),(v7,1,(g.kn.set (g.l[i]).st true).map bC),(v8,5,au)] []/\IY (g.op.set (g.l[i]).st (g.l[i]).mn.op) E6/\Ed (j9 g.l[i] g.l x.nx[(g.l[i]).st]) au (D+1)):=by
 obtain⟨hs,ht,h9,ki,hy,X⟩:=hN.st i g hg;have hD:=hN.d;have hn:=hx.n;have kj:=hx.nf;have kd:=hx.pos;have hle:=hN.le i g g.l[i] hg (aO u);generalize J:g.l[i]=b at*;have ha:b∈g.l:=by rw[<-J];exact bX u
 have A:=h8;have hz:=(hs b ha).2;rw[getD_at A]at hle;have hB:=hle;obtain⟨o6,rfl⟩:=(hM.mem.own 0 _ _ _ rfl).fY (by intro h;have:=hE.len;rw[h]at this;simp at this;omega);obtain⟨o7,rfl⟩:=(hM.mem.own 1 _ _ _ rfl).fY (by intro h;have:=ct List.length h;simp at this;rw[this]at X;simp at X;omega);obtain⟨o8,rfl⟩:=(hM.mem.own 2 _ _ _ rfl).fY (by intro h;have h1:=hS.len;rw[h]at h1;exact h9 (iJ h1.symm));rw[hE.len,hy,bH,X,hS.len]at hL hM;obtain⟨vo,z,M⟩:=(hS.row i u).ex;rw[J]at z M;obtain⟨ob,g1,_,_,g4⟩:=(hM.mem.own 2 _ _ _ rfl).at (k:=.i64) i (by rw[hS.len];exact u);have k0:ob=o8:=by simp[u]at g1;exact g1.symm
 subst k0;rw[M]at g4;have C:=hM.cY [iV b.st,vo,.bool b.mn.lost,.bool b.mn.forced,.bool b.mn.begun];have hC:=(C.bz 0 _ _ rfl).1.1;generalize Y:HS.mk _ _ _ _=S1 at C hC;obtain⟨vq,k1,k2,kk⟩:=hE.row b.st (by omega);have g6:eN (ao S1.h o6) b.st=some vq:=by rw[(C.mem.own 0 _ _ _ rfl).cell b.st (by rw[hE.len];omega),k1];rfl
 have g7:eN (ao S1.h o7) b.st=some (.bool (g.kn[b.st]'(by omega))):=lD (C.mem.own 1 _ _ _ rfl) (aO (by omega));have E:=O2 vq vo _ _ k2 z (by have:=ht _ (bX (show b.st<g.op.length by omega));omega);have I:=O1 _ b.mn z.mn;unfold Ee at q;rw[getD_at (by omega),getD_at (by omega),getD_at (by omega),getD_at (by omega)]at q;have O:(i:Int)<g.l.length:=by omega
 have ke:(b.st:Int)<x.nx.length:=by omega
 have hb:b.st<x.fi.length:=by omega
 have kg:(b.st:Int)<x.fi.length:=by omega
 have k3:0<x.fi.length:=by omega
 simp only[ab,ae]at hL;simp only[aA,aE,bw,Nat.reduceAdd,iV]at hC Y g4;have hw:bR .i64 ((i:Int)+1)=(i:Int)+1:=bj (n:=3518437208883) (show i<3518437208883 by have:=hN.n;omega) (by omega);have k4:=hS.mono (show D<=D+1 by omega);obtain⟨p6,S2,a6,b6,Z⟩:=C.jg 0 rfl b.st (by rw[hE.len];omega) z.one;simp only[aS]at Z;have h3:=(Z.bz 0 _ _ rfl).1.1;obtain⟨p7,S3,a7,b7,h6⟩:=Z.jg 1 rfl b.st (by rw[bH];omega) (x:=.bool true) rfl;simp only[cb,aS]at h6;rw[show List.set (g.kn.map bC) b.st [HV.bool true]=(g.kn.set b.st true).map bC by rw[kI]]at h6;simp[A]at a6 a7;subst a6;subst a7;simp only[hU]at b6 b7;simp only[aA,aE,bw,Nat.reduceAdd,iV]at h3;have k5:x.fi[b.st]=b.mn.over∨(¬x.fi[b.st]=b.mn.over/\x.nx.length=1/\x.fi[0]=false):=by
  by_cases h:x.fi[b.st]=b.mn.over
  .exact .inl h
  refine .inr ⟨h,?_⟩;rw[B7]at q;have h2:=q.2;rw[show(x.fi[b.st] != b.mn.over)=true by simpa using h,iI]at h2;simpa using h2
 have hp:g.kn[b.st]'(by omega)=true->oi g.op[b.st]=oi b.mn.op:=λhk=>by rw[B7,hk,iI]at q;simpa using q.1
 cases hk:g.kn[b.st]'(by omega)<;>rw[hk]at g7<;>(try rw[cV (hp hk)]at E)<;>rcases k5 with k6|⟨k7,kl,hf⟩<;>first
  |(rw[<-k6]at I;simp-implicitDefEqProofs[U.lX,hL,u,O,g4,Y,ah,an,aj,hC,h3,A,g6,g7,I,hb,b6,b7,E]at V)
  |(have hd:(x.nx.length:Int)=1:=(by omega);simp-implicitDefEqProofs[U.lX,hL,u,O,g4,Y,ah,an,aj,hC,h3,A,g6,g7,I,hb,b6,b7,E,k7,hd,k3,hf]at V)
 all_goals
  generalize ho:bK R (.loop U.AF) _ _=o at V;rcases ahL a ok hc x hx b A (by omega) hz g.l hB z (v4:=v4) (v5:=v5) (v6:=.sl o6 0 x.nx.length 1) (v7:=.sl o7 0 x.nx.length 1) (v8:=.sl ob 0 g.l.length 5) (v9:=iV i) (o10:=s.nx) (by simp[hL]) h6 k4 h9 ho with⟨k,k8,k9,e',s',rfl,h4,h5⟩|⟨hj,e',s',hl,ka,hq,rfl,h7,kb,kc⟩
  .simp at V;subst V;exact .inl ⟨⟨k,k8,k9⟩,_,_,rfl,h4,h5⟩
  simp only[ab,ae]at h7;simp[h7,hw]at V;subst V;exact .inr ⟨hj,_,_,rfl,hl,_,_,ka,_,hq,by simp[h7],kb,hE.set z,kc⟩
def I1{a:Ar}{x:Fa}{i:Nat}(h:fJ a x i=none)(d:Nat):fJ a x (i+d)=none:=by induction d with|zero=>exact h|succ d b=>show fJ a x ((i+d)+1)=none;rw[fJ,b];rfl
def I2{a:Ar}{x:Fa}{i:Nat}{g:Lg}(h:fJ a x i=some g)(m:g.l.length<=i)(d:Nat):fJ a x (i+d)=some g:=by induction d with|zero=>exact h|succ d b=>show fJ a x ((i+d)+1)=some g;rw[fJ,b,Option.bind_some,qP,Av (by omega)]
def aao{e:En}{s:HS}{i:Nat}{g:Lg}{au m n:aR}{v2 v3 v4 v5 v6 v7 v8:HV}{aw:bc}{D:Nat}{r:Out}
  (d:bO e [(2,v2),(3,v3),(4,v4),(5,v5),(6,v6),(7,v7),(8,v8),(9,iV i)])(q:aI s aw [(v6,1,m),(v7,1,n),(v8,5,au)] [])(u:Ed g.l au D)(z:¬i<g.l.length)(h:bK R U.lX e s=r):
  r=.code (.exit 0) (e.qw 29 (.bool false)) s:=by
 have hlen:=q.mem.len 2 rfl s;rw[u.len]at hlen;have b:¬(i:Int)<g.l.length:=by omega
 simp only[ab,ae]at d;simp[U.lX,d,hlen,b]at h;exact h.symm
def ah4(a:Ar)(ok:dj a)(hc:aB a=0)(x:Fa)(hx:cJ x){N D:Nat}(M:Lo a x N D){g0:Lg}(h6:fJ a x 0=some g0){e:En}{s:HS}{o:Out}{v4 v5 v6 v7 v8:HV}{aw:bc}{d au:aR}
  (q:bO e [(2,.ax a.c),(3,.ax x.c),(4,v4),(5,v5),(6,v6),(7,v7),(8,v8),(9,iV 0)])
  (A:aI s aw [(v6,1,d),(v7,1,g0.kn.map bC),(v8,5,au)] [])(E:IY g0.op d)(I:Ed g0.l au D)(ho:bK R (.loop U.lX) e s=o):
  (fJ a x N=none/\∃e' s',o=.code .ret e' s'/\look e' 4=some .ai/\look e' 5=some (.bool false))∨
  (∃g,fJ a x N=some g/\∃(e':En) (s':HS) (aw:bc) (v6 v7 v8:HV) (d au:aR),o=.code (.exit 0) e' s'/\look e' 6=some v6/\aI s' aw [(v6,1,d),(v7,1,g.kn.map bC),(v8,5,au)] []/\IY g.op d):=by
 refine aX ho N
  (λi e s=>∃(g:Lg) (aw:bc) (v6 v7 v8:HV) (d au:aR),fJ a x i=some g/\bO e [(2,.ax a.c),(3,.ax x.c),(4,v4),(5,v5),(6,v6),(7,v7),(8,v8),(9,iV i)]/\aI s aw [(v6,1,d),(v7,1,g.kn.map bC),(v8,5,au)] []/\IY g.op d/\Ed g.l au D)
  (λo=>(fJ a x N=none/\∃e' s',o=.code .ret e' s'/\look e' 4=some .ai/\look e' 5=some (.bool false))∨
  (∃g,fJ a x N=some g/\∃(e':En) (s':HS) (aw:bc) (v6 v7 v8:HV) (d au:aR),o=.code (.exit 0) e' s'/\look e' 6=some v6/\aI s' aw [(v6,1,d),(v7,1,g.kn.map bC),(v8,5,au)] []/\IY g.op d))
  0 (by omega) ⟨g0,aw,v6,v7,v8,d,au,h6,q,A,E,I⟩
  (λi e s r hi ⟨g,aw,v6,v7,v8,d,au,C,q,A,E,I⟩ O=>by
   by_cases m:i<g.l.length
   .have u:=aO m;have J:=((M.st i g C).1 _ (bX m)).1;have z:fJ a x (i+1)=none->fJ a x N=none:=λh=>by have:=I1 h (N-(i+1));rwa[show i+1+(N-(i+1))=N by omega]at this
    have n:fJ a x (i+1)=qP a x g i:=by rw[fJ,C];rfl
    cases b:Ee x g g.l[i]
    .rcases ah3 a ok hc x hx M hi C q A E I m O b J with⟨⟨k,hk,V⟩,e',s',rfl,h4,h5⟩|⟨X,e',s',rfl,Y,h7,h8,h9,ha,Z,hb,hd,hf,h1⟩
     .refine .inr ⟨by simp,.inl ⟨z ?_,_,_,rfl,h4,h5⟩⟩;rw[n,qP,u];simp only[b];rw[getD_at J,aq (by simp),aq];simp only[Cq,Kp];exact⟨_,bX hk,by simp[V]⟩
     have h2:fJ a x (i+1)=some ⟨j9 g.l[i] g.l x.nx[(g.l[i]).st],g.op.set (g.l[i]).st (g.l[i]).mn.op,g.kn.set (g.l[i]).st true⟩:=by rw[n,qP,u];simp only[b];rw[getD_at J,aq (by simp),ar];rw[fw];intro e he;obtain⟨k,hk,rfl⟩:=eH.1 he;exact X k hk
     refine .inl ⟨_,_,rfl,_,Y,h7,h8,h9,ha,Z,h2,hb,hd,hf,h1.len,h1.row,λy hy=>((M.st _ _ h2).1 y hy).2⟩
    obtain⟨e',s',rfl,h4,h5⟩:=ahM a ok hc x hx M hi C q A E I m O b;refine .inr ⟨by simp,.inl ⟨z ?_,_,_,rfl,h4,h5⟩⟩;rw[n,qP,u];simp only[b,bf]
   have:=aao q A I m O;subst this;have h3:=I2 C (by omega) (N-i);rw[show i+(N-i)=N by omega]at h3;simp only[ab,ae]at q;exact .inr ⟨by simp,.inr ⟨g,h3,_,_,aw,v6,v7,v8,d,au,rfl,by simp[q],A,E⟩⟩)
  (λe s r ⟨g,aw,v6,v7,v8,d,au,C,q,A,E,I⟩ O=>by
   have m:¬N<g.l.length:=by have:=M.fin g C;omega
   have:=aao q A I m O;subst this;simp only[ab,ae]at q;exact⟨by simp,.inr ⟨g,C,_,_,aw,v6,v7,v8,d,au,rfl,by simp[q],A,E⟩⟩)
def aI.ah5{s:HS}{aw:bc}{L:cS}{K:dV}(h:aI s aw L K){sz:Nat}{t:aR}(m:Sz sz t):∃b,aI {h:=av (some (.cells (cR (aD t)) 0 (aD t).length s.nx)) s.nx s.h,nx:=s.nx.succ,gr:=av (some [s.nx]) s.nx s.gr,ty:=s.ty} b (L++[(.sl s.nx 0 t.length sz,sz,t)]) K:=by
 have n:=Ky.ba s.nx;refine h.join (di.alloc _ _) (F:=λk=>k=s.nx) ⟨m,λk d=>by subst d;simp only;omega,.inr ⟨s.nx,cR (aD t),(aD t).length,s.nx,[],rfl,?_,by rw[cQ m];exact aY _,by simp,?_,by simp,by simp,rfl⟩⟩ (λk d=>by subst d;exact aY _)
 .simp only;rw[af,ar rfl]
 simp only;rw[af,ar rfl]
def w96(a:Ar)(ok:dj a)(hc:aB a=0)(x:Fa)(X:cJ x){N D:Nat}(hN:Lo a x N D):∃v,∀s,R (.call 96 [.agg a.c,.agg x.c] s)=.val (.bN [v,.bool (fJ a x N).isSome]) s:=by
 have hn:=X.n
 suffices h:∃v,pN [.tmp 4,.tmp 5] (bK R U.b96 (bn [.agg a.c,.agg x.c] 0) s0)=some (.bN [v,.bool (fJ a x N).isSome]) by obtain⟨v,h⟩:=h;exact⟨v,λs=>q96 h⟩
 have h0:aI s0 (λ_=>none) [] []:=⟨dT.start (by simp),by simp,by simp⟩;obtain⟨s1,m1,u,z⟩:=mc (s:=s0) (n:=x.nx.length) (bx:=5864062014805) (by omega) .ai;obtain⟨c1,A⟩:=h0.join z u (λk C=>by subst C;exact aY _);obtain⟨s2,m2,E,I⟩:=mc (s:=s1) (n:=x.nx.length) (bx:=140737488355328) (by omega) (.bool false);obtain⟨c2,J⟩:=A.join I E (λk C=>by subst C;exact aY _);obtain⟨c3,b⟩:=J.ah5 (sz:=5) (t:=[[.int .i64 0,.ai,.bool false,.bool false,.bool false]]) (Sz.cons rfl Sz.nil);simp only[bD,bB]at b;generalize q:HS.mk _ _ _ _=S3 at b;simp only[dw,mV,bB,bD,aA,aE,bw,Nat.reduceAdd]at q b;simp[U.b96,m1,m2,q];generalize ho:bK R (.loop U.lX) _ _=o;have hS:Ed [⟨0,⟨[],false,false,false⟩⟩] [[.int .i64 0,.ai,.bool false,.bool false,.bool false]] D:=by
  refine⟨rfl,λi h=>?_,λy hy=>?_⟩
  .have h0:i=0:=by simpa using h
   subst h0;exact .inr ⟨rfl,rfl⟩
  rw[dE.1 hy];exact fD _
 rw[show List.replicate x.nx.length [HV.bool false]=(List.replicate x.nx.length false).map bC by simp]at b;rcases ah4 a ok hc x X hN (g0:=⟨[⟨0,⟨[],false,false,false⟩⟩],List.replicate x.nx.length [],List.replicate x.nx.length false⟩) rfl (v4:=.ai) (v5:=.bool false) (by simp) b (IY.start _) hS ho with⟨M,e',s',rfl,h4,h5⟩|⟨g,M,e',s',aw,v6,v7,v8,m,au,rfl,h6,hM,r⟩
 .rw[M];refine⟨.psl [],?_⟩;simp[h4,h5];exact aC (.bN (.cons .ai (.data (by simp))))
 rw[M];refine⟨.psl ((List.range m.length).map λi=>[.psl ((g.op.getD i []).map Mv.c)]),?_⟩;simp[h6];refine aC (.bN (.cons ?_ (.data (by simp))));have O:m=(List.range m.length).map λi=>[(m.getD i []).getD 0 .ai]:=by
  refine qM (by simp) λi Y h2=>?_
  obtain⟨v,V,_,_⟩:=r.row i (by rw[<-r.len];exact Y);simp only[Ch,Cw,getD_at Y,V];rfl
 have Z:=hM.mem.own 0 _ _ _ rfl;rw[O]at Z;have hv:=Z.YE (f:=λi=>(m.getD i []).getD 0 .ai) (g:=λi=>HV.psl ((g.op.getD i []).map Mv.c)) (n:=14) (λi hi=>?_)
 .simpa using hv
 have d:i<m.length:=by simpa using hi
 obtain⟨v,V,k2,_⟩:=r.row i (by rw[<-r.len];exact d);simp only[getD_at d,V,getD_at (show i<g.op.length by rw[<-r.len];exact d)];rcases k2 with rfl|⟨h0,rfl⟩
 .exact .data (by simp)
 rw[h0];exact .ai
def w29(t:Sx)(Z:∀r∈t.x.nx,r.length<=70368744177664):∃b,(∀s,R (.call 29 [.agg t.c] s)=.val (.bool b) s)/\(b=true->∃x,t.x=x.i/\Rt t.a x):=by
 obtain⟨GF,m,E⟩:=w10 t Z;simp only[Sx.c]at m;cases GF with
 |false=>refine⟨false,λs=>?_,λh=>by cases h⟩;refine YH ?_;simp[U.OF,m,aa]
 |true=>
  obtain⟨u,O,hf,V⟩:=E rfl;have q:my t.x:=⟨by omega,by omega,by omega⟩;by_cases n:aB t.a=0
  .by_cases I:F6 t.x
   .obtain⟨y,z,D,X,Y⟩:=I;have A:y.nx.length<=24:=by rw[z]at O;simpa[Fa.i]using O
    have C:(y.nx.map List.length).sum<=120:=by rw[z]at V;simpa[Fa.i,Function.comp_def]using V
    have hL:=Δ D n (O8 u n) A C;obtain⟨v,J⟩:=w96 t.a u.ok n y D hL;have d:=w66 t u.ok q v (fJ t.a y 3518437208883).isSome (λ_ _ s=>by rw[z,Fa.Y2];exact J s);rw[ar n,ar ⟨y,z,D,X,Y⟩]at d;simp only[Sx.c,iV]at d;cases M:fJ t.a y 3518437208883 with
    |none=>rw[M]at d;refine⟨false,λs=>?_,λh=>by cases h⟩;refine YH ?_;simp only[Option.isSome_none,cy,bp]at d;simp[U.OF,m,d,aa]
    |some g=>rw[M]at d;refine⟨true,λs=>?_,λ_=>⟨y,z,⟨u,n,D,X,Y,A,C,⟨g,M⟩⟩⟩⟩;refine YH ?_;simp only[Option.isSome_some,bf]at d;simp[U.OF,m,d,aa]
   have d:=w66 t u.ok q (iV 0) false (λ_ h=>(I h).elim);rw[ar n,aq I]at d;simp only[Sx.c,iV]at d;refine⟨false,λs=>?_,λh=>by cases h⟩;refine YH ?_;simp[U.OF,m,d,aa]
  have d:=w66 t u.ok q (iV 0) false (λh=>(n h).elim);rw[aq n]at d;simp only[Sx.c,iV]at d;refine⟨false,λs=>?_,λh=>by cases h⟩;refine YH ?_;simp[U.OF,m,d,n,aa]
def wA(a:Ar)(id:Int)(t:Sx):ak:=a.c++[iV id]++t.c
def Om(a:Ar)(x:Fa):(Sx.mk a x.i).c=sO a x:=by have:=x.Y2;simp only[Ax.c,Fa.c,qU]at this;simp only[Sx.c,sO,this.1,this.2.1]
def ah6(a:Ar)(ok:dj a)(m:aB a=0){id:Int}(h:¬(1<=id/\id<=a.ids.length))(s:HS):
  R (.call 26 [.agg a.c,iV id] s)=.val (.bN [.agg [.psl [],.bool false,.int .i64 0,.bool false],iV 7]) s:=by
 refine ON ?_;have b:=VH a ok;have d:=YU id 1 a.ids.length;rw[m]at b;rw[cu h]at d;simp only[Ar.c,iV]at b d;simp[U.b26,b,d,ah,an,aj];exact aC (.bN (.cons (.agg (.cons .ai (.data (by simp)))) (.data (by simp))))
def w14{a:Ar}{id:Int}{t:Sx}(n:nc a)(b:nc t.a)(q:my t.x)(s:HS):R (.call 14 [.agg (wA a id t)] s)=.val (.agg (wA a id t)) s:=by refine q14 ?_ rfl (by simp[wA]);have d:=w18 a n.1 (λt h=>(n.2.2 t h).1);have m:=w32 t b.1 (λt h=>(b.2.2 t h).1) q;simp only[Ar.c]at d;simp only[Sx.c]at m;simp[U.OE,wA,d,m,ah,an,aj,aa]
def zw{α β:Type}(f:β->α->β)(b:β)(L:List α){i:Nat}(d:i<L.length):(L.take (i+1)).foldl f b=f ((L.take i).foldl f b) L[i]:=by rw[eW d,List.foldl_append];rfl
def ah7{x:Fa}(hx:cJ x){w:aP}(hw:w.length<=400){L:dH}(hL:L.length<=400)(hc:∀c∈L,c.length<=400)(hb:∀c∈L,∀n∈c,n<w.length){e:En}{s:HS}{o:Out}{Y M:Ky}
  (d:bO e [(1,.psl (w.map Mv.c)),(10,.ptr Y 0),(11,.ptr M 0),(41,.psl (L.map jD)),(42,iV L.length),(43,iV 0)])
  (u:fK s [(M,[iV (-1),.bool false]),(Y,x.c)] [])(ho:bK R (.loop U.uM) e s=o):
  ∃e' s',o=.code (.exit 0) e' s'/\look e' 11=some (.ptr M 0)/\fK s' [(M,[iV (L.foldl (zA x w) (-1,false)).1,.bool (L.foldl (zA x w) (-1,false)).2]),(Y,x.c)] []:=by
 refine aX ho L.length
  (λi e s=>bO e [(1,.psl (w.map Mv.c)),(10,.ptr Y 0),(11,.ptr M 0),(41,.psl (L.map jD)),(42,iV L.length),(43,iV i)]/\fK s [(M,[iV ((L.take i).foldl (zA x w) (-1,false)).1,.bool ((L.take i).foldl (zA x w) (-1,false)).2]),(Y,x.c)] [])
  (λo=>∃e' s',o=.code (.exit 0) e' s'/\look e' 11=some (.ptr M 0)/\fK s' [(M,[iV (L.foldl (zA x w) (-1,false)).1,.bool (L.foldl (zA x w) (-1,false)).2]),(Y,x.c)] [])
  0 (by omega) ⟨d,by simpa using u⟩ (λi e s r O ⟨d,u⟩ z=>?_) (λe s r ⟨d,u⟩ z=>?_)
 .rw[zw _ _ _ O];generalize(L.take i).foldl (zA x w) (-1,false)=b at u ⊢;have C:(i:Int)<L.length:=by omega
  have D:=bX O;have E:=w49 w L[i] (hb _ D) (hc _ D);have hlen:(aW w L[i]).length=L[i].length:=by simp[aW]
  have m:=w48 hx (aW w L[i]) (by have:=hc _ D;omega);have I:=(u.k.bz 0 _ _ rfl).1.1;have A:=(u.k.bz 1 _ _ rfl).1.1;have J:=bj O (by omega);simp only[Fa.c,iV]at m;simp only[Fa.c,iV,aA,aE,bw,Nat.reduceAdd]at A I;simp only[ab,ae]at d;by_cases Z:(kG x 0 0 (aW w L[i])).1= -1
  case neg=>unfold zA;rw[aq (λh=>Z h.1)];simp[U.uM,d,O,C,J,jD,E,A,m,Z,aj]at z;subst z;exact .inl ⟨_,_,rfl,by simp[d,iV],u⟩
  case pos=>
   obtain⟨j,hj,q⟩:=wz _ _ _ Z;rw[bw]at hj;rw[hlen]at q;have h4:(j:Int)<L[i].length:=by omega
   have hn:=hb _ D _ (bX q);have h5:(L[i][j]:Int)<w.length:=by omega
   rw[Z,hj]at m;have hg:L[i].getD j 0=L[i][j]:=by rw[dF,aO q];rfl
   have h2:w.getD L[i][j] ⟨0,0,0,0⟩=w[L[i][j]]:=by rw[dF,aO hn];rfl
   unfold zA;rw[hj,jy,hg,h2];have V:=w50 w[L[i][j]];simp only[Mv.c]at V;obtain⟨S3,k3,X⟩:=u.put (a:=0) rfl (x:=.agg [iV L[i][j],.bool (uq w[L[i][j]])]) (new:=[iV L[i][j],.bool (uq w[L[i][j]])]) rfl rfl;have h3:=eQ (l:=[iV L[i][j],.bool (uq w[L[i][j]])]) k3 rfl rfl;simp only[aS]at X;simp only[iV,aA,aE,bw,Nat.reduceAdd]at k3 h3;by_cases h0:b.1<0
   .rw[ar ⟨Z,.inl h0⟩];simp[U.uM,d,O,C,J,jD,E,A,I,m,h0,q,hn,V,k3,aj]at z;subst z;exact .inl ⟨_,_,rfl,by simp[d,iV],X⟩
   by_cases h1:(L[i][j]:Int)<b.1
   .rw[ar ⟨Z,.inr h1⟩];simp[U.uM,d,O,C,J,jD,E,A,I,m,h0,h1,q,hn,V,k3,aj]at z;subst z;exact .inl ⟨_,_,rfl,by simp[d,iV],X⟩
   rw[aq (λh=>h.2.elim h0 h1)];simp[U.uM,d,O,C,J,jD,E,A,I,m,h0,h1,q,aj]at z;subst z;exact .inl ⟨_,_,rfl,by simp[d,iV],u⟩
 rw[iZ (aY _)]at u;simp only[ab,ae]at d;simp[U.uM,d]at z;subst z;exact⟨by simp,_,_,rfl,by simp[d],u⟩
def w13{a i:Ar}{x:Fa}{id:Int}(ok:dj a)(hx:cJ x)(n:∀s,R (.call 44 [.agg (Bc a id i x)] s)=.val (iV 0) s){w:aP}{L:dH}(C:iP a w=0)(D:oa (dm (nA a) w).x.js id w)(hL:fq (dm (nA a) w).x.js id w=L)(s:HS):
  R (.call 13 [.agg (Bc a id i x),.psl (w.map Mv.c)] s)=.val (.bN [iV (L.foldl (zA x w) (-1,false)).1,.bool (L.foldl (zA x w) (-1,false)).2,iV 0]) s:=by
 refine q13 ?_ rfl (by simp[Bc]);have b:=w45 a ok w;have d:=w47 a ok id w C D;have q:=(gE C).2.1;obtain⟨X,Y,Z⟩:=jI (dm (nA a) w).x.js id w q;rw[hL]at d X Y Z;have r:=w46;rw[C]at b;obtain⟨E,u,I⟩:∃E,({h:=av (some (.cells (cR [.int .i64 0,.bool false]) 0 2 s0.nx.succ)) s0.nx.succ (av (some (.cells (cR [.ai,.ai]) 0 2 s0.nx)) s0.nx s0.h),nx:=s0.nx.succ.succ,gr:=av (some [s0.nx.succ]) s0.nx.succ (av (some [s0.nx]) s0.nx s0.gr),ty:=s0.ty}:HS)=E/\fK E [(s0.nx.succ,[.int .i64 0,.bool false]),(s0.nx,[.ai,.ai])] []:=
  ⟨_,rfl,((fK.start s0).cY [.ai,.ai]).cY [.int .i64 0,.bool false]⟩
 obtain⟨S3,k3,z⟩:=I.put (a:=1) rfl (x:=.agg x.c) (new:=x.c) rfl rfl;have m:=eQ (l:=x.c) k3 rfl rfl;simp only[aS,cb]at z;obtain⟨S4,J,A⟩:=z.put (a:=0) rfl (x:=.agg [iV (-1),.bool false]) (new:=[iV (-1),.bool false]) rfl rfl;have M:=eQ (l:=[iV (-1),.bool false]) J rfl rfl;simp only[aS]at A;simp only[Bc,sO,Ar.c,iV,bB,bD]at n;simp only[Ar.c,iV]at b r d;simp only[Fa.c,iV,aA,aE,bw,Nat.reduceAdd]at k3 m J M;have hh:=ct HS.h u;simp only at hh;rw[<-hh]at m;simp[U.Wt,Bc,n,b,r,d,u,m,J];generalize ho:bK R (.loop U.uM) _ _=o;obtain⟨e',s',rfl,O,V⟩:=ah7 hx q X Y Z (by simp[iV]) A ho;clear ho;have d5:=(V.k.bz 0 _ _ rfl).1.1;simp only[iV,aA,aE,bw,Nat.reduceAdd]at d5;simp[O,d5,aa]
section
variable{a uV:Ar}{x:Fa}{id:Int}{w:aP}{L:dH}
def w6l(Y:KW uV id w L)(A:nc uV)(hid:0<id)(hx:Rt uV x)(hw:w.length<=40){e:En}{s:HS}{o:Out}{v7 v8:HV}
  (d:bO e [(2,.ax (Bc a id uV x)),(7,v7),(8,v8),(10,.psl (L.map jD)),(12,.psl ((L.map (aW w)).map l6)),(14,iV (-1)),(15,.bool false),(16,iV 0)])
  (ho:bK R (.loop U.Dp) e s=o):
  ∃e' s',o=.code (.exit 0) e' s'/\bO e' [(7,v7),(8,v8),(14,iV (L.foldl (zA x w) (-1,false)).1),(15,.bool (L.foldl (zA x w) (-1,false)).2)]:=by
 have h2:=Y.len;refine aX ho L.length
  (λi e s=>bO e [(2,.ax (Bc a id uV x)),(7,v7),(8,v8),(10,.psl (L.map jD)),(12,.psl ((L.map (aW w)).map l6)),(14,iV ((L.take i).foldl (zA x w) (-1,false)).1),(15,.bool ((L.take i).foldl (zA x w) (-1,false)).2),(16,iV i)])
  (λo=>∃e' s',o=.code (.exit 0) e' s'/\bO e' [(7,v7),(8,v8),(14,iV (L.foldl (zA x w) (-1,false)).1),(15,.bool (L.foldl (zA x w) (-1,false)).2)])
  0 (by omega) (by simpa using d) (λi e s r M d z=>?_) (λe s r d z=>?_)
 .rw[zw _ _ _ M];generalize(L.take i).foldl (zA x w) (-1,false)=b at d ⊢;have C:(i:Int)<L.length:=by omega
  have O:=bX M;have h3:=Y.cl _ O;have hlen:(aW w L[i]).length=L[i].length:=by simp[aW]
  obtain⟨Z,j2,j3⟩:=Ol Y A.ok hid x O b;rw[j3];have u:=w32 ⟨uV,x.i⟩ A.1 (λt h=>(A.2.2 t h).1) hx.hx.ok;rw[Om]at u;have D:=w15 (aW w L[i]) (by omega);have m:=w31 A.ok hx.hx hx.w84 (aW w L[i]) (by omega);rw[Z]at m;generalize vE uV x (aW w L[i])=q at*;obtain⟨n,h4,er⟩:=q;simp only at Z j2 m ⊢;have E:=bj M (by omega);have I:¬(L[i].length:Int)<=n:=by omega
  simp only[sO,iV]at u m;simp only[pc]at d;simp only[ab,ae,Bc,sO,Ar.c,iV,bB,bD]at d;by_cases h0:0<=n
  case neg=>rw[aq (λh=>h0 h.1)];simp[U.Dp,d,M,C,E,jD,l6,u,D,m,I,h0]at z;subst z;exact .inl ⟨_,_,rfl,by simp[d,iV,Bc]⟩
  case pos=>
   obtain⟨j,rfl⟩:∃j:Nat,n=j:=⟨n.toNat,by omega⟩;have J:j<L[i].length:=by omega
   have hg:L[i].getD j 0=L[i][j]:=by rw[dF,aO J];rfl
   rw[jy,hg];by_cases V:b.1<0
   .rw[ar ⟨h0,.inl V⟩];simp[U.Dp,d,M,C,E,jD,l6,u,D,m,I,h0,V,J]at z;subst z;exact .inl ⟨_,_,rfl,by simp[d,iV,Bc]⟩
   by_cases X:(L[i][j]:Int)<b.1
   .rw[ar ⟨h0,.inr X⟩];simp[U.Dp,d,M,C,E,jD,l6,u,D,m,I,h0,V,X,J]at z;subst z;exact .inl ⟨_,_,rfl,by simp[d,iV,Bc]⟩
   rw[aq (λh=>h.2.elim V X)];simp[U.Dp,d,M,C,E,jD,l6,u,D,m,I,h0,V,X,J]at z;subst z;exact .inl ⟨_,_,rfl,by simp[d,iV,Bc]⟩
 rw[iZ (aY _)]at d;simp only[ab,ae]at d;simp[U.Dp,d]at z;subst z;exact⟨by simp,_,_,rfl,by simp[d]⟩
end
def w6t{a:Ar}{x:Fa}{id:Int}{w:aP}(th:nc a)(z:aB a=0)(O:1<=id)(V:id<=a.ids.length)(X:w.length<=40)(A:(fp a w).2=0)(hx:Rt (gO a id) x)
  (h9:∀s,R (.call 9 [.agg a.c] s)=.val (.bool true) s)(C:∀s,R (.call 29 [.agg (sO (gO a id) x)] s)=.val (.bool true) s)(s:HS):
  R (.call 6 [.agg (Bc a id (gO a id) x),.psl (w.map Mv.c)] s)=.val (.bool true) s:=by
 refine q6 ?_ rfl (by simp[Bc]);have Y:=OW;have ok:=th.ok;have q:=VH a ok;rw[z]at q;have r:=w25 a ok w;rw[cV ⟨X,A⟩]at r;have m:pU a id w=0:=by unfold pU;rw[aq (by simp[z]),aq (by simp[A]),ar ⟨O,V⟩]
 have D:=w26 a ok z O V;have hI:=Zs m X;have hle:na a id w=0:=by rw[mb a id w ok];exact m
 have hp:=j4 hle;have E:=w18 a th.1 (λt h=>(th.2.2 t h).1);have Z:=w15 w (by omega);have b:=w17 F0 a ok id w;have d:=w19 F0 a ok id w;rw[mb a id w ok,zX a id w ok,m]at b d;unfold FL at b d;rw[ar m]at b d;have h3:=F0 a id w hle;have h4:=yQ a ok z w (by omega);have I:=w13 (i:=gO a id) (id:=id) ok hx.hx (λs=>w44 ok hx.th.ok z (λs=>ah2 ok z O V s) hx.w84 s) hp h3 (by rw[h4]);have n:=w14 (id:=id) th (t:=⟨gO a id,x.i⟩) hx.th hx.hx.ok;unfold wA at n;rw[Om]at n;have u:=w30 (gO a id) (gO a id) hx.th.ok;rw[cV rfl]at u;generalize hL:fq (cW (gT a) w).1.js id w=L at*;generalize gO a id=uV at*;have J:=(fK.start s0).cY uV.c;generalize M:HS.mk _ _ _ _=S1 at J;have d5:=(J.k.bz 0 _ _ rfl).1.1;simp only[Ar.c,iV]at h9 q r D E b d u;simp only[Ar.c,aA,aE,bw,Nat.reduceAdd]at M d5;simp only[Bc,sO,Ar.c,iV,bB,bD]at I n;simp only[sO]at C;have h5:((L.map (aW w)).map l6).length=(L.map jD).length:=by simp
 simp-implicitDefEqProofs[U.b6,Bc,h9,C,q,r,D,M,d5,u,n,Z,I,E,b,d,ah,an,aj];generalize ho:bK R (.loop U.Dp) _ _=o;obtain⟨e',s',rfl,hE⟩:=w6l (a:=a) (v7:=iV (L.foldl (zA x w) (-1,false)).1) (v8:=.bool (L.foldl (zA x w) (-1,false)).2) hI hx.th (by omega) hx X (by simp[Bc,iV]) ho;clear ho;simp only[ab,ae,iV]at hE;simp[hE,Y,aa]
def LI(a:Ar)(id:Int)(t:Sx)(hr:∀r∈t.x.nx,r.length<=70368744177664)(w:aP)(s:HS):
  R (.call 6 [.agg (wA a id t),.psl (w.map Mv.c)] s)=.val (.bool true) s:=by
 have h:=OW;obtain⟨b,u,hb⟩:=w9 a;have J:=u;simp only[Ar.c]at u;cases b
 .refine q6 ?_ rfl (by simp[wA]);simp-implicitDefEqProofs[U.b6,wA,u,h,aa]
 have V:=hb rfl;have ok:=V.ok;obtain⟨OF,d,M⟩:=w29 t hr;have z:=d;simp only[Sx.c]at d;cases OF
 .refine q6 ?_ rfl (by simp[wA]);simp-implicitDefEqProofs[U.b6,wA,u,d,h,aa]
 obtain⟨x,X,Y⟩:=M rfl;have m:=VH a ok;simp only[Ar.c,iV]at m;by_cases C:aB a=0
 case neg=>refine q6 ?_ rfl (by simp[wA]);simp-implicitDefEqProofs[U.b6,wA,u,d,m,C,h,aa]
 rw[C]at m;have n:=w25 a ok w;simp only[Ar.c]at n;by_cases I:w.length<=40/\(fp a w).2=0
 case neg=>rw[cu I]at n;refine q6 ?_ rfl (by simp[wA]);simp-implicitDefEqProofs[U.b6,wA,u,d,m,n,h,aa]
 rw[cV I]at n;by_cases hid:1<=id/\id<=a.ids.length
 case neg=>have q:=ah6 a ok C hid;simp only[Ar.c,iV]at q;refine q6 ?_ rfl (by simp[wA]);simp-implicitDefEqProofs[U.b6,wA,u,d,m,n,q,h,ah,an,aa]
 by_cases O:gO a id=t.a
 .obtain⟨ta,tx⟩:=t;simp only at X O Y;subst X;subst O;rw[Om]at z;have:=w6t V C hid.1 hid.2 I.1 I.2 Y J z s;unfold wA;rw[Om];exact this
 have q:=w26 a ok C hid.1 hid.2;have A:=w30 (gO a id) t.a (lE (AW C hid.1 hid.2));rw[cu O]at A;generalize gO a id=uV at*;simp only[Ar.c,iV]at q A;have D:=(fK.start s0).cY uV.c;generalize E:HS.mk _ _ _ _=S1 at D;have Z:=(D.k.bz 0 _ _ rfl).1.1;simp only[Ar.c,aA,aE,bw,Nat.reduceAdd]at E Z;refine q6 ?_ rfl (by simp[wA]);simp-implicitDefEqProofs[U.b6,wA,u,d,m,n,q,E,Z,A,h,ah,an,aj,aa]
end Go.Proofs.YtclepinjnoiakaaGreatDoor.K.Hm.S
namespace Go.Proofs.YtclepinjnoiakaaGreatDoor.K.Hm
open Go Go.RowKit
def LJ(b:Nat):¬Live (λ_=>False) s0 (λ_=>none) b:=by
 rintro(d|⟨o,ob,pl,m,h,n⟩)
 .exact d
 cases h
def ah8(d:Nat->Option Obj)(P:Program)(W:World):cf (λ_=>False) (CR d P) (λ_=>none) s0 W:=
 ⟨λo pl h=>(by cases h),λo ob h=>(by cases h),λo r ob m pl q h=>(by cases h),λo t lo u g h=>(by cases h),λg z h=>(by cases h),λb h=>h.elim,λb h=>h.elim,λo E n h=>(by cases h)⟩
def Gq{P:Program}{L:jx}(F:pG P L){prog oG:Nat->Option HF}(X:P.follows .mixedOrders=true)(m:∀f F,prog f=some F->pD P f F=true)(d:∀f F,oG f=some F->pD P f F=true)
  {n C f t:Nat}(h0:isTrue (run {L with vI:=none} oG C (.call t [] s0))=true){args:ak}{s':HS}(h:run {L with vI:=some t} prog n (.call f args s0)=.val (.bool true) s'){W:World}
  (Y:Lib.TabIs P W "internal/strconv.uint64pow10" .u64 Lib.pow10Tab){vs:List Value}(E:eS (λ_=>none) (λ_=>False) W args vs):Calls P f vs.toArray W λe V=>e=.returned (.bool true)/\Below W.heap.size W V:=by
 obtain⟨Z,I,D⟩:=F.sound X Y;have J:=D oG d none (λt h=>by cases h);obtain⟨s1,hv⟩:∃s',run {L with vI:=none} oG C (.call t [] s0)=.val (.bool true) s':=by
  cases M:run {L with vI:=none} oG C (.call t [] s0)with
  |val v s'=>
   rw[M]at h0;cases v with
   |bool b=>cases b with
    |true=>exact⟨s',rfl⟩
    |false=>cases h0
   |_=>cases h0
  |code=>rw[M]at h0;cases h0
  |bad=>rw[M]at h0;cases h0
 have r:=zO (J C) hv;have D:=D prog m (some t) (λt' h=>by cases h;exact r);obtain⟨_,hc⟩:=(D n).call f args s0 (.bool true) s' h;have z:eS (λ_=>none) (Live (λ_=>False) s0 (λ_=>none)) W args vs:=E.keep (Bt.le_refl _) (λb _ O=>LJ b O) (cD.refl _ _);refine(hc (λ_=>False) (λ_=>none) W vs (ah8 Z P W) (λb o O=>⟨I b o O,LJ b⟩) z).mono ?_
 rintro e V ⟨u,β',rfl,_,A,hu⟩
 cases hu;exact⟨rfl,A.os,A.tape,A.output,A.keeps.size,λk hk=>A.keeps.same k hk (LJ k)⟩
open Go Go.ChangeShapes
section
variable{H:Type}{enc:TypeId×Value->H}{P:Program}{w:World}
abbrev HR0(w:World):=HR (λ_=>none) (λ_=>False) w
abbrev Gr(w:World):=eS (λ_=>none) (λ_=>False) w
abbrev HH(enc:TypeId×Value->H)(P:Program)(w:World):=DataW.trod enc P w 0 (λ_=>true) true
abbrev Wok(P:Program)(t:TypeId)(d:DataW H):Prop:=∀n∈d.weights P t,n<=reachBytes
def p0{e:TypeId}:∀{l:List (DataW H)} {d:DataW H},d∈l->∀n∈d.weights P e,n∈DataW.weightsAll P e l
 |x::l,d,b,n,h=>by
  rw[DataW.weightsAll];rcases bm.1 b with rfl|b
  .exact Bv _ h
  exact JH _ (p0 b n h)
def il:∀{b:List TypeId} {m:List (DataW H)} (i:Nat) {t:TypeId} {d:DataW H},b[i]?=some t->m[i]?=some d->∀n∈d.weights P t,n∈DataW.weightsEach P b m
 |[],_,i,t,d,h,_,_,_=>by simp at h
 |_::_,[],i,t,d,_,h,_,_=>by simp at h
 |t0::b,d0::m,0,t,d,q,r,n,u=>by cases q;cases r;rw[DataW.weightsEach];exact Bv _ u
 |t0::b,d0::m,i+1,t,d,q,r,n,u=>by rw[DataW.weightsEach];exact JH _ (il i q r n u)
structure gd(enc:TypeId×Value->H)(P:Program)(w:World)(t:TypeId){α:Type}(c:α->ak)(B:α->Prop):Prop where
 one:∀a,∀v∈c a,v.one=true
 len:∀a,(c a).length=P.cellsOf t
 rd:∀fuel cs x,HH enc P w fuel t cs=some x->Wok P t x.1->∃a:α,B a/\Gr w (c a) cs
def gd.LY{t:TypeId}{α β:Type}{c:α->ak}{B:α->Prop}{c':β->ak}{B':β->Prop}(h:gd enc P w t c B)(g:β->α)(d:∀b,c' b=c (g b))(f:α->β)(m:∀a,c' (f a)=c a)(n:∀a,B a->B' (f a)):gd enc P w t c' B':=
 ⟨λb v q=>h.one (g b) v (by rw[<-d];exact q),λb=>by rw[d];exact h.len _,λfuel r x u z=>by
  obtain⟨a,A,C⟩:=h.rd fuel r x u z;exact⟨f a,n a A,by rw[m];exact C⟩⟩
def Bd{t:TypeId}{k:IntKind}(b:P.underlying t=some (.int k))(d:P.cellsOf t=1):gd enc P w t (λn:Int=>[.int k n]) (λ_=>True):=
 ⟨λa v m=>by rw[dE.1 m];rfl,λa=>by rw[d];rfl,λfuel q x h _=>by
  obtain⟨n,rfl,_⟩:=DataW.trod_int b h;exact⟨n,trivial,.cons (.int _ _) .nil⟩⟩
def Gs{t:TypeId}(d:P.underlying t=some .bool)(m:P.cellsOf t=1):gd enc P w t (λb:Bool=>[.bool b]) (λ_=>True):=
 ⟨λa v n=>by rw[dE.1 n];rfl,λa=>by rw[m];rfl,λfuel q x h _=>by
  obtain⟨b,rfl,_⟩:=DataW.trod_bool d h;exact⟨b,trivial,.cons (.bool _) .nil⟩⟩
def va{α:Type}{Q:Nat->α->Prop}:∀(n:Nat),(∀i,i<n->∃a,Q i a)->∃l:List α,l.length=n/\∀i (h:i<l.length),Q i l[i]
 |0,_=>⟨[],rfl,λi h=>absurd h (by simp)⟩
 |n+1,h=>by
  obtain⟨l,b,q⟩:=va n (λi d=>h i (by omega));obtain⟨a,r⟩:=h n (by omega);refine⟨l++[a],by simp[b],λi d=>?_⟩;rw[cE,List.length_singleton]at d;by_cases m:i<l.length
  .rw[DS m];exact q i m
  have:i=n:=by omega
  subst this;rw[Gg (by omega)];simpa[b]using r
def uu{a:Addr}{n:Nat}{cs:List Value}(h:w.cells? 0 a n=some cs):cs.length=n/\∀j,j<n->w.cell? (a.add j)=cs[j]?:=by unfold World.cells? at h;rw[ar (fD _)]at h;exact⟨by simpa using mapM_some_length h,λj b=>mapM_some_get h j j (by simp[b])⟩
def iR{t e:TypeId}(ht:P.underlying t=some (.slice e))(h7:P.cellsOf t=1)(C:0<P.cellsOf e){α:Type}{c:α->ak}{B:α->Prop}(M:gd enc P w e c B):
  gd enc P w t (λl:List α=>[.psl (l.map c)]) (λl=>(∀r∈l,B r)/\l.length*P.bytesOf e<=reachBytes):=by
 refine⟨λa v I=>by rw[dE.1 I];rfl,λa=>by rw[h7];rfl,λfuel cs x h hw=>?_⟩;have nil:(∀r∈([]:List α),B r)/\([]:List α).length*P.bytesOf e<=reachBytes:=⟨by simp,by simp⟩;rcases DataW.trod_slice ht h with⟨rfl,_⟩|⟨a,len,cap,D,X,n,_,rfl,rfl,_,h8,_,hf,Y,_,_⟩
 .exact⟨[],nil,.cons (.psl0 none 0 (λ_=>rfl)) .nil⟩
 by_cases h0:len=0
 .subst h0;exact⟨[],nil,.cons (.psl0 (some a) cap (λh=>by cases h)) .nil⟩
 have Z:(D.length+X.length)*P.bytesOf e<=reachBytes/\∀d∈D,Wok P e d.1:=by simp only[Wok,DataW.weights,ht,bm,cG,bH]at hw;exact⟨hw _ (.inl rfl),λd hd n hn=>hw n (.inr (.inl (p0 (List.mem_map_of_mem hd) n hn)))⟩
 have E:∀i,i<len->∃r:α,B r/\∃A,w.cells? 0 (a.add (i*P.cellsOf e)) (P.cellsOf e)=some A/\Gr w (c r) A:=by intro i m;have hg:=Y i m;rw[aO (by omega)]at hg;obtain⟨A,O,V⟩:=mG.1 hg;obtain⟨r,hb,M⟩:=M.rd _ _ _ V (Z.2 _ (bX _));exact⟨r,hb,A,O,M⟩
 obtain⟨rows,hlen,q⟩:=va len E;obtain⟨b,o,spot⟩:=a;have J:spot=none:=by obtain⟨_,A,O,_⟩:=q 0 (by omega);have V:=(uu O).2 0 C;rw[aO (by rw[(uu O).1];exact C)]at V;simpa[Addr.add]using World.cell?_spot V
 subst J;have h6:∀i j,(Addr.add (Addr.add ⟨b,o,none⟩ i) j)=⟨b,o+(i+j),none⟩:=λi j=>by rw[gw,gw];congr 1;omega
 subst hlen;have z:∀i j,i<rows.length->j<P.cellsOf e->∃u,dv w b (o+(i*P.cellsOf e+j))=some u/\∀v,(rows.map c)[i]?=some v->∀y,v[j]?=some y->HR0 w y u:=by intro i j m hj;obtain⟨_,A,O,V⟩:=q i m;obtain⟨h3,h4⟩:=uu O;have h5:=h4 j hj;rw[h6,aO (by omega)]at h5;refine⟨_,h5,λv I y hy=>?_⟩;simp[m]at I;subst I;exact V.2 j y _ hy (aO (by omega))
 refine⟨rows,⟨λr hm=>?_,?_⟩,.cons ?_ .nil⟩
 .obtain⟨i,m,rfl⟩:=eH.1 hm;exact(q i m).1
 .exact fh (jU _ (by omega)) Z.1
 have hb:b<w.heap.size:=by obtain⟨u,hu,_⟩:=z 0 0 (by omega) C;exact rT hu
 have h9:=HR.psl (β:=λ_=>none) (N:=λ_=>False) (w:=w) (rows.map c) b o cap (P.cellsOf e) (λi j=>(dv w b (o+(i*P.cellsOf e+j))).getD Go.undef) (λh=>h) hb (by simpa using h8)
  (λi row m=>by
   obtain⟨r,_,rfl⟩:=dA.1 (cH m);exact M.len r)
  (λrow E v I=>by
   obtain⟨r,_,rfl⟩:=dA.1 E;exact M.one r v I)
  (λi j m hj=>by
   rw[bH]at m;obtain⟨u,hu,_⟩:=z i j m hj;rw[hu];rfl)
  (λi row j y m hy=>by
   have ha:i<rows.length:=by have:=(aV.1 m).1;simpa using this
   have hj:j<P.cellsOf e:=by obtain⟨r,_,rfl⟩:=dA.1 (cH m);rw[<-M.len r];exact(aV.1 hy).1
   obtain⟨u,hu,I⟩:=z i j ha hj;rw[hu];exact I row m y hy)
 simpa using h9
structure FA(enc:TypeId×Value->H)(P:Program)(w:World)(fs:Array Field)(i o k:Nat){α:Type}(c:α->ak)(B:α->Prop):Prop where
 f:∃f,fs[i]?=some f/\f.offset=o/\P.cellsOf f.type=k/\gd enc P w f.type c B
structure RF(enc:TypeId×Value->H)(P:Program)(w:World)(t:TypeId)(fs:Array Field)(i o:Nat){α:Type}(c:α->ak)(B:α->Prop):Prop where
 one:∀a,∀v∈c a,v.one=true
 len:∀a,o+(c a).length=P.cellsOf t
 rd:∀fuel cs x,HH enc P w fuel t cs=some x->Wok P t x.1->∃a:α,B a/\Gr w (c a) (cs.drop o)
section
variable{t:TypeId}{fs:Array Field}{i o k:Nat}{α β:Type}{c:α->ak}{B:α->Prop}{c':β->ak}{B':β->Prop}
def fa(k:Nat){f:Field}(b:fs[i]?=some f)(d:f.offset=o)(h:P.cellsOf f.type=k)(m:gd enc P w f.type c B):FA enc P w fs i o k c B:=⟨f,b,d,h,m⟩
def FA.get(A:FA enc P w fs i o k c B)(u:P.underlying t=some (.struct fs)){fuel:Nat}{cs:List Value}{x:DataW H×List MemPlace}(h:HH enc P w fuel t cs=some x)(C:Wok P t x.1):cs.length=P.cellsOf t/\∃a,B a/\Gr w (c a) ((cs.drop o).take k):=by
 obtain⟨f,b,rfl,rfl,D⟩:=A.f;obtain⟨E,n,_,rfl,h0,q,I⟩:=DataW.trod_struct u h;have z:=I i f b;have r:=(rS.1 b).1;rw[aO (by rw[q];exact r)]at z;refine⟨h0,D.rd n _ _ z λm J=>C m ?_⟩;simp only[DataW.weights,u];refine il i (t:=f.type) (d:=(E[i]'(by rw[q];exact r)).1) ?_ ?_ m J
 .rw[fW,mI,b];rfl
 rw[fW,aO (by rw[q];exact r)];rfl
def FA.len(b:FA enc P w fs i o k c B)(a:α):(c a).length=k:=by obtain⟨f,_,_,rfl,h⟩:=b.f;exact h.len a
def FA.one(b:FA enc P w fs i o k c B)(a:α):∀v∈c a,v.one=true:=by obtain⟨f,_,_,_,h⟩:=b.f;exact h.one a
def RF.last(b:P.underlying t=some (.struct fs))(h:FA enc P w fs i o k c B)(d:o+k=P.cellsOf t):RF enc P w t fs i o c B:=
 ⟨h.one,λa=>by rw[h.len];exact d,λfuel r x m n=>by
  obtain⟨u,q⟩:=h.get b m n;rwa[iZ (by rw[Jj];omega)]at q⟩
def RF.cons(n:P.underlying t=some (.struct fs))(h:FA enc P w fs i o k c B)(r:RF enc P w t fs (i+1) (o+k) c' B'):RF enc P w t fs i o (λp:α×β=>c p.1++c' p.2) (λp=>B p.1/\B' p.2):=
 ⟨λp v q=>(cG.1 q).elim (h.one _ v) (r.one _ v),λp=>by rw[cE,h.len,<-r.len p.2];omega,λfuel u x d m=>by
  obtain⟨_,a,z,A⟩:=h.get n d m;obtain⟨b,C,D⟩:=r.rd fuel u x d m;refine⟨(a,b),⟨z,C⟩,?_⟩;have:=eS.append A D;rwa[<-List.drop_drop,EM]at this⟩
def RF.reads(h:RF enc P w t fs 0 0 c B):gd enc P w t c B:=
 ⟨h.one,λa=>by rw[<-h.len a];omega,λfuel b x d m=>by simpa using h.rd fuel b x d m⟩
end
end
open Go Go.ChangeShapes
section
variable{H:Type}{enc:TypeId×Value->H}{P:Program}{w:World}
open S
def rM(x:Ax):Prop:=∀r∈x.nx,r.length<=70368744177664
def I3{b d e:TypeId}{fs:Array Field}{UK:Nat}{args:Array Value}{O:List TypeId}{V X:List (DataW H)}{p:List MemPlace}
  (hA:DataW.TrodAll enc P w 0 (λ_=>true) true [b,d] args.toList V p)(hz:(DataW.weightsEach P ([b,d]++O) (V++X)).all (· <=reachBytes)=true)
  (Y:∀(j:Nat) t v,#[b,d][j]?=some t->args[j]?=some v->Value.okWide P w .any UK t v)
  (I:P.underlying b=some (.struct fs))(r:gd enc P w b (λp:Ar×Int×Sx=>wA p.1 p.2.1 p.2.2) (λp=>rM p.2.2.x))(z:P.underlying d=some (.slice e)){B:aP->Prop}(J:gd enc P w d (λl:aP=>[.psl (l.map Mv.c)]) B):
  ∃(a:Ar) (id:Int) (t:Sx) (m:aP),rM t.x/\Gr w [.agg (wA a id t),.psl (m.map Mv.c)] args.toList:=by
 obtain⟨v1,A,Z,d2,p1,p2,rfl,rfl,rfl,h,C⟩:=trodAll_two hA;have M:=Y 0 b v1 rfl rfl;have q:=Y 1 d A rfl rfl;unfold Value.okWide at M q;rw[I]at M;rw[z]at q;obtain⟨cs,rfl,_,_⟩:=M;have q:Cell.okWide P w .any UK d A:=q;have n2:A.cells= #[A]:=by cases A with|agg c=>exfalso;unfold Cell.okWide Cell.ok at q;rw[z]at q;exact q|_=>rfl
 have D:∀n∈DataW.weightsEach P ([b,d]++O) ([Z,d2]++X),n<=reachBytes:=λn E=>by simpa using fw.1 hz n E
 obtain⟨f1,h⟩:=h;obtain⟨f2,C⟩:=C;have h:HH enc P w f1 b cs.toList=some (Z,p1):=h;obtain⟨⟨a,id,t⟩,hb,ha⟩:=r.rd _ _ _ h (λn E=>D n (il 0 rfl rfl n E));obtain⟨m,_,hm⟩:=J.rd _ _ _ C (λn E=>D n (il 1 rfl rfl n E));rw[n2]at hm;exact⟨a,id,t,m,hb,.cons (.agg _ cs (r.one (a,id,t)) (by simpa using ha.1) (λi v u h C=>ha.2 i v u h (by simpa using C))) hm⟩
end
end Go.Proofs.YtclepinjnoiakaaGreatDoor.K.Hm
namespace Go.Proofs.YtclepinjnoiakaaGreatDoor.K.Hm.U
open Go
def f12:=h0 102 0 [0,1,2,3,4,5,6,7,8,10,11,12] [.tmp 0] (S (g [0] [Z 0]) (S (g [1,2,3] [j 14 40,o 15 (.call 41 [.k (.str [48,63,32,50,63,32,50,33,48,32,48,33,49])]),C 16 31 14 15,m 13 16,x 17 13 0,x 18 13 1,x 19 13 2,m 1 17,m 2 18,m 3 19]) (S (g [4,5] [j 21 40,j 22 43,o 23 (.bsl 1 [.k (.str [48,63,32,50,63,32,50,33,49,32,48,33,48])]),C 24 42 22 23,o 25 (.call 33 [.t 21,.t 24,.k (.bool false)]),m 20 25,x 26 20 0,x 27 20 1,m 4 26,m 5 27]) (S (g [6,7] [j 29 43,o 30 (.call 41 [.k (.str [48,63,32,49,63,32,49,46,49,63,32,49,63,32,49,33,48,32,49,46,49,33,49,32,49,33,48,32,48,33,48])]),o 31 (.call 19 [.t 29,.k (.int .i64 1),.t 30]),m 28 31,x 32 28 0,x 33 28 1,m 6 32,m 7 33]) (S (g [8] [j 35 43,o 36 (.call 26 [.t 35,.k (.int .i64 1)]),m 34 36,x 37 34 0,x 38 34 1,o 8 (.alloc [.ai,.bool false,.int .i64 0,.bool false]),s 4 8 37,m 9 38]) (S (d [10,11,12] [u 0 (j 40 43),w 1 (L 41 8 4) 0 1,r 2 (o 42 (.fbl 1 [.k (.str [48,63,32,49,63,32,49,33,49,32,48,33,48])])),u 3 (C 43 42 41 42),u 5 (o 45 (.call 41 [.k (.str [48,63,32,49,63,32,49,46,49,63,32,49,63,32,49,33,48,32,49,46,49,33,49,32,49,33,48,32,48,33,48])])),r 4 (o 44 (.build [.x (.t 40) 4,.x (.k (.int .i64 1)) 1,.x (.t 43) 6])),u 6 (C 46 13 44 45),r 7 (m 39 46),r 8 (x 47 39 0),r 9 (x 48 39 1),r 10 (x 49 39 2),r 11 (m 10 47),r 12 (m 11 48)] [m 12 49]) (S (d [0] [r 0 (m 50 3),r 1 (i 51 .eql 50 0),r 2 (m 52 51),r 3 (mT 53 1 52),r 4 (iT 54 .eql 53 3 52),r 5 (y 55 52 54),r 6 (m 56 55),r 7 (mT 57 2 56),r 8 (NT 58 57 56),r 9 (y 59 56 58),r 10 (m 60 59),r 11 (mT 61 5 60),r 12 (iT 62 .eql 61 0 60),r 13 (y 63 60 62),r 14 (m 64 63),r 15 (mT 65 4 64),r 16 (NT 66 65 64),r 17 (y 67 64 66),r 18 (m 68 67),r 19 (mT 69 7 68),r 20 (iT 70 .eql 69 0 68),r 21 (y 71 68 70),r 22 (m 72 71),r 23 (mT 73 6 72),w 24 (nT 74 73 72) 0 0,r 25 (iT 75 .eql 74 2 72),r 26 (y 76 72 75),r 27 (m 77 76),u 31 (G 81 (.call 41 [.k (.str [48,63,32,49,63,32,49,33,49,32,48,33,48])]) 77 true),r 28 (mT 78 6 77),r 29 (G 79 (.ia (.t 78) (.k (.int .i64 0)) 1) 77 true),w 30 (lT 80 79 77) 0 1,u 32 (CT 82 23 80 81 77),r 33 (y 83 77 82),r 34 (m 84 83),u 38 (G 88 (.call 41 [.k (.str [48,63,32,48,33,48])]) 84 true),r 35 (mT 85 6 84),r 36 (G 86 (.ia (.t 85) (.k (.int .i64 1)) 1) 84 true),w 37 (lT 87 86 84) 2 3] [CT 89 23 87 88 84,y 90 84 89,m 91 90,mT 92 12 91,iT 93 .eql 92 0 91,y 94 91 93,m 95 94,mT 96 10 95,iT 97 .eql 96 4 95,y 98 95 97,m 99 98,mT 100 11 99,y 101 99 100,m 0 101]) R)))))))
def f33:=h0 26 3 [0,1,2,3,4,6,7,8,10,15] [.tmp 6,.tmp 7] (S (g [3,4,6,7] [b 3 0,b 4 1,Z 6,K 7 0]) (S (S (g [8] [L 11 3 6,L 12 4 6,C 13 70 11 12,m 8 13]) (A [15] [m 14 8,i 15 .neq 14 0] 15 (F [6,7] [m 16 8,Z 6,m 7 16]) W)) (S (g [10] [L 18 3 6,L 19 4 6,m 20 2,J 21 71 18 19 20,m 17 21,x 22 17 0,x 23 17 1,m 9 22,m 10 23]) (F [6,7] [m 24 10,N 25 24,m 6 25,K 7 0]))))
def f40:=h0 4 0 [0] [.cell 0 (some 6)] (S (g [0] [o 0 (.alloc [.ai,.bool false,.int .i64 0,.bool false,.ai,.ai])]) (F [] [j 1 43,o 2 (.bsl 1 [.k (.str [48,63,32,50,63,32,50,33,48,32,48,33,48]),.k (.str [48,63,32,50,63,32,50,33,49,32,48,33,49])]),C 3 42 1 2,s 6 0 3]))
def f41:=h0 11 1 [0,2,3] [.tmp 2] (S (g [2] [Q 2]) (S (g [3] [m 6 0,c 7 80 6,m 5 7,x 8 5 0,x 9 5 1,m 3 8,m 4 9]) (F [2] [m 10 3,m 2 10])))
def aap:=S (A [12] [m 9 6,m 10 1,n 11 10,z 12 .lss 9 11] 12 W (X 0)) (S (T 1 (g [5] [m 15 5,m 16 1,m 17 6,a 18 16 17 1,l 19 18,c 20 41 19,q 21 1 20,p 22 1 5864062014805 15 21,m 5 22])) (t 6 13 14))
def f42:=h0 31 2 [0,1,2,4,5,6,7,12] [.cell 4 (some 6)] (S (g [2,4] [b 2 0,o 4 (.alloc [.ai,.bool false,.int .i64 0,.bool false,.ai,.ai])]) (S (g [5] [Q 5]) (S (S (g [6] [K 6 0]) (T 0 (M aap))) (S (g [7] [m 24 5,c 25 81 24,m 23 25,x 26 23 0,x 27 23 1,o 7 (.alloc [.ai,.ai]),s 2 7 26,m 8 27]) (F [] [L 28 2 4,L 29 7 2,o 30 (.build [.x (.t 28) 4,.x (.t 29) 2]),s 6 4 30])))))
def f43:=h0 10 0 [0] [.cell 0 (some 4)] (S (g [0] [o 0 (.alloc [.ai,.bool false,.int .i64 0,.bool false])]) (F [] [o 1 (.build [.z [.bool false],.x (.k (.int .i64 2)) 1]),o 2 (.bsl 2 [.t 1]),o 3 (.build [.z [.bool false],.x (.k (.int .i64 1)) 1]),o 4 (.build [.x (.t 2) 1,.x (.t 3) 2]),o 5 (.build [.z [.bool false],.x (.k (.int .i64 2)) 1]),o 6 (.build [.z [.ai],.x (.t 5) 2]),o 7 (.bsl 3 [.t 4,.t 6]),o 8 (.build [.z [.bool false],.x (.k (.int .i64 2)) 1]),o 9 (.build [.x (.t 7) 1,.x (.t 8) 2,.z [.bool false]]),s 4 0 9]))
def aaq:=S (g [13] [z 13 .lss 12 11]) (S (I 13 W (X 0)) (S (T 1 (S (g [6] [a 14 10 12 6,L 15 14 6,o 6 (.alloc [.ai,.bool false,.int .i64 0,.bool false,.ai,.ai]),s 6 6 15]) (S (g [7] [L 16 6 6,c 17 84 16,m 7 17]) (A [19] [m 18 7,i 19 .neq 18 0] 19 (F [4] [m 20 7,m 4 20]) W)))) (g [12] [i 21 .add 12 1,m 12 21])))
def f70:=h0 28 2 [0,1,2,3,4,6,7,10,11,12,13,19,27] [.tmp 4] (S (g [2,3,4] [b 2 0,b 3 1,K 4 0]) (S (S (g [10,11,12] [L 8 2 6,L 9 3 6,o 10 (.bsl 6 [.t 8,.t 9]),n 11 10,K 12 0]) (T 0 (M aaq))) (S (A [27] [f 22 2 0,L 23 22 4,f 24 3 0,L 25 24 4,C 26 85 23 25,N 27 26] 27 (F [4] [K 4 11]) W) (F [4] [K 4 0]))))
def f71:=h0 31 3 [0,1,2,3,4,6,7,8,9,10,11,12] [.tmp 6,.tmp 7] (S (g [3,4,6,7] [b 3 0,b 4 1,Q 6,Z 7]) (S (d [8,9] [r 0 (f 14 3 4),w 1 (L 15 14 2) 0 2,r 2 (o 16 (.build [.x (.t 15) 2])),v 6 (o 8 (.alloc [.ai,.ai])),v 7 (o 9 (.alloc [.ai,.ai])),u 8 (s 2 8 16),r 3 (f 17 4 4),w 4 (L 18 17 2) 0 3,r 5 (o 19 (.build [.x (.t 18) 2]))] [s 2 9 19]) (S (g [10] [o 20 (.mkf 97 [] [.t 9,.t 8]),m 10 20]) (S (g [11,12] [m 22 10,m 23 2,o 24 (.build [.z [.int .i64 0,.int .i64 0],.x (.k (.fn 99 [] [])) 1,.x (.t 22) 1,.z [.int .i64 0],.x (.t 23) 1]),c 25 101 24,m 21 25,x 26 21 0,x 27 21 1,x 28 21 2,m 11 26,m 12 27,m 13 28]) (F [6,7] [m 29 11,m 30 12,m 6 29,m 7 30])))))
def aar:=S (A [14] [m 11 5,m 12 0,o 13 (.len 1 (.t 12)),z 14 .lss 11 13] 14 W (X 0)) (S (T 1 (A [20] [m 17 0,m 18 5,o 19 (.idx (.t 17) (.t 18)),o 20 (.bin false .eql (.t 19) (.k (.int .u8 32)))] 20 (t 4 21 22) W)) (t 5 15 16))
def aas:=S (A [32] [m 29 8,m 30 6,n 31 30,z 32 .lss 29 31] 32 W (X 2)) (S (T 3 (S (g [9,10] [m 36 6,m 37 8,a 38 36 37 1,l 39 38,c 40 110 39,m 35 40,x 41 35 0,x 42 35 1,o 9 (.alloc [.int .i64 0,.int .i64 0,.int .u8 0,.int .i64 0]),s 4 9 41,m 10 42]) (S (A [44] [m 43 10,i 44 .neq 43 0] 44 (F [2,3] [m 45 10,Q 2,m 3 45]) W) (g [7] [m 46 7,L 47 9 4,q 48 4 47,p 49 4 4398046511104 46 48,m 7 49])))) (t 8 33 34))
def f80:=h0 51 1 [0,2,3,4,5,6,7,8,9,10,14,20,24,26,32,44] [.tmp 2,.tmp 3] (S (g [2,3] [Q 2,K 3 0]) (S (g [4] [K 4 0]) (S (S (g [5] [K 5 0]) (T 0 (M aar))) (S (A [24] [m 23 4,i 24 .geq 23 400] 24 (F [2,3] [Q 2,K 3 5]) W) (S (A [26] [m 25 0,o 26 (.bin false .eql (.t 25) (.k (.str [])))] 26 (F [2,3] [Q 2,K 3 0]) W) (S (g [6] [m 27 0,o 28 (.call 109 [.t 27,.k (.str [32])]),m 6 28]) (S (g [7] [Q 7]) (S (S (g [8] [K 8 0]) (T 2 (M aas))) (F [2,3] [m 50 7,m 2 50,K 3 0])))))))))
def aat:=S (A [19] [m 16 4,m 17 0,n 18 17,z 19 .lss 16 18] 19 W (X 0)) (S (T 1 (A [27] [m 22 0,m 23 4,a 24 22 23 1,l 25 24,n 26 25,i 27 .gtr 26 400] 27 (F [3] [o 28 (.build [.z [.ai],.z [.ai]]),s 2 2 28,K 3 5]) W)) (t 4 20 21))
def aau:=S (A [52] [m 45 10,f 46 5 0,l 47 46,m 48 7,a 49 47 48 1,l 50 49,n 51 50,z 52 .lss 45 51] 52 W (X 6)) (S (T 7 (S (d [71] [r 0 (f 55 5 0),w 1 (l 56 55) 0 0,r 2 (m 57 7),r 3 (a 58 56 57 1),w 4 (l 59 58) 0 0,r 5 (m 60 10),r 6 (a 61 59 60 5),r 7 (f 62 61 0),w 8 (L 63 62 4) 0 0,r 9 (m 64 0),r 10 (m 65 6),r 11 (a 66 64 65 1),w 12 (l 67 66) 0 0,r 13 (m 68 8),r 14 (a 69 67 68 4),w 15 (L 70 69 4) 0 0] [o 71 (.eqs ⟨true,[0,0,0,0]⟩ false (.t 63) (.t 70))]) (I 71 (g [9] [f 72 5 0,l 73 72,m 74 7,a 75 73 74 1,l 76 75,m 77 10,a 78 76 77 5,f 79 78 4,l 80 79,m 9 80]) W))) (t 10 53 54))
def aav:=S (A [42] [m 36 8,m 37 0,m 38 6,a 39 37 38 1,l 40 39,n 41 40,z 42 .lss 36 41] 42 W (X 4)) (S (T 5 (S (g [9] [K 9 (-1)]) (S (S (g [10] [K 10 0]) (T 6 (M aau))) (S (A [82] [m 81 9,i 82 .lss 81 0] 82 (S (g [9] [f 83 5 0,l 84 83,n 85 84,m 9 85]) (S (d [] [r 3 (f 89 5 0),w 4 (l 90 89) 0 0,r 5 (m 91 7),r 6 (a 92 90 91 1),w 7 (l 93 92) 0 0,r 8 (m 94 0),r 9 (m 95 6),r 10 (a 96 94 95 1),w 11 (l 97 96) 0 0,r 12 (m 98 8),r 13 (a 99 97 98 4),w 14 (L 100 99 4) 0 0,r 15 (m 101 9),r 16 (o 102 (.build [.x (.t 100) 4,.x (.t 101) 1])),r 17 (q 103 5 102),u 18 (p 104 5 3518437208883 93 103),r 0 (f 86 5 0),w 1 (l 87 86) 0 1,r 2 (m 88 7)] [a 105 87 88 1,s 1 105 104]) (d [] [r 0 (f 106 5 0),w 1 (l 107 106) 0 0,r 2 (o 108 (.fbl 1 [.k .ai])),u 3 (p 109 1 5864062014805 107 108),r 4 (f 110 5 1),w 5 (l 111 110) 0 1,r 6 (o 112 (.fbl 1 [.k (.bool false)])),u 7 (p 113 1 140737488355328 111 112),r 8 (f 114 5 0)] [s 1 114 109,f 115 5 1,s 1 115 113]))) W) (g [7] [m 116 9,m 7 116]))))) (t 8 43 44))
def aaw:=S (A [33] [m 30 6,m 31 0,n 32 31,z 33 .lss 30 32] 33 W (X 2)) (S (T 3 (S (g [7] [K 7 0]) (S (S (g [8] [K 8 0]) (T 4 (M aav))) (g [] [f 117 5 1,l 118 117,m 119 7,a 120 118 119 1,e (.st 1 (.t 120) (.k (.bool true)))])))) (t 6 34 35))
def f81:=h0 127 1 [0,2,3,4,5,6,7,8,9,10,11,14,19,27,33,42,52,71,82,124] [.cell 2 (some 2),.tmp 3] (S (g [2,3] [o 2 (.alloc [.ai,.ai]),K 3 0]) (S (A [14] [m 12 0,n 13 12,i 14 .gtr 13 60] 14 (F [3] [o 15 (.build [.z [.ai],.z [.ai]]),s 2 2 15,K 3 5]) W) (S (S (g [4] [K 4 0]) (T 0 (M aat))) (S (g [5] [j 29 111,o 5 (.alloc [.ai,.ai]),s 2 5 29]) (S (S (g [6] [K 6 0]) (T 2 (M aaw))) (S (g [11] [L 121 5 2,c 122 108 121,o 11 (.alloc [.ai,.ai]),s 2 11 122]) (S (A [124] [L 123 11 2,c 124 104 123] 124 (F [3] [o 125 (.build [.z [.ai],.z [.ai]]),s 2 2 125,K 3 5]) W) (F [3] [L 126 11 2,s 2 2 126,K 3 0]))))))))
def f97:=h0 6 3 [0,1,2,3,4] [.tmp 4] (S (g [3,4] [o 3 (.box (.t 0)),o 4 (.mv (.k .gU))]) (F [4] [o 5 (.mkf 98 [] [.t 1,.t 3,.t 2]),m 4 5]))
def aax:=S (g [17] [z 17 .lss 16 15]) (S (I 17 W (X 0)) (S (T 1 (S (g [6] [a 18 14 16 5,L 19 18 5,o 6 (.alloc [.int .i64 0,.int .i64 0,.int .u8 0,.int .i64 0,.int .i64 0]),s 5 6 19]) (S (d [7] [w 2 (L 22 3 2) 0 0,r 3 (f 23 2 1),w 4 (l 24 23) 0 0,r 5 (f 25 6 0),w 6 (L 26 25 4) 0 0,u 7 (J 27 90 22 24 26),r 0 (f 20 6 4),w 1 (l 21 20) 0 1] [o 28 (.build [.x (.t 21) 1,.x (.t 27) 1]),o 29 (.box (.t 28)),m 7 29]) (S (A [34] [m 30 7,k 31 30,f 32 31 1,l 33 32,i 34 .eql 33 (-1)] 34 (g [7] [V 7]) W) (A [40] [m 35 0,f 36 6 0,L 37 36 4,m 38 7,o 39 (.dyn (.t 35) [.t 37,.t 38]),N 40 39] 40 R W))))) (g [16] [i 41 .add 16 1,m 16 41])))
def f98:=h0 42 4 [0,1,2,3,6,7,14,15,16,17,34,40] [] (S (g [14,15,16] [f 8 1 0,f 9 8 0,l 10 9,f 11 2 0,l 12 11,a 13 10 12 1,l 14 13,n 15 14,K 16 0]) (T 0 (M aax)))
def f99:=h0 9 1 [0,1,2] [.tmp 2] (S (g [1,2] [b 1 0,o 2 (.mv (.k (.str [])))]) (F [2] [f 3 1 0,l 4 3,f 5 1 1,l 6 5,o 7 (.bsl 1 [.t 4,.t 6]),c 8 100 7,m 2 8]))
def UL:=S (A [13] [m 12 5,i 13 .gtr 12 0] 13 W (X 2)) (S (T 3 (g [] [m 16 5,i 17 .rem 16 2,o 18 (.bin false .add (.k (.int .i64 48)) (.t 17)),o 19 (.cnv .u8 (.t 18)),C 20 135 3 19])) (g [5] [m 14 5,i 15 .quo 14 2,m 5 15]))
def UM:=S (g [9] [z 9 .lss 8 7]) (S (I 9 W (X 0)) (S (T 1 (S (g [5] [a 10 6 8 1,l 11 10,m 5 11]) (S (T 2 (M UL)) (g [] [o 21 (.call 135 [.t 3,.k (.int .u8 44)])])))) (g [8] [i 22 .add 8 1,m 8 22])))
def ah9:=h0 24 1 [0,2,3,5,6,7,8,9,13] [.tmp 2] (S (g [2] [o 2 (.mv (.k (.str [])))]) (S (g [3] [o 3 (.alb 211 [.dZ,.ai])]) (S (S (g [6,7,8] [m 6 0,n 7 6,K 8 0]) (T 0 (M UM))) (F [2] [c 23 136 3,m 2 23]))))
def UN:=g [90] [f 81 1 4,l 82 81,i 83 .gtr 82 0,m 84 83,lT 85 5 84,G 86 (.len 2 (.t 85)) 84 true,fT 87 1 4 84,lT 88 87 84,zT 89 .gtr 86 88 84,y 90 84 89]
def UO:=S (A [23] [l 21 6,n 22 21,i 23 .gtr 22 0] 23 W (X 0)) (S (T 1 (S (d [32] [r 0 (f 26 1 3),w 1 (l 27 26) 0 0,w 2 (l 28 6) 0 0,r 3 (o 29 (.ia (.t 28) (.k (.int .i64 0)) 3)),r 4 (f 30 29 0),w 5 (L 31 30 2) 0 0] [o 32 (.dyn (.t 27) [.t 31])]) (T 2 (.rf (.t 32) [33,34] (S (g [7] [o 7 (.alloc [.int .i64 0,.int .i64 0,.int .u8 0,.int .i64 0]),s 4 7 33]) (g [8] [m 8 34])) (T 3 (S (d [9] [w 0 (l 35 6) 0 0,r 1 (o 36 (.ia (.t 35) (.k (.int .i64 0)) 3)),r 2 (f 37 36 2),w 3 (l 38 37) 0 0,u 4 (c 39 137 38),w 5 (L 40 7 4) 0 1,r 6 (q 41 4 40)] [p 42 4 4398046511104 39 41,m 9 42]) (S (T 4 (A [43] [m 44 8,o 45 (.niq 3 false (.t 44)),m 43 45] 43 (S (d [54] [w 0 (l 46 3) 0 0,r 1 (N 47 46),r 2 (m 48 47),w 3 (LT 49 7 4 48) 0 0,u 4 (cT 50 50 49 48),r 5 (fT 51 1 5 48),w 6 (lT 52 51 48) 0 1] [G 53 (.bin true .eql (.t 50) (.t 52)) 48 true,y 54 48 53]) (I 54 (g [] [m 55 9,s 1 2 55,e (.st 1 (.t 3) (.k (.bool true)))]) W)) (S (d [56] [r 1 (f 58 1 2),w 2 (l 59 58) 0 0,r 3 (m 60 8),r 4 (k 61 60),w 5 (L 62 61 2) 0 0,u 6 (o 63 (.dyn (.t 59) [.t 62])),w 0 (l 57 5) 0 1] [o 64 (.lkp ⟨false,[2]⟩ (.t 57) (.t 63) (.bool false) false),N 65 64,m 56 65]) (I 56 (S (d [] [r 1 (f 67 1 2),w 2 (l 68 67) 0 0,r 3 (m 69 8),r 4 (k 70 69),w 5 (L 71 70 2) 0 0,u 6 (o 72 (.dyn (.t 68) [.t 71])),w 0 (l 66 5) 0 1] [e (.mup ⟨false,[2]⟩ (.t 66) (.t 72) (.k (.bool true)))]) (d [] [w 0 (l 73 6) 0 0,r 1 (m 74 8),r 2 (k 75 74),w 3 (L 76 75 2) 0 0,r 4 (m 77 9),r 5 (o 78 (.build [.x (.t 76) 2,.x (.t 77) 1])),r 6 (q 79 3 78)] [p 80 3 3518437208883 73 79,s 1 6 80])) W)))) (S UN (I 90 (F [] [e (.st 1 (.t 2) (.k .ai)),e (.st 1 (.t 3) (.k (.bool false))),e (.st 1 (.t 4) (.k (.int .i64 5)))]) W))))))))) (S (S (g [91] [l 91 6]) (g [6] [o 6 (.alloc [.ai]),s 1 6 91])) (g [] [l 24 6,o 25 (.slc (.t 24) (some (.k (.int .i64 1))) none none 3),s 1 6 25])))
def aia:=h0 94 1 [0,1,2,3,4,5,6,7,8,9,23,32,33,34,43,54,56,90,91] [.cell 2 none,.cell 3 none,.cell 4 none] (S (g [1,2,3,4] [b 1 0,o 2 (.alloc [.ai]),o 3 (.alloc [.bool false]),o 4 (.alloc [.int .i64 0])]) (S (g [5] [o 10 .mkm,f 11 1 2,l 12 11,f 13 1 0,L 14 13 2,o 15 (.dyn (.t 12) [.t 14]),e (.mup ⟨false,[2]⟩ (.t 10) (.t 15) (.k (.bool true))),m 16 10,o 5 (.alloc [.fV]),s 1 5 16]) (S (S (g [6] [f 17 1 0,L 18 17 2,o 19 (.build [.x (.t 18) 2,.z [.ai]]),o 20 (.bsl 3 [.t 19]),o 6 (.alloc [.ai]),s 1 6 20]) (T 0 (M UO))) (S (d [] [w 0 (l 92 2) 0 0,u 2 (s 1 2 92),w 1 (l 93 3) 0 1] [s 1 3 93,e (.st 1 (.t 4) (.k (.int .i64 0)))]) R))))
def UP:=S (A [14] [m 8 7,m 9 1,o 10 (.len 1 (.t 9)),z 11 .add 8 10,m 12 0,o 13 (.len 1 (.t 12)),z 14 .leq 11 13] 14 W (X 0)) (S (T 1 (A [25] [m 17 0,m 18 7,m 19 7,m 20 1,o 21 (.len 1 (.t 20)),z 22 .add 19 21,o 23 (.sls (.t 17) (some (.t 18)) (some (.t 22))),m 24 1,z 25 .eql 23 24] 25 (S (g [5] [m 26 5,m 27 0,m 28 6,m 29 7,o 30 (.sls (.t 27) (some (.t 28)) (some (.t 29))),q 31 1 30,p 32 1 8796093022208 26 31,m 5 32]) (g [6,7] [m 33 7,m 34 1,o 35 (.len 1 (.t 34)),z 36 .add 33 35,m 37 7,m 38 1,o 39 (.len 1 (.t 38)),z 40 .add 37 39,i 41 .sub 40 1,m 6 36,m 7 41])) W)) (t 7 15 16))
def aib:=h0 48 2 [0,1,4,5,6,7,14,25] [.tmp 4] (S (g [4] [Q 4]) (S (g [5] [Q 5]) (S (g [6] [K 6 0]) (S (S (g [7] [K 7 0]) (T 0 (M UP))) (F [4] [m 42 5,m 43 0,m 44 6,o 45 (.sls (.t 43) (some (.t 44)) none),q 46 1 45,p 47 1 8796093022208 42 46,m 4 47])))))
def UQ:=g [28] [m 21 5,o 22 (.len 1 (.t 21)),i 23 .gtr 22 0,m 24 23,mT 25 5 24,G 26 (.idx (.t 25) (.k (.int .i64 0))) 24 true,G 27 (.bin false .eql (.t 26) (.k (.int .u8 46))) 24 true,y 28 24 27]
def UR:=g [76] [m 70 9,i 71 .neq 70 0,m 72 71,mF 73 8 72,mF 74 0 72,zF 75 .neq 73 74 72,Y 76 72 75]
def aic:=h0 79 1 [0,2,3,4,5,6,7,8,9,28,42,45,46,49,52,63,76] [.cell 2 (some 4),.tmp 3] (S (g [2,3] [o 2 (.alloc [.int .i64 0,.int .i64 0,.int .u8 0,.int .i64 0]),K 3 0]) (S (g [4] [o 4 (.alloc [.int .i64 0,.int .i64 0,.int .u8 0,.int .i64 0])]) (S (g [5] [m 10 0,m 5 10]) (S (g [6,7] [m 12 5,c 13 143 12,m 11 13,x 14 11 0,x 15 11 1,m 6 14,m 7 15]) (S (d [5] [r 0 (m 16 6),r 4 (f 20 4 0),u 5 (s 1 20 16),r 1 (m 17 5),r 2 (m 18 7),r 3 (o 19 (.sls (.t 17) (some (.t 18)) none))] [m 5 19]) (S (S UQ (I 28 (S (g [6,7] [m 30 5,o 31 (.sls (.t 30) (some (.k (.int .i64 1))) none),c 32 143 31,m 29 32,x 33 29 0,x 34 29 1,m 6 33,m 7 34]) (d [5] [r 0 (m 35 6),r 5 (f 40 4 1),u 6 (s 1 40 35),r 1 (m 36 5),r 2 (m 37 7),r 3 (o 38 (.bin false .add (.k (.int .i64 1)) (.t 37))),r 4 (o 39 (.sls (.t 36) (some (.t 38)) none))] [m 5 39])) W)) (S (A [42] [m 41 5,o 42 (.bin false .eql (.t 41) (.k (.str [])))] 42 (F [3] [o 43 (.build [.z [.int .i64 0],.z [.int .i64 0],.z [.int .u8 0],.z [.int .i64 0]]),s 4 2 43,K 3 4]) W) (S (S (g [45] [m 44 5,o 45 (.idx (.t 44) (.k (.int .i64 0)))]) (T 0 (A [46] [o 47 (.bin false .eql (.t 45) (.k (.int .u8 63))),m 46 47] 46 (g [] [f 48 4 2,e (.st 1 (.t 48) (.k (.int .u8 1)))]) (A [49] [o 50 (.bin false .eql (.t 45) (.k (.int .u8 61))),m 49 50] 49 (g [] [f 51 4 2,e (.st 1 (.t 51) (.k (.int .u8 2)))]) (A [52] [o 53 (.bin false .eql (.t 45) (.k (.int .u8 33))),m 52 53] 52 (g [] [f 54 4 2,e (.st 1 (.t 54) (.k (.int .u8 3)))]) W))))) (S (g [] [m 56 5,o 57 (.sls (.t 56) (some (.k (.int .i64 1))) none),c 58 143 57,m 55 58,x 59 55 0,x 60 55 1,f 61 4 3,s 1 61 59]) (S (A [63] [m 62 5,o 63 (.bin false .eql (.t 62) (.k (.str [33,42])))] 63 (g [] [f 64 4 3,e (.st 1 (.t 64) (.k (.int .i64 (-1))))]) W) (S (S (g [8,9] [L 66 4 4,c 67 144 66,m 65 67,x 68 65 0,x 69 65 1,m 8 68,m 9 69]) (S UR (I 76 (F [3] [o 77 (.build [.z [.int .i64 0],.z [.int .i64 0],.z [.int .u8 0],.z [.int .i64 0]]),s 4 2 77,K 3 4]) W))) (F [3] [L 78 4 4,s 4 2 78,K 3 0]))))))))))))
def f137:=h0 8 1 [0,2,4] [.tmp 2] (S (g [2] [Q 2]) (S (A [4] [m 3 0,o 4 (.niq 0 false (.t 3))] 4 (F [2] [Q 2]) W) (F [2] [o 5 (.bsl 4 []),m 6 0,p 7 4 4398046511104 5 6,m 2 7])))
def US:=g [25] [m 6 5,m 7 0,o 8 (.len 1 (.t 7)),z 9 .lss 6 8,m 10 9,mT 11 5 10,iT 12 .lss 11 19 10,y 13 10 12,m 14 13,mT 15 0 14,mT 16 5 14,G 17 (.idx (.t 15) (.t 16)) 14 true,G 18 (.bin false .geq (.t 17) (.k (.int .u8 48))) 14 true,y 19 14 18,m 20 19,mT 21 0 20,mT 22 5 20,G 23 (.idx (.t 21) (.t 22)) 20 true,G 24 (.bin false .leq (.t 23) (.k (.int .u8 57))) 20 true,y 25 20 24]
def UT:=S (S US (I 25 W (X 0))) (T 1 (S (g [4] [m 26 4,o 27 (.bin false .mul (.k (.int .i64 10)) (.t 26)),m 28 0,m 29 5,o 30 (.idx (.t 28) (.t 29)),o 31 (.bin false .sub (.t 30) (.k (.int .u8 48))),o 32 (.cnv .i64 (.t 31)),z 33 .add 27 32,m 4 33]) (t 5 34 35)))
def aid:=h0 38 1 [0,2,3,4,5,25] [.tmp 2,.tmp 3] (S (g [2,3] [K 2 0,K 3 0]) (S (g [4,5] [K 4 0,K 5 0]) (S (T 0 (M UT)) (F [2,3] [m 36 4,m 37 5,m 2 36,m 3 37]))))
def UU:=g [4] [f 5 1 0,l 6 5,i 7 .geq 6 0,m 8 7,fT 9 1 1 8,lT 10 9 8,iT 11 .geq 10 0 8,y 12 8 11,m 4 12]
def UW:=g [4] [m 17 4,m 18 17,fT 19 1 3 18,lT 20 19 18,iT 21 .eql 20 0 18,y 22 18 21,m 4 22]
def UX:=g [4] [m 25 4,m 26 25,fT 27 1 3 26,lT 28 27 26,iT 29 .geq 28 0 26,y 30 26 29,m 4 30]
def UY:=g [4] [m 33 4,m 34 33,fT 35 1 3 34,lT 36 35 34,iT 37 .geq 36 (-1) 34,y 38 34 37,m 4 38]
def aie:=h0 43 1 [0,1,2,3,4,14,15,23,31,40] [.tmp 2,.tmp 3] (S (g [1,2,3] [b 1 0,o 2 (.mv (.k (.str []))),K 3 0]) (S UU (S (S (g [14] [f 13 1 2,l 14 13]) (T 0 (A [15] [o 16 (.bin false .eql (.t 14) (.k (.int .u8 1))),m 15 16] 15 UW (A [23] [o 24 (.bin false .eql (.t 14) (.k (.int .u8 2))),m 23 24] 23 UX (A [31] [o 32 (.bin false .eql (.t 14) (.k (.int .u8 3))),m 31 32] 31 UY (g [4] [Z 4])))))) (S (A [40] [m 39 4,N 40 39] 40 (F [2,3] [o 2 (.mv (.k (.str []))),K 3 4]) W) (F [2,3] [L 41 1 4,c 42 158 41,m 2 42,K 3 0])))))
def aif:=h0 44 1 [0,1,2,3,9,16,22,32] [.tmp 2] (S (g [1,2] [b 1 0,o 2 (.mv (.k (.str [])))]) (S (g [3] [f 4 1 0,l 5 4,c 6 185 5,m 3 6]) (S (A [9] [f 7 1 1,l 8 7,i 9 .gtr 8 0] 9 (g [3] [m 10 3,f 11 1 1,l 12 11,c 13 185 12,o 14 (.bin false .add (.k (.str [46])) (.t 13)),z 15 .add 10 14,m 3 15]) W) (S (T 0 (A [16] [f 17 1 2,l 18 17,o 19 (.bin false .eql (.t 18) (.k (.int .u8 1))),m 16 19] 16 (F [2] [m 20 3,o 21 (.bin false .add (.t 20) (.k (.str [63]))),m 2 21]) (A [22] [f 23 1 2,l 24 23,o 25 (.bin false .eql (.t 24) (.k (.int .u8 2))),m 22 25] 22 (F [2] [m 26 3,o 27 (.bin false .add (.t 26) (.k (.str [61]))),f 28 1 3,l 29 28,c 30 185 29,z 31 .add 27 30,m 2 31]) (A [32] [f 33 1 3,l 34 33,i 35 .eql 34 (-1),m 32 35] 32 (F [2] [m 36 3,o 37 (.bin false .add (.t 36) (.k (.str [33,42]))),m 2 37]) W)))) (F [2] [m 38 3,o 39 (.bin false .add (.t 38) (.k (.str [33]))),f 40 1 3,l 41 40,c 42 185 41,z 43 .add 39 42,m 2 43])))))
def aih:=h0 30 1 [0,2,3,4,8,15,24] [.tmp 2] (S (g [2] [o 2 (.mv (.k (.str [])))]) (S (g [3] [m 5 0,i 6 .rem 5 10,m 3 6]) (S (A [8] [m 7 3,i 8 .lss 7 0] 8 (g [3] [m 9 3,o 10 (.un .neg (.t 9)),m 3 10]) W) (S (g [4] [m 11 3,o 12 (.bin false .add (.k (.int .i64 48)) (.t 11)),o 13 (.cnv .i32 (.t 12)),o 14 (.cis (.t 13)),m 4 14]) (S (T 0 (A [15] [m 16 0,i 17 .quo 16 10,i 18 .neq 17 0,m 15 18] 15 (F [2] [m 19 0,i 20 .quo 19 10,c 21 185 20,m 22 4,z 23 .add 21 22,m 2 23]) (A [24] [m 25 0,i 26 .lss 25 0,m 24 26] 24 (F [2] [m 27 4,o 28 (.bin false .add (.k (.str [45])) (.t 27)),m 2 28]) W))) (F [2] [m 29 4,m 2 29]))))))
end Go.Proofs.YtclepinjnoiakaaGreatDoor.K.Hm.U
namespace Go.Proofs.YtclepinjnoiakaaGreatDoor.K.Hm.P
open Go Hm U
def DA:Tr HF:=B (B (B (B (B H (B (B (D aid) H) H)) (B (B (D f71) H) H)) (B (B (B H (D f99)) H) (B (D f43) H))) (B (B (B (E f33 H (D f97)) (B (D f81) H)) (B (E f41 (B (D f137) H) H) (B H (B (D aih) H)))) (B (B (B H (D aia)) H) (B (B H (D aib)) H)))) (B (B (B (B H (B (E f80 (D aie) H) H)) (B (D f40) H)) (E f12 (B (B H (D ah9)) H) H)) (B (B (B (B H (D f98)) H) (B (D f42) H)) (B (B (B (D f70) H) H) (B (B H (D aic)) (B (B (D aif) H) H)))))
def prog(k:Nat):Option HF:=fP DA k
end Go.Proofs.YtclepinjnoiakaaGreatDoor.K.Hm.P
