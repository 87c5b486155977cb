/- PactWitness returns true for every pact, strategy and side, part 6. -/
import Derived.Test.YtcfbbbjhnaienaaGreatDoorCae
import Derived.Test.YtcfbbbjhnaienaaGreatDoorCad
import Derived.Test.YtcfbbbjhnaienaaGreatDoorCac
import Derived.Test.YtcfbbbjhnaienaaGreatDoorCab
import Derived.ReadAgain
import Derived.ChangeArms
import Derived.ChangeShapes
import GoSem.ClaimWide
import GoSem.ClaimJoined
import Derived.Test.YtcfbbbjhnaienaaGreatDoorProg
set_option linter.all false
open List renaming length_cons->aB,length_nil->aC,set_cons_zero->aO,sum_cons->FR,sum_nil->Tj,nil_append->bq,cons_append->bo,getElem?_cons_succ->BP,length_singleton->dB,set_cons_succ->bJ,drop_eq_nil_iff->Tq,getElem_cons_zero->tV,pairwise_map->aiL,pairwise_lt_range->aiM
open Int renaming toNat_natCast->gD
open Function renaming comp_def->tP
open Option renaming getD_some->gB,isSome_none->IL,isSome_some->ah3
set_option maxRecDepth 10000
noncomputable section
namespace Go.Proofs.YtcfbbbjhnaienaaGreatDoor.K.Hm.S
open Go
def af4(l l':uJ)(hl:l.length<=4611686018427387904)(hp:∀t∈l,t.ps.length<=4611686018427387904)(s:HS):R (.call 86 [.psl (l.map Ty.c),.psl (l'.map Ty.c),.fn 84 [] []] s)=.val (.bool (decide (l=l'))) s:=by
 refine ac7 ?_ rfl (by simp[eo]);by_cases T:l.length=l'.length
 case neg=>
  rw[cK (λh=>T (by rw[h]))];have V:¬(l.length:Int)=l'.length:=by omega
  simp[U.Qb,V,aa]
 simp[U.Qb,T.symm];generalize ho:bO R (.loop U.w7) _ _=o;have hq:(¬l=l'/\∃I s',o=.code .ret I s'/\look I 6=some (.bool false))∨(l=l'/\∃I s',o=.code (.exit 0) I s'):=by
  revert o;refine ajX l.length
   (λi e s=>bB e [(1,.psl (l'.map Ty.c)),(2,.fn 84 [] []),(15,.psl (l.map Ty.c)),(16,iV l.length),(17,iV i)]/\∀j (h:j<l.length) (h':j<l'.length),j<i->l[j]=l'[j])
   0 (by omega) ⟨by simp[iV],λj _ _ h=>by omega⟩ ?_ ?_
  .rintro i e s r N ⟨f,X⟩ m
   have J:(i:Int)<l.length:=by omega
   have hy:i<l'.length:=by omega
   have h3:(i:Int)<l'.length:=by omega
   have p:=(iJ.start s).cL (l[i]).c;generalize q:HS.mk _ _ _ _=S1 at p;have Y:=(p.k.bm 0 _ _ rfl).1.1;have u:=p.cL (l'[i]).c;generalize A:HS.mk _ _ _ _=S2 at u;have C:=(u.k.bm 0 _ _ rfl).1.1;have D:=(u.k.bm 1 _ _ rfl).1.1;have d:=af3 l[i] l'[i] (hp _ (cb N));have hw:=br N hl;simp only[Ty.c,aB,aC,bn,Nat.reduceAdd]at Y C D q A d;simp only[ab,ae]at f;by_cases O:l[i]=l'[i]
   .rw[dq O]at d;simp[U.w7,f,N,J,hy,q,A,C,D,aq,aA,an,d,hw]at m;subst m;refine .inl ⟨_,_,rfl,by simp[f],λj h h' hj=>?_⟩;by_cases Z:j=i
    .subst Z;exact O
    exact X j h h' (by omega)
   rw[cK O]at d;simp[U.w7,f,N,J,hy,q,A,C,D,aq,aA,an,d]at m;subst m;exact .inr ⟨by simp,.inl ⟨λh=>O (by subst h;rfl),_,_,rfl,by simp⟩⟩
  rintro e s r ⟨f,X⟩ m
  simp only[ab,ae]at f;simp[U.w7,f]at m;subst m;exact⟨by simp,.inr ⟨iI T (λi h1 h2=>X i h1 h2 h1),_,_,rfl⟩⟩
 clear ho;rcases hq with⟨h,I,s',rfl,h4⟩|⟨h,I,s',rfl⟩
 .rw[cK h];simp[h4,aa]
 rw[dq h];simp[aa]
def w85(a b:Ar)(ok:fz a)(s:HS):R (.call 52 [.agg a.c,.agg b.c] s)=.val (.bool (decide (a=b))) s:=by
 refine q85 ?_;have d:=uh a.root b.root;simp only[Bs.c]at d;have f:=af4 a.ids b.ids (by have:=ok.1;omega) (λt A=>by have:=ok.2 t A;omega);by_cases j:a.root=b.root
 case neg=>rw[cK (λh=>j (by rw[h]))];rw[cK j]at d;simp-implicitDefEqProofs[U.ZN,d,aa]
 rw[dq j]at d;by_cases m:a.jumps=b.jumps
 case neg=>
  rw[cK (λh=>m (by rw[h]))];have u:(a.jumps==b.jumps)=false:=by simpa using m
  simp-implicitDefEqProofs[U.ZN,d,u,aa]
 have C:decide (a=b)=decide (a.ids=b.ids):=by obtain⟨p,r,q⟩:=a;obtain⟨D,I,J⟩:=b;simp only at j m;subst j m;simp
 rw[C];simp-implicitDefEqProofs[U.ZN,d,m,f,aa]
def w46(s:HS):R (.call 33 [] s)=.val (.agg [iV (-1),.bool false]) s:=by refine q46 ?_;have m:=(iJ.start s0).cL [.int .i64 0,.bool false];generalize p:HS.mk _ _ _ _=q at m;obtain⟨r,h,f⟩:=m.put (a:=0) rfl (x:=.agg [iV (-1),.bool false]) (new:=[iV (-1),.bool false]) rfl rfl;have j:=fZ (l:=[iV (-1),.bool false]) h rfl rfl;simp only[aO]at f;have d:=(f.k.bm 0 _ _ rfl).1.1;simp only[aB,aC,bn,Nat.reduceAdd,iV]at p h j d;simp[U.b46,p,h,d,an];exact aa (by simp[eo])
def uQ(l:List fH)(M:Nat)(h:∀r∈l,r.length<=M):∀i,((l.take i).map List.length).sum<=i*M
 |0=>by simp
 |i+1=>by
  have j:=uQ l M h i;by_cases d:i<l.length
  .rw[eW d,eU,JP,iR];have:=h _ (cb d);simp only[bX,lO,FR,Tj];omega
  have f:l.take (i+1)=l.take i:=by rw[fD (by omega),fD (by omega)]
  rw[f,iR];omega
def w10(t:Sx)(J:∀r∈t.x.nx,r.length<=70368744177664):∃b,(∀s,R (.call 15 [.agg t.c] s)=.val (.bool b) s)/\(b=true->sq t.a/\t.x.nx.length<=24/\t.x.fi.length<=26/\(t.x.nx.map List.length).sum<=120):=by
 obtain⟨b9,p,N⟩:=w9 t.a
 suffices h:∃b,pF [.tmp 2] (bO R U.Gj (bc [.agg t.c] 0) s0)=some (.bool b)/\(b=true->sq t.a/\t.x.nx.length<=24/\t.x.fi.length<=26/\(t.x.nx.map List.length).sum<=120) by obtain⟨b,O,T⟩:=h;exact⟨b,λs=>q10 O,T⟩
 simp only[Ar.c]at p;cases b9 with
 |false=>refine⟨false,?_,λh=>by cases h⟩;simp-implicitDefEqProofs[U.Gj,p,aa]
 |true=>
  by_cases hn:24<t.x.nx.length
  .have f:(24:Int)<t.x.nx.length:=by omega
   refine⟨false,?_,λh=>by cases h⟩;simp-implicitDefEqProofs[U.Gj,p,f,aa]
  have f:¬(24:Int)<t.x.nx.length:=by omega
  by_cases hf:26<t.x.fi.length
  .have m:(26:Int)<t.x.fi.length:=by omega
   refine⟨false,?_,λh=>by cases h⟩;simp-implicitDefEqProofs[U.Gj,p,f,m,aa]
  have m:¬(26:Int)<t.x.fi.length:=by omega
  refine⟨decide ((t.x.nx.map List.length).sum<=120),?_,λh=>⟨N rfl,by omega,by omega,by simpa using h⟩⟩;simp-implicitDefEqProofs[U.Gj,p,f,m];generalize V:bO R (.loop U.Gn) _ _=o;have X:∃A s',o=.code (.exit 0) A s'/\look A 3=some (iV (t.x.nx.map List.length).sum):=by
   revert o;refine ajX t.x.nx.length
    (λi e s=>bB e [(1,.aw t.c),(3,iV ((t.x.nx.take i).map List.length).sum),(4,iV i)])
    0 (by omega) (by simp[iV]) ?_ ?_
   .rintro i e s r u j d
    have C:(i:Int)<t.x.nx.length:=by omega
    have Y:=uQ t.x.nx 70368744177664 J i;have Z:=J _ (cb u);have hmul:i*70368744177664<=24*70368744177664:=ji _ (by omega);have hw:=br u (by omega);have D:bT .i64 ((((t.x.nx.take i).map List.length).sum:Nat)+(t.x.nx[i].length:Int))=(((t.x.nx.take i).map List.length).sum:Nat)+(t.x.nx[i].length:Int):=cx (by omega) (by omega);have I:((t.x.nx.take (i+1)).map List.length).sum=((t.x.nx.take i).map List.length).sum+t.x.nx[i].length:=by rw[eW u];simp only[eU,JP,bX,lO,FR,Tj,Nat.add_zero]
    rw[I];generalize((t.x.nx.take i).map List.length).sum=q at*;simp only[ab,ae]at j;simp[U.Gn,j,u,C,hw,D]at d;subst d;exact .inl ⟨_,_,rfl,by simp[j,iV]⟩
   rintro e s r j d
   rw[fD (aV _)]at j;simp only[ab,ae]at j;simp[U.Gn,j]at d;subst d;exact⟨by simp,_,_,rfl,by simp[j]⟩
  clear V;obtain⟨A,s',rfl,h3⟩:=X;simp[h3,aa];omega
def w68{a:Ar}{x:Fa}(ok:fz a)(f:∀s,R (.call 51 [.agg (ib a x)] s)=.val (iV 0) s)(w:bE)(s:HS):R (.call 32 [.agg (ib a x),.psl (w.map Mv.c)] s)=.val (.cO [.agg x.c,iV (aha a w)]) s:=by refine q68 ?_;have h:=w45 a ok w;have q:=(iJ.start s0).cL [.ah,.ah];generalize r:HS.mk _ _ _ _=u at q;obtain⟨A,m,j⟩:=q.put (a:=0) rfl (x:=.agg x.c) (new:=x.c) rfl rfl;have p:=fZ (l:=x.c) m rfl rfl;simp only[aO]at j;have d:=(j.k.bm 0 _ _ rfl).1.1;simp only[Fa.c,aB,aC,bn,Nat.reduceAdd]at r m p d;simp only[ib,iV]at f;simp only[Ar.c,iV]at h;simp[U.b68,r,f,h,m,d,an];exact aa (by simp)
def ahO{x:Fa}:∀(l:bE) (p i:Nat),(fm x p i l).1= -1->∃j:Nat,(fm x p i l).2=((i+j:Nat):Int)/\j<l.length
 |[],p,i=>by intro h;simp[fm]at h
 |m::r,p,i=>by
  intro h;unfold fm at h ⊢;by_cases d:bH x p m= -1
  .rw[au d];exact⟨0,by simp⟩
  rw[ar d]at h ⊢;obtain⟨j,f,q⟩:=ahO r _ _ h;exact⟨j+1,by rw[f];congr 1;omega,by simp;omega⟩
def ahn(a:Ar)(x:Fa)(w:bE):Int×Bool×Int:=
 if aha a w=0 then
  if(fm x 0 0 w).1= -1 then((fm x 0 0 w).2,zD (w.getD (fm x 0 0 w).2.toNat default),0)else(-1,false,0)
 else(0,false,aha a w)
def w31{a:Ar}{x:Fa}(ok:fz a)(hx:bA x)(I:∀s,R (.call 51 [.agg (ib a x)] s)=.val (iV 0) s)(w:bE)(hw:w.length<=4611686018427387904)(s:HS):
  R (.call 12 [.agg (ib a x),.psl (w.map Mv.c)] s)=.val (.cO [iV (ahn a x w).1,.bool (ahn a x w).2.1,iV (ahn a x w).2.2]) s:=by
 refine q31 ?_;have d:=w68 ok I w;have f:=w48 hx w hw;have J:=(iJ.start s0).cL x.c;generalize C:HS.mk _ _ _ _=S0 at J;have d0:=(J.k.bm 0 _ _ rfl).1.1;have h:=J.cL [iV (-1),.bool false];generalize m:HS.mk _ _ _ _=S2 at h;have X:=(h.k.bm 0 _ _ rfl).1.1;have N:=(h.k.bm 1 _ _ rfl).1.1;simp only[ib,Fa.c,iV]at d;simp only[Fa.c,iV]at f;have p:=w46;simp only[iV]at p;simp only[Fa.c,iV,aB,aC,bn,Nat.reduceAdd]at C m d0 X N;unfold ahn;by_cases D:aha a w=0
 case neg=>rw[ar D];simp[U.b31,d,C,D,aq,aA,aa]
 rw[au D];rw[D]at d;by_cases q:(fm x 0 0 w).1= -1
 case neg=>rw[ar q];simp[U.b31,d,C,p,m,X,N,f,q,aq,aA,an,aa]
 rw[au q];obtain⟨j,O,r⟩:=ahO w 0 0 q;rw[bn]at O;rw[q,O]at f;rw[O,gD,getD_at r];have u:=w50 w[j];simp only[Mv.c]at u;have Y:(j:Int)<w.length:=by omega
 obtain⟨S3,T,A⟩:=h.put (a:=0) rfl (x:=.agg [iV j,.bool (zD w[j])]) (new:=[iV j,.bool (zD w[j])]) rfl rfl;have V:=fZ (l:=[iV j,.bool (zD w[j])]) T rfl rfl;simp only[aO]at A;have Z:=(A.k.bm 0 _ _ rfl).1.1;simp only[iV,aB,aC,bn,Nat.reduceAdd]at T V Z;simp[U.b31,d,C,p,m,N,f,r,u,T,Z,aq,aA,an,aa]
def KM{a:Ar}(h:sq a)(j:aQ a=0):AN a:=by
 intro id arg b e d;have m:=iU j d;simp only[eh,bY]at m;have key:Lf b.n:=by
  unfold dC at d
  split at d
  .cases d;exact h.2.1
  split at d
  .split at d
   .cases d
   rename_i t p;have f:=h.2.2 t (cE p)
   split at d
   .cases d;exact f.2.1
   split at d
   .rw[lR]at d;obtain⟨q,r,u⟩:=d;cases u;exact f.2.2 _ (cE r)
   cases d
  cases d
 rcases key with h|h<;>omega
def Tl{a:Ar}(j:aQ a=0){m:Mv}(h:gT a m=true): -1<=m.n/\m.n<=64:=by
 obtain⟨b,e,d⟩:=rk h;have p:=iU j d;simp only[eh,bY]at p;unfold gT cG lX at h;rw[d]at h;simp only[bY,Kx,n9,dX,pK,bk,cU,fX,l5]at h;rcases h with(h|⟨k,f,h⟩)|(h|⟨k,f,h⟩)
 .rw[h];exact⟨by simp,by simp⟩
 .rw[<-h]
  split at f
  .simp only[Dp];omega
  omega
 .split at h
  .rw[cr.1 h];exact⟨by simp,by simp⟩
  cases h
 rw[<-h];simp only[pJ];omega
def smF{a:Ar}{x:Fa}{N:Nat}{g:Lg}(r:bA x)(j:aQ a=0)(u:rj x)(f:hZ x=x)(A:ft a x N=some g)(C:g.l.length<=N):FK x:=by
 rcases MT r u f with h|h
 .rw[h];intro l f e d;rw[cr.1 f]at d;cases d
 have W:=Cc r j A C;have D:=AH h (P:=λi=>∃y∈g.l,y.st=i) ⟨AM,W.st,rfl⟩ (λi m ⟨y,p,e⟩ I d=>⟨_,W.Nk y p I (by unfold cM;rw[e];exact d),rfl⟩);intro l f e d;obtain⟨i,m,rfl⟩:=eO.1 f;obtain⟨y,p,e1⟩:=D i m;have q:=je (W.can y p e (by unfold cM;rw[e1,KP,aX m];exact d));obtain⟨J,O,_,T,_⟩:=fR q;obtain⟨V,X⟩:=y8 j q;obtain⟨Y,Z⟩:=Tl j q;unfold gq;omega
structure Rt(a:Ar)(x:Fa):Prop where
 th:sq a
 hc:aQ a=0
 hx:bA x
 ha:rj x
 hl:hZ x=x
 hn:x.nx.length<=24
 he:(x.nx.map List.length).sum<=120
 run:∃g,ft a x 3518437208883=some g
def sq.ok{a:Ar}(h:sq a):fz a:=⟨by have:=h.1;omega,λt d=>by have:=(h.2.2 t d).1;omega⟩
def Rt.Ot{a:Ar}{x:Fa}(h:Rt a x)(s:HS):R (.call 51 [.agg (ib a x)] s)=.val (iV 0) s:=by obtain⟨g,d⟩:=h.run;have f:=(Tb h.hx h.hc (KM h.th h.hc) h.hn h.he).fin g d;exact S.Ot h.th.ok h.hc h.hx h.ha h.hl (smF h.hx h.hc h.ha h.hl d f) h.hn d f (aV _) s
def ahP:∀(v:bE) (x:Wk),(gn x v).2=v.length->∀m∈v,gT x.a m=true
 |[],_,_,m,h=>by cases h
 |m0::r,x,h,m,d=>by
  unfold gn at h
  split at h
  .rename_i f;rcases bk.1 d with rfl|d
   .exact yr f
   have:=ahP r (dL x m0) (by simpa using h) m d;rwa[BL]at this
  simp at h
def KN:∀(v:bE) (x:Wk),(gn x v).2<=v.length
 |[],_=>aV _
 |m::r,x=>by
  unfold gn
  split
  .simp only[aB];have:=KN r (dL x m);omega
  exact fN _
def aim{a:Ar}{v:bE}(h:(Gz a v).2=0):∀m∈v,gT a m=true:=by
 refine ahP v (tU a) ?_;have f:=KN v (tU a);unfold Gz at h
 split at h
 .rename_i d;exact(d h).elim
 split at h
 .cases h
 split at h
 .cases h
 omega
def G5{x:Fa}(C:bA x):∀(v:bE) (p i:Nat),p<x.nx.length->(fm x p i v).1= -1->
  ∃(j:Nat) (q:Nat),q<x.nx.length/\∃D:j<v.length,(fm x p i v).2=((i+j:Nat):Int)/\fm x p i (v.take j)=((q:Int),((i+j:Nat):Int))/\bH x q v[j]= -1
 |[],p,i,u,h=>by simp[fm]at h
 |m::r,p,i,u,h=>by
  have e1:fm x p i (m::r)=if bH x p m= -1 then(-1,(i:Int))else fm x (bH x p m).toNat (i+1) r:=by rw[fm]
  rw[e1]at h ⊢;by_cases d:bH x p m= -1
  .exact⟨0,p,u,by simp,by rw[au d];rfl,by simp[fm],d⟩
  rw[ar d]at h ⊢;rcases fj C u m with f|⟨q,f,I⟩
  .exact(d f).elim
  rw[f,gD]at h ⊢;obtain⟨j,J,N,D,O,T,V⟩:=G5 C r q (i+1) I h;refine⟨j+1,J,N,by simp;omega,by rw[O];congr 1;omega,?_,by simpa using V⟩;have A:¬(q:Int)= -1:=by omega
  rw[List.take_succ_cons,fm,f,ar A,gD,T]
  congr 2;omega
def ui{x:Fa}(u:bA x):∀(v:bE) (p i:Nat),p<x.nx.length->(fm x p i v).1≠ -1->∃q:Nat,q<x.nx.length/\fm x p i v=((q:Int),((i+v.length:Nat):Int))
 |[],p,i,d,h=>⟨p,d,rfl⟩
 |m::r,p,i,d,h=>by
  unfold fm at h ⊢;by_cases f:bH x p m= -1
  .rw[au f]at h;exact(h rfl).elim
  rw[ar f]at h ⊢;rcases fj u d m with j|⟨q,j,A⟩
  .exact(f j).elim
  rw[j,gD]at h ⊢;obtain⟨C,D,I⟩:=ui u r q (i+1) A h;refine⟨C,D,?_⟩;rw[I,aB]
  congr 2;omega
def pT{x:Fa}(f:bA x)(m:Mv):∀(v:bE) (p i q:Nat) (n:Int),p<x.nx.length->fm x p i v=((q:Int),n)->(fm x p i (v++[m])).1=bH x q m
 |[],p,i,q,n,j,h=>by
  simp only[fm,gj]at h;obtain rfl:p=q:=by omega
  rw[bq,fm]
  split
  .rename_i d;exact d.symm
  rcases fj f j m with d|⟨q,d,A⟩
  .exact(by rename_i C;exact(C d).elim)
  rw[d,fm,gD]
 |m0::r,p,i,q,n,j,h=>by
  rw[bo];unfold fm at h ⊢;by_cases u:bH x p m0= -1
  .rw[au u]at h;simp only[gj]at h;omega
  rw[ar u]at h ⊢;rcases fj f j m0 with d|⟨D,d,A⟩
  .exact(u d).elim
  rw[d,gD]at h ⊢;exact pT f m r D (i+1) q n A h
def Ij{a:Ar}{w:bE}(d:aQ a=0)(f:w.length<=400):(Gz a w).2=0↔(gn (tU a) w).2=w.length:=by
 have h:=KN w (tU a);unfold Gz;rw[ar (by simp[d]),ar (by omega)]
 split
 .simp;omega
 simp;omega
structure Wn(a:Ar)(x:Fa)(w:bE)(q:Nat):Prop where
 lt:q<x.nx.length
 fol:fm x 0 0 w=((q:Int),(w.length:Int))
 Nk:∀e∈cM x q,w.length<400->(Gz a (w++[e.m])).2=0/\(fm x 0 0 (w++[e.m])).1≠ -1
 fin:Av (gn (tU a) w).1=3↔x.fi.getD q false=true
 non:cM x q=[]↔Av (gn (tU a) w).1=3
def w38(m:Mv)(j:dS m= !decide (m.kind=3))(s:HS):R (.call 11 [.agg m.c] s)=.val (.bool (zD m)) s:=by refine q38 ?_;have d:=w75 m;rw[j]at d;simp only[Mv.c]at d;by_cases h:0<m.id<;>by_cases f:m.kind=3<;>by_cases h0:m.arg=0<;>simp[f,h0]at d<;>simp[U.b38,h,f,h0,d,aa,zD]
def w93{x:Fa}(Y:bA x){p:Nat}(I:p<x.nx.length)(m:Mv)(s:HS):R (.call 60 [.agg x.c,iV p,.agg m.c] s)=.val (iV (bH x p m)) s:=by
 refine q93 ?_;have d:x.nx[p]=cM x p:=(getD_at I _).symm;have V:(cM x p).length<=6000:=by rw[<-d];exact Y.row I
 simp[U.b93];generalize Z:bO R (.loop U.ahF) _ _=o;obtain⟨row,q⟩:∃row,row=cM x p:=⟨_,rfl⟩;rw[<-q]at V d;have hq:(∃(i:Nat) (h:i<row.length),row[i].m=m/\(∀j (h:j<row.length),j<i->¬row[j].m=m)/\∃C s',o=.code .ret C s'/\look C 6=some (iV row[i].to))∨((∀j (h:j<row.length),¬row[j].m=m)/\∃C s',o=.code (.exit 0) C s'):=by
  revert o;refine ajX row.length
   (λi e s=>bB e [(1,iV p),(3,.aw x.c),(5,.aw m.c),(7,iV i)]/\∀j (h:j<row.length),j<i->¬row[j].m=m)
   0 (by omega) ⟨by simp,λj _ h=>by omega⟩ ?_ ?_
  .rintro i e s r D ⟨u,O⟩ A
   have J:(i:Int)<row.length:=by omega
   have f:=ri row[i].m m;have hw:=br D (by omega);simp only[Mv.c]at f;simp only[ab,ae,Fa.c,Mv.c]at u;by_cases T:row[i].m=m
   .rw[dq T]at f;simp[U.ahF,u,I,d,D,J,f]at A;subst A;exact .inr ⟨by simp,.inl ⟨i,D,T,O,_,_,rfl,by simp[iV]⟩⟩
   rw[cK T]at f;simp[U.ahF,u,I,d,D,J,f,hw]at A;subst A;refine .inl ⟨_,_,rfl,by simp[u,iV],λj hj h3=>?_⟩;by_cases N:j<i
   .exact O j hj N
   obtain rfl:j=i:=by omega
   exact T
  rintro e s r ⟨u,O⟩ A
  simp only[ab,ae,Fa.c,Mv.c]at u;simp[U.ahF,u,I,d]at A;subst A;exact⟨by simp,.inr ⟨λj h=>O j h h,_,_,rfl⟩⟩
 clear Z;rcases hq with⟨i,D,X,h2,C,s',rfl,h6⟩|⟨X,C,s',rfl⟩
 .subst q;rw[FX D X h2];simp[h6,aa]
 subst q;rw[FY X];simp[aa]
def w74{x:Fa}(C:bA x)(l:bE)(T:l.length<=4611686018427387904)(s:HS):R (.call 30 [.agg x.c,.psl (l.map Mv.c)] s)=.val (iV (fm x 0 0 l).1) s:=by
 refine q74 ?_;simp[U.b74];generalize V:bO R (.loop U.ahA) _ _=o;have D:∃I s',o=.code (.exit 0) I s'/\look I 5=some (iV (fm x 0 0 l).1):=by
  revert o;refine ajX l.length
   (λi e s=>∃f:Int,bB e [(1,.psl (l.map Mv.c)),(2,.aw x.c),(5,iV f),(6,iV i)]/\((f= -1/\(fm x 0 0 l).1= -1)∨∃p:Nat,f=p/\p<x.nx.length/\fm x 0 0 l=fm x p i (l.drop i)))
   0 (by omega) ⟨0,by simp[iV],.inr ⟨0,rfl,C.pos,rfl⟩⟩ ?_ ?_
  .rintro i e s r J ⟨f,h,N⟩ j
   have m:(i:Int)<l.length:=by omega
   have X:=br J T;simp only[ab,ae,Fa.c]at h;rcases N with⟨rfl,d⟩|⟨p,rfl,O,d⟩
   .simp[U.ahA,h,m]at j;subst j;exact .inr ⟨by simp,_,_,rfl,by simp[h,d,iV]⟩
   have u:=w93 C O l[i];simp only[Fa.c,Mv.c,iV]at u;have gP:l.drop i=l[i]::l.drop (i+1):=uv J;simp[U.ahA,h,J,m,u,X]at j;subst j;refine .inl ⟨_,_,rfl,bH x p l[i],by simp[h,iV],?_⟩;rw[gP,fm]at d;rcases fj C O l[i]with A|⟨q,A,D⟩
   .rw[A,au rfl]at d;exact .inl ⟨A,by rw[d]⟩
   rw[A,ar (by omega),gD]at d;exact .inr ⟨q,A,D,d⟩
  rintro e s r ⟨f,h,N⟩ j
  simp only[ab,ae,Fa.c]at h;simp[U.ahA,h]at j;subst j;refine⟨by simp,_,_,rfl,?_⟩;rcases N with⟨rfl,d⟩|⟨p,rfl,O,d⟩
  .simp[h,d,iV]
  rw[EE (aV _),fm]at d;simp[h,d,iV]
 clear V;obtain⟨I,s',rfl,Y⟩:=D;simp[Y,aa]
abbrev ag7(n:Nat)(q:Ky×List Int):tO:=(.sl q.1 0 n 1,1,q.2.map iC)
def ag8(n:Nat)(q:Ky×List Int):ai:=[.sl q.1 0 n 1]
def ahw{α:Type}(h y z:α)(A:List α){k:Nat}(d:k=A.length+1):(h::(A++[y])).set k z=h::(A++[z]):=by subst d;simp
def dV.swap{s:HS}{ao:aW}{a b:tO}(h:dV s ao [a,b]):∃m,dV s m [b,a]:=by
 have p:∀k i,(ao k).map (1- ·)=some i->k.toNat<s.nx.toNat/\i<2:=λk i d=>by obtain⟨j,r,rfl⟩:=lR.1 d;exact⟨h.bd k j r,by omega⟩
 refine⟨λk=>(ao k).map (1- ·),λk i d=>(p k i d).1,λk i d=>(p k i d).2,λi v sz ak f=>?_⟩;have q:=(aU.1 f).1;simp only[aB,aC]at q;refine(h.own (1-i) v sz ak ?_).mono (λk d=>?_) (λk d=>(p k i d).1)
 .match i,f with|0,f=>exact f|1,f=>exact f
 have d:ao k=some (1-i):=d;rw[d,Option.map_some,show 1-(1-i)=i by omega]
section
variable{x:Fa}{M:Int}{n:Nat}{W:List (Ky×List Int)}
abbrev wL(n:Nat)(W:List (Ky×List Int))(o9:Ky)(q:List (Ky×List Int)):cq:=(.sl o9 0 W.length 1,1,W.map (ag8 n))::(W.map (ag7 n)++q.map (ag7 n))
def ajT(hx:bA x)(hn:n=x.nx.length)(hW:∀q∈W,q.2.length=n){j p:Nat}(J:j<W.length)(hp:p<n){e:En}{s:HS}{o:Out}{o9 ad:Ky}{v1:HV}{row:bb}{ao:aW}
  (f:bB e [(1,v1),(2,iV M),(3,.aw x.c),(9,.sl o9 0 W.length 1),(10,iV j),(11,.sl ad 0 n 1),(12,iV p),(13,iV 0)])
  (m:dV s ao (wL n W o9 [(ad,row)]))(C:row.length=n)(ho:bO R (.loop U.ahC) e s=o):
  ∃e' s',∃u:bb,o=.code (.exit 6) e' s'/\bB e' [(1,v1),(2,iV M),(3,.aw x.c),(9,.sl o9 0 W.length 1),(10,iV j),(11,.sl ad 0 n 1),(12,iV p)]/\dV s' ao (wL n W o9 [(ad,u)])/\u.length=n:=by
 have h:p<x.nx.length:=by omega
 have h1:=hx.row h;revert o;show∀o,_;refine ajX x.nx[p].length
  (λk e s=>∃row:bb,bB e [(1,v1),(2,iV M),(3,.aw x.c),(9,.sl o9 0 W.length 1),(10,iV j),(11,.sl ad 0 n 1),(12,iV p),(13,iV k)]/\dV s ao (wL n W o9 [(ad,row)])/\row.length=n)
  0 (by omega) ⟨row,f,m,C⟩ ?_ ?_
 .rintro k e s r hk ⟨row,f,m,d⟩ C
  have V:(k:Int)<x.nx[p].length:=by omega
  have D:=hx.to _ (cb h) _ (cb hk);rw[<-hn]at D;have N:p<row.length:=by omega
  have hw:=br (n:=6000) (show k<6000 by omega) (by omega);have X:x.nx[p][k].to<W[j].2.length:=by rw[hW _ (cb J)];exact D
  have A:(wL n W o9 [(ad,row)])[W.length+1]?=some (ag7 n (ad,row)):=by simp
  have O:=vT (m.own _ _ _ _ A) (i:=p) (aX N);have c9:=(m.own 0 _ _ _ rfl).cell j (by simpa using J);have Y:(wL n W o9 [(ad,row)])[j+1]?=some (ag7 n W[j]):=by rw[BP,dD (by simpa using J)];simp[J]
  have cw:=vT (m.own _ _ _ _ Y) (i:=x.nx[p][k].to) (aX X);simp[ag8]at c9;obtain⟨o1,s1,a1,d1,I⟩:=m.jQ _ A p (by simpa using N) (x:=iV (min M (bT .i64 (row[p]+W[j].2[x.nx[p][k].to])))) rfl;simp only[wL,bX,lO]at I;rw[ahw _ _ _ _ (by simp),<-List.map_set]at I;simp[hp]at a1;subst a1;simp only[jl,iV]at d1 O cw;have Z:(j:Int)<W.length:=by omega
  have T:(x.nx[p][k].to:Int)<n:=by omega
  simp only[ab,ae]at f;simp[U.ahC,f,h,hk,V,J,Z,hp,O,c9,cw,D,T,hw,d1]at C;subst C;exact .inl ⟨_,_,rfl,_,by simp[f],I,by simpa using d⟩
 rintro e s r ⟨row,f,m,d⟩ C
 simp only[ab,ae]at f;simp[U.ahC,f,h]at C;subst C;exact⟨by simp,_,_,row,rfl,by simp[f],m,d⟩
def ajU(I:bA x)(O:n=x.nx.length)(T:∀q∈W,q.2.length=n){j:Nat}(V:j<W.length){e:En}{s:HS}{o:Out}{o9 ad:Ky}{v1:HV}{row:bb}{ao:aW}
  (d:bB e [(1,v1),(2,iV M),(3,.aw x.c),(9,.sl o9 0 W.length 1),(10,iV j),(11,.sl ad 0 n 1),(12,iV 0)])
  (C:dV s ao (wL n W o9 [(ad,row)]))(f:row.length=n)(J:bO R (.loop U.ahD) e s=o):
  ∃e' s',∃h:bb,o=.code (.exit 4) e' s'/\bB e' [(1,v1),(2,iV M),(3,.aw x.c),(9,.sl o9 0 W.length 1),(10,iV j),(11,.sl ad 0 n 1)]/\dV s' ao (wL n W o9 [(ad,h)])/\h.length=n:=by
 have X:=I.n;revert o;show∀o,_;refine ajX n
  (λp e s=>∃row:bb,bB e [(1,v1),(2,iV M),(3,.aw x.c),(9,.sl o9 0 W.length 1),(10,iV j),(11,.sl ad 0 n 1),(12,iV p)]/\dV s ao (wL n W o9 [(ad,row)])/\row.length=n)
  0 (by omega) ⟨row,d,C,f⟩ ?_ ?_
 .rintro p e s r N ⟨row,d,C,u⟩ f
  have Y:=br (n:=400) (show p<400 by omega) (by omega);simp only[ab,ae]at d;simp[U.ahD,d,N]at f;generalize J:bO R (.loop U.ahC) _ _=o at f;obtain⟨e1,s1,A,rfl,m,D⟩:=ajT (M:=M) (v1:=v1) I O T V N (by simp[d]) C u J;simp only[ab,ae]at m;simp[m,Y]at f;subst f;exact .inl ⟨_,_,rfl,A,by simp[m],D⟩
 rintro e s r ⟨row,d,D⟩ f
 simp only[ab,ae]at d;simp[U.ahD,d]at f;subst f;exact⟨by simp,_,_,row,rfl,by simp[d],D⟩
def ajV(hx:bA x)(I:n=x.nx.length){N:Nat}(hN:N<=100000){q0:Ky×List Int}(h0:q0.2.length=n){e:En}{s:HS}{o:Out}{o9:Ky}{ao:aW}
  (f:bB e [(1,iV N),(2,iV M),(3,.aw x.c),(9,.sl o9 0 1 1),(10,iV 0)])
  (J:dV s ao (wL n [q0] o9 []))(ho:bO R (.loop U.ahE) e s=o):
  ∃e' s' o9,∃W:List (Ky×List Int),∃ao,o=.code (.exit 2) e' s'/\look e' 9=some (.sl o9 0 W.length 1)/\dV s' ao (wL n W o9 [])/\(∀q∈W,q.2.length=n)/\W.length=N+1:=by
 have h3:=hx.n;revert o;show∀o,_;refine ajX N
  (λj e s=>∃o9,∃W:List (Ky×List Int),∃ao,bB e [(1,iV N),(2,iV M),(3,.aw x.c),(9,.sl o9 0 W.length 1),(10,iV j)]/\dV s ao (wL n W o9 [])/\(∀q∈W,q.2.length=n)/\W.length=j+1)
  0 (by omega) ⟨o9,[q0],ao,f,J,by simpa using h0,rfl⟩ ?_ ?_
 .rintro j e s r hj ⟨o9,W,ao,f,J,hW,hl⟩ d
  have O:(j:Int)<N:=by omega
  have hw:=br (n:=100000) (show j<100000 by omega) (by omega);obtain⟨s1,a1,T,V⟩:=lZ (s:=s) (n:=n) (bI:=17592186044416) (by omega) (.int .i64 0);have X:aI s ao _ []:=⟨J,by simp,by simp⟩;obtain⟨h2,A⟩:=X.join V T (λk hk=>by rw[hk];omega);have h:=A.mem;simp only[wL,lO,qE,bo]at h;rw[show List.replicate n [HV.int .i64 0]=(List.replicate n (0:Int)).map iC by simp]at h;simp only[ab,ae]at f;rw[I]at a1;simp[U.ahE,f,O,a1]at d;rw[<-I]at d;generalize ho:bO R (.loop U.ahD) _ _=o at d;obtain⟨e2,s2,C,rfl,m,Y,p⟩:=ajU (M:=M) (v1:=iV N) hx I hW (j:=j) (by omega) (by simp[f]) h (by simp) ho;obtain⟨v',s3,D,a3,_,u⟩:=Y.append 0 rfl (new:=[[.sl s.nx 0 n 1]]) (λr d=>by simp at d;rw[d];rfl) (by simp) (bI:=5864062014805) (by simp;omega);simp only[aO]at u;obtain⟨Z,rfl⟩:=(u.own 0 _ _ _ rfl).gP (by simp);simp only[ab,ae]at m;simp[m,a3,hw]at d;subst d;exact .inl ⟨_,_,rfl,Z,W++[(s.nx,C)],D,by simp[m],by simpa[wL,ag7,ag8]using u,by simpa[or_imp,forall_and,p]using hW,by simp[hl]⟩
 rintro e s r ⟨o9,W,ao,f,h1⟩ d
 simp only[ab,ae]at f;simp[U.ahE,f]at d;subst d;exact⟨by simp,_,_,o9,W,ao,rfl,by simp[f],h1⟩
def ajW(C:bA x)(V:n=x.nx.length){e:En}{s:HS}{o:Out}{o7:Ky}{v1:HV}{row:bb}{ao:aW}
  (d:bB e [(1,v1),(2,iV M),(3,.aw x.c),(7,.sl o7 0 n 1),(8,iV 0)])
  (u:dV s ao [ag7 n (o7,row)])(h:row.length=n)(X:bO R (.loop U.ahp) e s=o):
  ∃e' s',∃j:bb,o=.code (.exit 0) e' s'/\bB e' [(1,v1),(2,iV M),(3,.aw x.c),(7,.sl o7 0 n 1)]/\dV s' ao [ag7 n (o7,j)]/\j.length=n:=by
 have O:=C.n;revert o;show∀o,_;refine ajX n
  (λp e s=>∃row:bb,bB e [(1,v1),(2,iV M),(3,.aw x.c),(7,.sl o7 0 n 1),(8,iV p)]/\dV s ao [ag7 n (o7,row)]/\row.length=n)
  0 (by omega) ⟨row,d,u,h⟩ ?_ ?_
 .rintro p e s r A ⟨row,d,u,f⟩ h
  have m:p<x.fi.length:=by have:=C.nf;omega
  have D:=br (n:=400) (show p<400 by omega) (by omega);obtain⟨Y,s1,I,J,q⟩:=u.jQ 0 rfl p (by simpa[f]using A) (x:=iV 1) rfl;rw[aO,<-List.map_set]at q;simp[A]at I;subst I;simp only[jl,iV]at J;simp only[ab,ae]at d;cases N:x.fi[p]
  .simp[U.ahp,d,A,m,N,D]at h;subst h;exact .inl ⟨_,_,rfl,_,by simp[d],u,f⟩
  simp[U.ahp,d,A,m,N,D,J]at h;subst h;exact .inl ⟨_,_,rfl,row.set p 1,by simp[d],q,by simpa using f⟩
 rintro e s r ⟨row,d,T⟩ h
 simp only[ab,ae]at d;simp[U.ahp,d]at h;subst h;exact⟨by simp,_,_,row,rfl,by simp[d],T⟩
def w78(V:bA x){N:Nat}(hN:N<=100000):
  ∃W:List bb,W.length=N+1/\(∀r∈W,r.length=x.nx.length)/\∀s,R (.call 39 [.agg x.c,iV N,iV M] s)=.val (.psl (W.map λr=>[.psl (r.map iC)])) s:=by
 have ha:=V.n
 suffices h:∃W:List bb,W.length=N+1/\(∀r∈W,r.length=x.nx.length)/\pF [.tmp 6] (bO R U.b78 (bc [.agg x.c,iV N,iV M] 0) s0)=some (.psl (W.map λr=>[.psl (r.map iC)])) by obtain⟨W,h1,h2,h3⟩:=h;exact⟨W,h1,h2,λs=>q78 h3⟩
 obtain⟨s1,a1,X,Y⟩:=lZ (s:=s0) (n:=x.nx.length) (bI:=17592186044416) (by omega) (.int .i64 0);have h0:aI s0 (λ_=>none) [] []:=⟨dV.start (by simp),by simp,by simp⟩;obtain⟨p,u⟩:=h0.join Y X (λk Z=>by rw[Z];omega);have A:=u.mem;rw[show List.replicate x.nx.length [HV.int .i64 0]=(List.replicate x.nx.length (0:Int)).map iC by simp,bq]at A;generalize d:bO R U.b78 (bc [.agg x.c,iV N,iV M] 0) s0=r;simp[U.b78,a1]at d;generalize ho:bO R (.loop U.ahp) _ _=o at d;obtain⟨e2,s2,C,rfl,j,h4,m⟩:=ajW (M:=M) V rfl (v1:=iV N) (by simp) A (by simp) ho;have D:aI s2 p _ []:=⟨h4,by simp,by simp⟩;obtain⟨h6,I⟩:=D.DI (sz:=1) (t:=[[.sl s0.nx 0 x.nx.length 1]]) (λr d=>by simp at d;rw[d];rfl);obtain⟨h7,J⟩:=I.mem.swap;generalize O:HS.mk _ _ _ _=S4 at J;simp at O;simp only[ab,ae]at j;simp[j,O]at d;generalize h5:bO R (.loop U.ahE) _ _=o2 at d;obtain⟨e6,s6,o9,W,h8,rfl,h9,T,hW,hl⟩:=ajV (M:=M) (q0:=(s0.nx,C)) V rfl hN m (by simp[j]) J h5;simp[h9]at d;subst d;refine⟨W.map Prod.snd,by simp[hl],λr d=>by obtain⟨q,hq,rfl⟩:=cU.1 d;exact hW q hq,?_⟩;simp;refine aY ?_;have:=(T.own 0 _ _ _ rfl).vwH (f:=λq:Ky×List Int=>HV.sl q.1 0 x.nx.length 1) (g:=λq=>HV.psl (q.2.map iC)) (n:=15) (λq hq=>?_)
 .simpa[tP]using this
 obtain⟨k,Z,rfl⟩:=eO.1 hq;exact(T.own (k+1) _ _ _ (by rw[BP,lO,qE,fV,aX Z];rfl)).vw (by simp)
end
section
variable{s:HS}{ao:aW}{L:cq}{K:de}
def cu.sl{v:HV}{sz:Nat}{F:bM}{ak:aP}(h:cu s v sz F ak)(h0:ak≠ []):∃o a b c,v=.sl o a b c:=by
 rcases h.2.2 with⟨_,f⟩|⟨o,t,j,g,d,rfl,_⟩
 .exact(h0 f).elim
 exact⟨_,_,_,_,rfl⟩
end
structure dj(s:HS)(sz:Nat)(F:bM)(v:HV)(ak:aP)(ao:aW)(L:cq)(K:de)(Q:List (Ky×Ob)):Prop where
 k:aI s ao L K
 q:kK s v sz F ak
 fc:∀p,F p->ao p=none
 fk:∀(a:Nat) o c,K[a]?=some (o,c)->¬F o
 mp:∀(a:Nat) o b,Q[a]?=some (o,b)->aj s.h o=some b/\o.toNat<s.nx.toNat/\ao o=none/\¬F o
 nd:∀(a b:Nat) o c c',Q[a]?=some (o,c)->Q[b]?=some (o,c')->a=b
 kq:∀(a b:Nat) o c d,K[a]?=some (o,c)->Q[b]?=some (o,d)->False
section
variable{s s':HS}{sz:Nat}{ao:aW}{L:cq}{K:de}{F G:bM}{v:HV}{ak:aP}{Q:List (Ky×Ob)}
def dj.frame(h:dj s sz F v ak ao L K Q)(d:cV (λ_=>False) s s'):dj s' sz F v ak ao L K Q:=
 ⟨h.k.frame d,h.q.frame d (λ_ _ h=>h),h.fc,h.fk,λa o j m=>by
  obtain⟨p,f,r,u⟩:=h.mp a o j m;exact⟨by rw[d.2.2.1 o f (λh=>h)];exact p,dJ f d.1,r,u⟩,h.nd,h.kq⟩
def dj.cL(h:dj s sz F v ak ao L K Q)(c:ai):dj {h:=av (some (.cells (cP c) 0 c.length s.nx)) s.nx s.h,nx:=s.nx.succ,gr:=av (some [s.nx]) s.nx s.gr,ty:=s.ty} sz F v ak ao L ((s.nx,c)::K) Q:=by
 have p:=cV.alloc (s:=s) (.cells (cP c) 0 c.length s.nx) [s.nx];have j:=h.frame p;refine⟨h.k.cL c,j.q,h.fc,λa o c' f=>?_,j.mp,h.nd,λa b o c' d f m=>?_⟩
 .cases a with
  |zero=>cases f;exact λj=>ec _ (h.q.2.1 _ j)
  |succ a=>exact h.fk a o c' f
 cases a with
 |zero=>cases f;exact ec _ (h.mp b _ d m).2.1
 |succ a=>exact h.kq a b o c' d f m
def dj.sub(h:dj s sz F v ak ao L K Q){u:de}(f:Nat->Nat)(m:∀a r,u[a]?=some r->K[f a]?=some r)(A:∀a b,f a=f b->a=b):dj s sz F v ak ao L u Q:=
 ⟨⟨h.k.mem,λa o c j=>h.k.bm _ o c (m a _ j),λa b o c d j p=>A a b (h.k.nd _ _ o c d (m a _ j) (m b _ p))⟩,h.q,h.fc,λa o c j=>h.fk _ o c (m a _ j),h.mp,h.nd,λa b o c d j p=>h.kq _ b o c d (m a _ j) p⟩
def dj.tail(h:dj s sz F v ak ao L K Q)(n:Nat):dj s sz F v ak ao L (K.drop n) Q:=
 h.sub (λa=>n+a) (λa r d=>by rwa[kX]at d) (λa b h=>by omega)
def dj.cell(h:dj s sz F v ak ao L K Q){a:Nat}{o:Ky}{c c':ai}(j:K[a]?=some (o,c))(I:il s' o c')(m:cV (λp=>p=o) s s'):dj s' sz F v ak ao L (K.set a (o,c')) Q:=by
 have key:∀(b:Nat) p d,(K.set a (o,c'))[b]?=some (p,d)->∃e,K[b]?=some (p,e):=by
  intro b p d f;rw[gl]at f
  split at f
  .rename_i r
   split at f
   .cases f;exact⟨c,by rw[<-r];exact j⟩
   cases f
  exact⟨d,f⟩
 refine⟨h.k.cell j I m,h.q.frame m (λk J e=>h.fk a o c j (by rw[<-e];exact J)),h.fc,λb p d f=>?_,λb p C f=>?_,h.nd,λb N p d O f u=>?_⟩
 .obtain⟨e,A⟩:=key b p d f;exact h.fk b p e A
 .obtain⟨T,D,V,X⟩:=h.mp b p C f;exact⟨by rw[m.2.2.1 p D (λe=>h.kq a b o c C j (by rw[<-e];exact f))];exact T,dJ D m.1,V,X⟩
 obtain⟨e,A⟩:=key b p d f;exact h.kq b N p e O A u
def dj.put(h:dj s sz F v ak ao L K Q){a:Nat}{o:Ky}{c new:ai}(d:K[a]?=some (o,c)){x:HV}(f:cellsOf x=some new)(j:new.length=c.length):∃s',qh c.length (some (.ptr o 0)) (some x) s=.v .undef s'/\dj s' sz F v ak ao L (K.set a (o,new)) Q:=by obtain⟨s',m,p,q,_⟩:=(h.k.bm a o c d).1.put f j;exact⟨s',m,h.cell d p q⟩
def dj.Ca(h:dj s sz F v ak ao L K Q){b:Nat}{o:Ky}{d:Ob}(A:Q[b]?=some (o,d))(D:Ob):dj (s.aJ o D) sz F v ak ao L K (Q.set b (o,D)):=by
 obtain⟨g1,Z,V,X⟩:=h.mp b o d A;have Y:cV (λp=>p=o) s (s.aJ o D):=⟨aV _,rfl,λp _ hp=>by simp only[HS.aJ];rw[af,ar hp],λ_ _ _=>rfl⟩;have h3:=(aU.1 A).1;have key:∀(a:Nat) p f,(Q.set b (o,D))[a]?=some (p,f)->∃J,Q[a]?=some (p,J):=by
  intro a p f j;rw[gl]at j
  split at j
  .rename_i r
   try rw[au (by omega)]at j
   cases j;exact⟨d,by rw[<-r];exact A⟩
  exact⟨f,j⟩
 refine⟨h.k.ug Y (λk i I e=>by rw[e,V]at I;cases I) (λa p c m e=>h.kq a b o c d (by rw[<-e];exact m) A),h.q.frame Y (λk I e=>X (by rw[<-e];exact I)),h.fc,h.fk,λa p u m=>?_,λa C p f u j N=>?_,λa C p c es m O=>?_⟩
 .rw[gl]at m
  split at m
  .rename_i r
   try rw[au (by omega)]at m
   cases m;exact⟨by simp only[HS.aJ];rw[af,au rfl],Z,V,X⟩
  rename_i r;obtain⟨k1,k2,k3,k4⟩:=h.mp a p u m;have T:p≠o:=λe=>by subst e;exact r (h.nd b a p d u A m)
  exact⟨by simp only[HS.aJ];rw[af,ar T];exact k1,k2,k3,k4⟩
 .obtain⟨_,j⟩:=key a p f j;obtain⟨_,N⟩:=key C p u N;exact h.nd a C p _ _ j N
 obtain⟨_,j⟩:=key C p es O;exact h.kq a C p c _ m j
def dj.Td(h:dj s sz F v ak ao L K Q){new:aP}(I:Sz sz new)(h0:new≠ []){bI:Nat}(J:ak.length+new.length<=bI):
  ∃f s',j0 sz bI none (some v) (some (.psl new)) s=.v f s'/\cellsOf f=some [f]/\dj s' sz (λk=>F k∨k=s.nx) f (ak++new) ao L K Q:=by
 obtain⟨f,s',N,A,m,Y⟩:=h.q.append I h0 J;refine⟨f,s',N,A.one,h.k.ug m (λk i C d=>by rw[h.fc k d]at C;cases C) h.fk,A,λp r=>?_,λa o c j d=>?_,λa o O j=>?_,h.nd,h.kq⟩
 .rcases r with r|rfl
  .exact h.fc p r
  cases T:ao s.nx with|none=>rfl|some i=>exact absurd (h.k.mem.bd _ _ T) (ec _)
 .rcases d with d|rfl
  .exact h.fk a o c j d
  exact ec _ (h.k.bm a _ c j).1.2.2
 obtain⟨V,u,X,D⟩:=h.mp a o O j;refine⟨by rw[m.2.2.1 o u D];exact V,dJ u m.1,X,λd=>?_⟩;rcases d with d|rfl
 .exact D d
 exact ec _ u
def dj.KB{e:En}{r:ai}(h:dj s sz F v (r::ak) ao L K Q):∃f,zy (some v) (λd=>fw e d (some (.k (.int .i64 1)))) (λd=>fw e d none) none sz s=.v f s/\cellsOf f=some [f]/\dj s sz F f ak ao L K Q:=by obtain⟨f,m,j⟩:=h.q.tail (e:=e);exact⟨f,m,j.one,h.k,j,h.fc,h.fk,h.mp,h.nd,h.kq⟩
def dj.push(h:dj s sz F v ak ao L K Q)(n:Nat):dj s sz F v ak ao (L++[(.ah,n,[])]) K Q:=⟨h.k.push n,h.q,h.fc,h.fk,h.mp,h.nd,h.kq⟩
def dj.FI(h:dj s sz F v ak ao L K Q)(n:Nat):∃r,dj {h:=av (some (.cells (cP []) 0 0 s.nx)) s.nx s.h,nx:=s.nx.succ,gr:=av (some [s.nx]) s.nx s.gr,ty:=s.ty} sz F v ak r (L++[(.sl s.nx 0 0 n,n,[])]) K Q:=by
 classical
 have J:=Ky.aS s.nx;have N:=cV.alloc (s:=s) (.cells (cP []) 0 0 s.nx) [s.nx];have A:=h.frame N;have O:ao s.nx=none:=by cases T:ao s.nx with|none=>rfl|some i=>exact absurd (h.k.mem.bd _ _ T) (ec _)
 refine⟨λk=>if k=s.nx then some L.length else ao k,⟨⟨λk i d=>?_,λk i d=>?_,λi w m D f=>?_⟩,λa o c u=>?_,h.k.nd⟩,A.q,λp I=>?_,h.fk,λa o b u=>?_,h.nd,h.kq⟩
 .split at d
  .rename_i e;subst e;simp only;omega
  have:=h.k.mem.bd k i d;simp only;omega
 .rw[bZ,dB]
  split at d
  .cases d;omega
  have:=h.k.mem.top k i d;omega
 .rcases wo i L.length with C|C|C
  .rw[dD C]at f;refine(A.k.mem.own i w m D f).mono (λk d=>?_) (λk d=>?_)
   .have hb:=(h.k.mem.own i w m D f).2.1 k d;show(if k=s.nx then some L.length else ao k)=some i;rw[ar λe=>by subst e;omega];exact d
   have d:(if k=s.nx then some L.length else ao k)=some i:=d
   split at d
   .cases d;omega
   have:=h.k.mem.bd k i d;simp only;omega
  .subst C;simp only[List.getElem?_concat_length,bQ,gj]at f;obtain⟨rfl,rfl,rfl⟩:=f;refine⟨Sz.nil,λk d=>?_,.inr ⟨s.nx,cP [],0,s.nx,[],rfl,by simp only;rw[af,au rfl],by simp,λj V=>by simp at V,by simp only;rw[af,au rfl],by simp,λm X=>?_,?_⟩⟩
   .have d:(if k=s.nx then some L.length else ao k)=some L.length:=d
    split at d
    .rename_i e;subst e;simp only;omega
    have:=h.k.mem.bd k _ d;simp only;omega
   .rw[cr.1 X];show(if s.nx=s.nx then some L.length else ao s.nx)=some L.length;rw[au rfl]
   show(if s.nx=s.nx then some L.length else ao s.nx)=some L.length;rw[au rfl]
  rw[qz (by simp;omega)]at f;cases f
 .obtain⟨Y,Z⟩:=A.k.bm a o c u;have:=(h.k.bm a o c u).1.2.2;exact⟨Y,by rw[ar λe=>by subst e;omega];exact Z⟩
 .have:=h.q.2.1 p I;rw[ar λe=>by subst e;omega];exact h.fc p I
 obtain⟨k1,k2,k3,k4⟩:=A.mp a o b u;have:=(h.mp a o b u).2.1;exact⟨k1,k2,by rw[ar λe=>by subst e;omega];exact k3,k4⟩
def dj.KC(h:dj s sz F v ak ao L K Q)(i:Nat){w:HV}{n:Nat}{es:aP}(I:L[i]?=some (w,n,es)){new:aP}(J:Sz n new)(h0:new≠ []){bI:Nat}(N:es.length+new.length<=bI):
  ∃w' s' d,j0 n bI none (some w) (some (.psl new)) s=.v w' s'/\cellsOf w'=some [w']/\dj s' sz F v ak d (L.set i (w',n,es++new)) K Q:=by
 obtain⟨O,s',T,V,X,f⟩:=h.k.mem.sx i I J h0 N;refine⟨O,s',_,T,V,⟨X,λa p c j=>?_,h.k.nd⟩,h.q.frame f (λk Y e=>by rw[h.fc k Y]at e;cases e),λp r=>?_,h.fk,λa o m j=>?_,h.nd,h.kq⟩
 .obtain⟨u,A⟩:=h.k.bm a p c j;have Z:=u.2.2;exact⟨u.frame f (by rw[A];simp),by rw[ar λe=>by subst e;omega];exact A⟩
 .have:=h.q.2.1 p r;rw[ar λe=>by subst e;omega];exact h.fc p r
 obtain⟨k1,C,D,k4⟩:=h.mp a o m j;exact⟨by rw[f.2.2.1 o C (by show¬ao o=some i;rw[D];simp)];exact k1,dJ C f.1,by rw[ar λe=>by subst e;omega];exact D,k4⟩
def dj.af5(h:dj s sz F v ak ao L K Q)(b:Ob):dj {h:=av (some b) s.nx s.h,nx:=s.nx.succ,gr:=s.gr,ty:=s.ty} sz F v ak ao L K (Q++[(s.nx,b)]):=by
 have V:=Ky.aS s.nx;have J:cV (λ_=>False) s {h:=av (some b) s.nx s.h,nx:=s.nx.succ,gr:=s.gr,ty:=s.ty}:=⟨by simp only;omega,rfl,λp I _=>by simp only;rw[af,ar λe=>by subst e;omega],λ_ _ _=>rfl⟩;have C:=h.frame J;have key:∀(a:Nat) o j,(Q++[(s.nx,b)])[a]?=some (o,j)->(a<Q.length/\Q[a]?=some (o,j))∨(a=Q.length/\o=s.nx/\j=b):=by
  intro a o j f;rcases wo a Q.length with u|u|u
  .rw[dD u]at f;exact .inl ⟨u,f⟩
  .subst u;simp at f;exact .inr ⟨rfl,f.1.symm,f.2.symm⟩
  rw[qz (by simp;omega)]at f;cases f
 refine⟨C.k,C.q,h.fc,h.fk,λa o j f=>?_,λa b o j r f D=>?_,λa b o c d f D=>?_⟩
 .rcases key a o j f with⟨_,m⟩|⟨_,rfl,rfl⟩
  .exact C.mp a o j m
  refine⟨by simp only;rw[af,au rfl],by simp only;omega,?_,λI=>ec _ (h.q.2.1 _ I)⟩;cases N:ao s.nx with|none=>rfl|some i=>exact absurd (h.k.mem.bd _ _ N) (ec _)
 .rcases key a o j f with⟨O,m⟩|⟨O,m,_⟩<;>rcases key b o r D with⟨T,A⟩|⟨T,A,_⟩
  .exact h.nd a b o j r m A
  .subst A;exact(ec _ (h.mp a _ j m).2.1).elim
  .subst m;exact(ec _ (h.mp b _ r A).2.1).elim
  omega
 rcases key b o d D with⟨_,m⟩|⟨_,rfl,_⟩
 .exact h.kq a b o c d f m
 exact ec _ (h.k.bm a _ c f).1.2.2
def dj.kill{o:Ky}{b:Ob}(h:dj s sz F v ak ao L K (Q++[(o,b)])):dj (s.kill o) sz F v ak ao L K Q:=by
 have u:(Q++[(o,b)])[Q.length]?=some (o,b):=by simp
 obtain⟨Z,g2,I,J⟩:=h.mp Q.length o b u;have D:cV (λp=>p=o) s (s.kill o):=⟨aV _,rfl,λp _ N=>by rw[sh,ar N],λ_ _ _=>rfl⟩;have key:∀(a:Nat) r,Q[a]?=some r->(Q++[(o,b)])[a]?=some r:=λa r f=>by rw[dD (aU.1 f).1];exact f
 refine⟨h.k.ug D (λk i m e=>by rw[e,I]at m;cases m) (λa p c f e=>h.kq a _ o c b (by rw[<-e];exact f) u),h.q.frame D (λk m e=>J (by rw[<-e];exact m)),h.fc,h.fk,λa p d f=>?_,λa A p d O f j=>h.nd a A p d O (key _ _ f) (key _ _ j),λa A p c d f j=>h.kq a A p c d f (key _ _ j)⟩;obtain⟨T,V,X,Y⟩:=h.mp a p d (key _ _ f);have C:p≠o:=λe=>by subst e;have h1:=h.nd a Q.length p d b (key _ _ f) u;have h2:=(aU.1 f).1;omega
 exact⟨by rw[sh,ar C];exact T,V,X,Y⟩
end
def oB(n:Nat):az:=if h:n=0 then []else(48+n%2)::oB (n/2)
def rA:oB 0=[]:=by rw[oB];simp
def rC{n:Nat}(h:0<n):oB n=(48+n%2)::oB (n/2):=by rw[oB];rw[dif_neg (by omega)]
def ND:∀(n:Nat),∀c∈oB n,c<256/\c≠44:=by
 intro n
 induction n using Nat.strongRecOn with
 |_ n f=>
  intro c d;by_cases h:0<n
  .rw[rC h]at d;rcases bk.1 d with rfl|d
   .omega
   exact f _ (by omega) c d
  rw[show n=0 by omega,rA]at d;cases d
def za(n:Nat):(oB n).length<=n:=by
 induction n using Nat.strongRecOn with
 |_ n d=>
  by_cases h:0<n
  .rw[rC h,aB];have:=d (n/2) (by omega);omega
  rw[show n=0 by omega,rA];simp
def KU:∀(a b:Nat) (r d:az),oB a++44::r=oB b++44::d->a=b/\r=d:=by
 intro a
 induction a using Nat.strongRecOn with
 |_ a m=>
  intro b r d h;by_cases j:0<a
  .by_cases f:0<b
   .rw[rC j,rC f,bo,bo,n6]at h;obtain⟨q,p⟩:=m (a/2) (by omega) (b/2) r d h.2;exact⟨by omega,p⟩
   rw[rC j,show b=0 by omega,rA,bo,bq,n6]at h;omega
  by_cases f:0<b
  .rw[rC f,show a=0 by omega,rA,bo,bq,n6]at h;omega
  rw[show a=0 by omega,show b=0 by omega,rA,bq,bq,n6]at h;exact⟨by omega,h.2⟩
def jy(l:az):az:=l.flatMap λn=>oB n++[44]
def Im(l:az)(n:Nat):jy (l++[n])=jy l++(oB n++[44]):=by simp[jy]
def D2:∀(a b:az),jy a=jy b->a=b
 |[],[],_=>rfl
 |[],n::b,h=>by simp[jy]at h
 |n::a,[],h=>by simp[jy]at h
 |n::a,m::b,h=>by
  have e:∀(n:Nat) (a:az),jy (n::a)=oB n++44::jy a:=λn a=>by simp[jy]
  rw[e,e]at h;obtain⟨d,f⟩:=KU _ _ _ _ h;rw[d,D2 a b f]
def NG(l:az):∀c∈jy l,c<256:=by
 intro c d;obtain⟨n,_,d⟩:=qF.1 d;rcases l5.1 d with d|d
 .exact(ND n c d).1
 simp at d;omega
def zb:∀(l:az),(∀n∈l,n<=100000)->(jy l).length<=100001*l.length
 |[],_=>by simp[jy]
 |n::l,h=>by
  have f:=zb l (λm d=>h m (by simp[d]));have j:=za n;have p:=h n (by simp);have e:(jy (n::l)).length=(oB n).length+1+(jy l).length:=by simp[jy];omega
  rw[e,aB];omega
section
variable{o3:Ky}
def Zh{l:ai}{i:Nat}{q:Nat}{d:az}(hd:d.length+q<=200000000000){e:En}{s:HS}{o:Out}{pp v v7:HV}{ao:aW}(T:q<=100000)
  (p:bB e [(3,.ptr o3 0),(5,iV q),(6,.psl (l.map λa=>[a])),(7,v7),(8,iV i)])
  (A:aI s ao [(v,1,d.map uC)] [(o3,[pp,v])])(C:lA s o3 pp v)(ho:bO R (.loop U.tC) e s=o):
  ∃e' s' ao pp v,o=.code (.exit 2) e' s'/\bB e' [(3,.ptr o3 0),(6,.psl (l.map λa=>[a])),(7,v7),(8,iV i)]/\aI s' ao [(v,1,(d++oB q).map uC)] [(o3,[pp,v])]/\lA s' o3 pp v:=by
 revert o;show∀o,_;refine ajX q
  (λj e s=>∃(ao:aW) (pp v:HV) (m:Nat) (D:az),m+j<=q/\D++oB m=d++oB q/\bB e [(3,.ptr o3 0),(5,iV m),(6,.psl (l.map λa=>[a])),(7,v7),(8,iV i)]/\aI s ao [(v,1,D.map uC)] [(o3,[pp,v])]/\lA s o3 pp v)
  0 (by omega) ⟨ao,pp,v,q,d,by omega,rfl,p,A,C⟩ ?_ ?_
 .rintro j e s r hj ⟨ao,pp,v,m,D,V,f,p,A,C⟩ u
  simp only[ab,ae]at p;by_cases h0:0<m
  .have X:(0:Int)<m:=by omega
   have hlen:D.length+1<=140737488355328:=by have:=ch List.length f;have h2:=za q;rw[bZ,bZ]at this;omega
   obtain⟨Y,s1,Z,O,I,J⟩:=SH (a:=0) (i:=0) A rfl rfl C (48+m%2) hlen;simp only[aO]at I;have e1:∀s,mj false .rem (some (iV m)) (some (.int .i64 2)) s=.v (iV ((m%2:Nat):Int)) s:=λ_=>rfl
   have N:∀s,mj false .quo (some (iV m)) (some (.int .i64 2)) s=.v (.int .i64 (bT .i64 ((m/2:Nat):Int))) s:=λ_=>rfl
   have e3:bT .i64 (48+(m:Int)%2)=48+(m:Int)%2:=cx (by omega) (by omega);have e4:bT .u8 (48+(m:Int)%2)=48+(m:Int)%2:=by
    have:(m:Int)%2=0∨(m:Int)%2=1:=by omega
    rcases this with h|h<;>rw[h]<;>decide
   rw[show((48+m%2:Nat):Int)=48+(m:Int)%2 by omega]at O;have e5:bT .i64 (((m/2:Nat):Int))=((m/2:Nat):Int):=cx (by omega) (by omega);rw[e5]at N;simp only[iV]at e1 N;simp[U.tC,p,h0,e1,N,e3,e4,O]at u;subst u;refine .inl ⟨_,_,rfl,Z,_,Y,m/2,D++[48+m%2],by omega,?_,by simp[p,iV],I,J⟩;rw[<-f,rC h0];simp
  obtain rfl:m=0:=by omega
  simp[U.tC,p]at u;subst u;rw[rA,qE]at f;subst f;exact .inr ⟨by simp,_,_,ao,pp,v,rfl,by simp[p],A,C⟩
 rintro e s r ⟨ao,pp,v,m,D,V,f,p,A,C⟩ u
 simp only[ab,ae]at p;obtain rfl:m=0:=by omega
 simp[U.tC,p]at u;subst u;rw[rA,qE]at f;subst f;exact⟨by simp,_,_,ao,pp,v,rfl,by simp[p],A,C⟩
def af6(l:az)(h0:l≠ [])(hl:l.length<=1000000)(O:∀n∈l,n<=100000)(s:HS):R (.call 57 [.psl (l.map nC)] s)=.val (.str (jy l)) s:=by
 refine acR ?_;have T:aI s0 (λ_=>none) [] []:=⟨dV.start (by simp),by simp,by simp⟩;have f:=(((T.cL [.dE,.ah]).ty (av (some (166,2)) s0.nx s0.ty)).push 1);have j:lA (HS.mk (av (some (.cells (cP [.dE,.ah]) 0 2 s0.nx)) s0.nx s0.h) s0.nx.succ (av (some [s0.nx]) s0.nx s0.gr) (av (some (166,2)) s0.nx s0.ty)) s0.nx .dE .ah:=⟨by simp only;rw[af,au rfl],.inl rfl,λo a b c h=>by cases h⟩;simp only[bq,aB,aC,bn,Nat.reduceAdd]at f;generalize V:HS.mk _ _ _ _=S1 at f j;simp[U.VN,V];generalize ho:bO R (.loop U.Bc) _ _=o;have hq:∃X s' ao pp v,o=.code (.exit 0) X s'/\look X 3=some (.ptr s0.nx 0)/\aI s' ao [(v,1,(jy l).map uC)] [(s0.nx,[pp,v])]/\lA s' s0.nx pp v:=by
  revert o;refine ajX l.length
   (λi e s=>∃(ao:aW) (pp v:HV),bB e [(3,.ptr s0.nx 0),(6,.psl (l.map nC)),(7,iV l.length),(8,iV i)]/\aI s ao [(v,1,(jy (l.take i)).map uC)] [(s0.nx,[pp,v])]/\lA s s0.nx pp v)
   0 (by omega) ⟨_,.dE,.ah,by simp[iV],by simpa[jy]using f,j⟩ ?_ ?_
  .rintro i e s r N ⟨ao,pp,v,m,A,C⟩ p
   have Y:(i:Int)<l.length:=by omega
   have hw:=br N (by omega);have Z:=O _ (cb N);have q:=zb (l.take i) (λn hm=>O n (ag1 hm));rw[od]at q;have q:(jy (l.take i)).length<=100001000000:=by
    have:min i l.length<=1000000:=by omega
    omega
   simp only[ab,ae]at m;simp[U.Bc,m,N,Y]at p;generalize D:bO R (.loop U.tC) _ _=o1 at p;obtain⟨e1,s1,c1,h5,v1,rfl,u,f,j⟩:=Zh (l:=l.map λn:Nat=>iV (n:Int)) (i:=i) (v7:=iV l.length) (d:=jy (l.take i)) (by omega) Z (by simp[m,iV,tP]) A C D;clear D;have hb:=za l[i];obtain⟨v2,s2,c2,h2,I,h1⟩:=SH (a:=0) (i:=0) f rfl rfl j 44 (by rw[bZ];omega);have h2:R (.call 87 [.ptr s0.nx 0,.int .u8 44] s1)=.val .fU s2:=h2;simp only[aO]at I;simp only[ab,ae]at u;simp[u,h2,hw]at p;subst p;refine .inl ⟨_,_,rfl,c2,_,v2,by simp[u,iV,tP],?_,h1⟩;rw[eW N,Im,<-List.append_assoc];exact I
  rintro e s r ⟨ao,pp,v,m,A,C⟩ p
  rw[fD (aV _)]at A;simp only[ab,ae]at m;simp[U.Bc,m]at p;subst p;exact⟨by simp,_,_,ao,pp,v,rfl,by simp[m],A,C⟩
 clear ho;obtain⟨X,s',ao,pp,v,rfl,h3,A,C⟩:=hq;have h4:jy l≠ []:=by cases l with|nil=>exact(h0 rfl).elim|cons n l=>simp[jy]
 have q:=zb l O;obtain⟨s3,J⟩:=YA (a:=0) (i:=0) A rfl rfl C h4 (by omega) (NG l);simp[h3,J,aa]
end
def uR(p:Nat×Nat):HV:=.str (jy [p.1,p.2])
def KV(p:Nat×Nat):pX KS (uR p)=true:=rfl
def KW(a b:Nat×Nat):pW KS (uR a) (uR b)=some (decide (a=b)):=by
 unfold uR;rw[B3]
 congr 1
 rw[decide_eq_decide];constructor
 .intro h;have:=D2 _ _ h;simp only[n6,and_true]at this;exact ahv this.1 this.2
 intro h;rw[h]
def w99(p:Nat×Nat)(r:p.1<=100000)(u:p.2<=100000)(s:HS):R (.call 56 [.agg [iV p.1,iV p.2]] s)=.val (uR p) s:=by
 refine q99 ?_;have m:aI s0 (λ_=>none) [] []:=⟨dV.start (by simp),by simp,by simp⟩;obtain⟨A,d⟩:=m.DI (sz:=1) (t:=[p.1,p.2].map nC) (Sz.map (f:=nC) (λ_=>rfl) _);generalize h:HS.mk _ _ _ _=q at d;have j:R (.call 57 [.sl s0.nx 0 2 1] q)=.val (.str (jy [p.1,p.2])) q:=
  acS (by simp[cI,cm]) (.cons ((d.mem.own 0 (.sl s0.nx 0 2 1) 1 ([p.1,p.2].map nC) rfl).vw (n:=14) (cD (λx=>by simp) _)) .nil) (by simp) rfl (af6 [p.1,p.2] (by simp) (by simp) (by simp;omega))
 simp only[bX,lO,iV,cj,gS,aB,aC,bn,Nat.reduceAdd,qE,bo,bq]at h;unfold uR;simp[U.b99,h,j,aa]
def G8(f:Nat)(F:HF)(w v:HV)(s s':HS)(u:U.prog f=some F)(m:pG LU f=true)(A:F.pu=false)(C:1=F.np)(D:w=.ah∨∃o a b c,w=.sl o a b c)(h:∃x e s1,ev R F.c (bc [w] 0) s=.code x e s1/\(x=.normal∨x=.ret)/\ml (dF e s1 F.rs) s1=.val v s'):
  R (.call f [w] s)=.val v s':=by
 refine dm ?_ trivial;show rF LU f [w] s (bG U.prog R f [w] s)=_;have d:∀K,rF LU f [w] s K=K:=by
  intro K;unfold pG at m;simp only[pf,yd]at m;obtain⟨⟨⟨p,q⟩,j⟩,r⟩:=m;have I:gz LU f [w] s K=K:=by unfold gz;rcases D with rfl|⟨_,_,_,_,rfl⟩<;>cases zi f LU.Iu<;>rfl
  unfold rF;rw[p,q,j,I];cases J:LU.ve with|none=>rfl|some t=>rw[J]at r;simp only[cond_false,bR];rw[show Nat.beq f t=false from r];rfl
 rw[d];unfold bG;rw[u];simp only[bR,A,cond_false];unfold dO;rw[cC,show [w].length=F.np from C,cR];simp only[eV];obtain⟨x,e,s1,p,q,j⟩:=h;rw[p];rcases q with rfl|rfl
 .show leave F e s1=_;rw[ij];exact j
 show leave F e s1=_;rw[ij];exact j
def NH{s:HS}{v w:HV}{sz bI:Nat}{F:bM}{ak:aP}(h:cu s w sz F ak)(d:gZ v=true):j0 sz bI none (some v) (some w) s=j0 sz bI none (some v) (some (.psl ak)) s:=by
 have j:=h;obtain⟨m,_,p⟩:=h;rcases p with⟨rfl,h0⟩|⟨o,t,r,g,f,rfl,_⟩
 .have:ak=[]:=by simpa using h0
  subst this;rw[agY d,kQ d]
 have q:=j.cells.2;show(bif gZ v then(bif Nat.beq ak.length 0 then cX.v v s else bR (s.bF o 0 (ak.length*sz)) (λl=>s.append sz bI none v l ak.length) .bad)else .bad)=(bif gZ v then(bif Nat.beq (aM ak) 0 then cX.v v s else bif dk sz ak then s.append sz bI none v (aD ak) (aM ak)else .bad)else .bad);rw[gI,q,cC,mK m];rfl
def Cp(L:cq)(w:HV)(l:bE):Prop:=(w=.ah/\l=[])∨∃i:Nat,L[i]?=some (w,4,l.map Mv.c)
def Cp.more{L:cq}{w:HV}{l:bE}(h:Cp L w l)(x:tO):Cp (L++[x]) w l:=by
 rcases h with h|⟨i,h⟩
 .exact .inl h
 exact .inr ⟨i,by rw[dD (aU.1 h).1];exact h⟩
section
variable{s:HS}{sz:Nat}{ao:aW}{L:cq}{K:de}{F:bM}{v:HV}{ak:aP}{Q:List (Ky×Ob)}
def af7(O:dj s sz F v ak ao L K Q){w:HV}{l:bE}(hw:Cp L w l)(hl:l.length<=100000):∃w' s' h,R (.call 89 [w] s)=.val w' s'/\dj s' sz F v ak h (L++[(w',4,l.map Mv.c)]) K Q:=by
 have q:∀l:bE,l=[]->∃w' s' h,R (.call 89 [.ah] s)=.val w' s'/\dj s' sz F v ak h (L++[(w',4,l.map Mv.c)]) K Q:=by
  rintro _ rfl
  have A:∃j,ev R U.E3 (bc [.ah] 0) s=.code .ret j s/\look j 2=some .ah:=by generalize D:ev R U.E3 (bc [.ah] 0) s=r;simp[U.E3]at D;subst D;exact⟨_,rfl,by simp⟩
  obtain⟨j,A,T⟩:=A;exact⟨.ah,s,ao,G8 89 U.f137 _ _ s s rfl rfl rfl rfl (.inl rfl) ⟨.ret,_,s,A,.inr rfl,by show ml (dF j s [.tmp 2]) s=_;simp[T]⟩,by simpa using O.push 4⟩
 rcases hw with⟨rfl,h0⟩|⟨i,V⟩
 .exact q l h0
 have hO:=O.k.mem.own i _ _ _ V;rcases hO.2.2 with⟨rfl,h0⟩|⟨o,t,hh,g,Z,hv,_⟩
 .exact q l (by simpa using h0)
 have C:l=[]∨l≠ []:=Classical.em _;obtain⟨I,m⟩:=O.FI 4;have X:(L++[(HV.sl s.nx 0 0 4,4,([]:aP))])[i]?=some (w,4,l.map Mv.c):=by rw[dD (aU.1 V).1];exact V
 generalize Y:HS.mk _ _ _ _=S1 at m;have u:=NH (bI:=4398046511104) (m.k.mem.own i _ _ _ X) (v:=.sl s.nx 0 0 4) rfl;have key:∃w' s2 d,j0 4 4398046511104 none (some (.sl s.nx 0 0 4)) (some w) S1=.v w' s2/\dj s2 sz F v ak d (L++[(w',4,l.map Mv.c)]) K Q:=by
  rcases C with rfl|C
  .exact⟨_,_,I,by rw[u];exact kQ rfl,m⟩
  obtain⟨w',s2,d,N,k2,p⟩:=m.KC L.length (w:=.sl s.nx 0 0 4) (n:=4) (es:=[]) (by simp) (new:=l.map Mv.c) (Sz.map (f:=Mv.c) (λx=>rfl) _) (by simpa using C) (bI:=4398046511104) (by simp;omega);have J:(L++[(HV.sl s.nx 0 0 4,4,([]:aP))]).set L.length (w',4,[]++l.map Mv.c)=L++[(w',4,l.map Mv.c)]:=by simp
  rw[J]at p;exact⟨w',s2,d,by rw[u];exact N,p⟩
 obtain⟨w',s2,d,N,p⟩:=key;subst hv;have A:∃j,ev R U.E3 (bc [.sl o 0 (l.map Mv.c).length 4] 0) s=.code .ret j s2/\look j 2=some w':=by generalize D:ev R U.E3 (bc [.sl o 0 (l.map Mv.c).length 4] 0) s=r;simp only[bz]at D N;simp[U.E3,Y,N]at D;subst D;exact⟨_,rfl,by simp⟩
 obtain⟨j,A,T⟩:=A;exact⟨w',s2,d,G8 89 U.f137 _ _ s s2 rfl rfl rfl rfl (.inr ⟨_,_,_,_,rfl⟩) ⟨.ret,_,s2,A,.inr rfl,by show ml (dF j s2 [.tmp 2]) s2=_;simp[T]⟩,p⟩
def w97(u:dj s sz F v ak ao L K Q)(p:Nat×Nat)(o8 o9:Ky):∃s' oa,R (.call 53 [.agg [iV p.1,iV p.2],.ptr o9 0,.ptr o8 0] s)=.val (.fn 54 [] [.ptr o9 0,.ptr oa 0,.ptr o8 0]) s'/\dj s' sz F v ak ao L ((oa,[iV p.1,iV p.2])::K) Q:=by
 have d:=u.cL [iV p.1,iV p.2];generalize f:HS.mk _ _ _ _=h at d;simp only[iV,aB,aC,bn,Nat.reduceAdd]at f;have j:∃m,ev R U.ZO (bc [.agg [iV p.1,iV p.2],.ptr o9 0,.ptr o8 0] 0) s=.code .ret m h/\look m 4=some (.fn 54 [] [.ptr o9 0,.ptr s.nx 0,.ptr o8 0]):=by generalize q:ev R U.ZO (bc [.agg [iV p.1,iV p.2],.ptr o9 0,.ptr o8 0] 0) s=r;simp[U.ZO,f]at q;subst q;exact⟨_,rfl,by simp⟩
 obtain⟨m,j,A⟩:=j;exact⟨h,s.nx,n97 rfl ⟨.ret,_,h,j,.inr rfl,by simp[A]⟩,d⟩
end
structure Sq where
 s:Nat
 p:Nat
 w:bE
abbrev Sq.k(z:Sq):Nat×Nat:=(z.s,z.p)
structure Fq where
 q:List Sq
 r:Option bE
section
variable(x y:Fa)(b:Bool)
def iv(z:Sq)(g:Fq)(e:Eg):Fq:=
 if bH x z.p e.m= -1 then(if g.r.isNone&&(zD e.m==b)then⟨g.q,some (z.w++[e.m])⟩else g)
 else if(e.to,(bH x z.p e.m).toNat)∈g.q.map Sq.k then g else⟨g.q++[⟨e.to,(bH x z.p e.m).toNat,z.w++[e.m]⟩],g.r⟩
def gu(z:Sq)(g:Fq)(es:bu):Fq:=es.foldl (iv x b z) g
def di:Nat->Fq
 |0=>⟨[⟨0,0,[]⟩],none⟩
 |i+1=>match(di i).q[i]?with|none=>di i|some z=>gu x b z (di i) (cM y z.s)
end
structure KO(x y:Fa)(z:Sq):Prop where
 ls:z.s<y.nx.length
 lp:z.p<x.nx.length
 fy:fm y 0 0 z.w=((z.s:Int),(z.w.length:Int))
 fx:fm x 0 0 z.w=((z.p:Int),(z.w.length:Int))
structure Cd(x y:Fa)(g:Fq):Prop where
 nd:(g.q.map Sq.k).Nodup
 ok:∀z∈g.q,KO x y z
 f0:g.q[0]?=some ⟨0,0,[]⟩
def Cd.len{x y:Fa}{g:Fq}(h:Cd x y g):g.q.length<=y.nx.length*x.nx.length:=by
 have d:(g.q.map Sq.k).length<=((List.range y.nx.length).flatMap λa=>(List.range x.nx.length).map λc=>(a,c)).length:=by refine Tm h.nd (λk f=>?_);obtain⟨z,j,rfl⟩:=cU.1 f;have:=h.ok z j;simp only[qF,fX,cU];exact⟨z.s,this.ls,z.p,this.lp,rfl⟩
 rw[bz]at d;have r:∀n m:Nat,((List.range n).flatMap λa=>(List.range m).map λc=>(a,c)).length=n*m:=by
  intro n m
  induction n with|zero=>simp|succ n u=>rw[yl,uL,bZ,u];simp[iR]
 rwa[r]at d
def pU(y:Fa):Prop:=∀q,∀e∈cM y q,bH y q e.m=(e.to:Int)
section
variable{x y:Fa}{b:Bool}{z:Sq}
def Tn(O:bA x)(T:bA y)(X:pU y)(f:KO x y z){g:Fq}(h:Cd x y g){e:Eg}(I:e∈cM y z.s):Cd x y (iv x b z g e):=by
 unfold iv
 split
 .split
  .exact⟨h.nd,h.ok,h.f0⟩
  exact h
 rename_i J
 split
 .exact h
 rename_i j;rcases fj O f.lp e.m with D|⟨q,D,Y⟩
 .exact(J D).elim
 rw[D,gD]at j ⊢;refine⟨?_,λZ d=>?_,?_⟩
 .rw[eU,tB];refine⟨h.nd,by simp,λk hk k' p e=>?_⟩;simp only[bX,lO,cr]at p;subst e;subst p;exact j hk
 .rcases l5.1 d with d|d
  .exact h.ok Z d
  rw[cr.1 d];have N:e.to<y.nx.length:=by have hr:cM y z.s=y.nx[z.s]'f.ls:=getD_at f.ls _;rw[hr]at I;exact T.to _ (cb f.ls) e I
  have V:∀(v:bE) (u:Fa) (A:bA u) (q r:Nat),fm u 0 0 v=((q:Int),(v.length:Int))->bH u q e.m=(r:Int)->fm u 0 0 (v++[e.m])=((r:Int),((v++[e.m]).length:Int)):=by intro v u A q r h2 h3;have C:=pT A e.m v 0 0 q _ A.pos h2;rw[h3]at C;obtain⟨q',_,h5⟩:=ui A (v++[e.m]) 0 0 A.pos (by rw[C];omega);rw[h5]at C ⊢;simp only at C;rw[C,bn]
  exact⟨N,Y,V _ y T _ _ f.fy (X _ e I),V _ x O _ _ f.fx D⟩
 have hl:0<g.q.length:=(aU.1 h.f0).1;rw[dD hl];exact h.f0
def NC(g:Fq)(e:Eg):g.q<+:(iv x b z g e).q:=by
 unfold iv
 split
 .split<;>exact rr _
 split
 .exact rr _
 exact yI _ _
def To(g:Fq)(e:Eg)(h:bH x z.p e.m≠ -1):(e.to,(bH x z.p e.m).toNat)∈(iv x b z g e).q.map Sq.k:=by
 unfold iv;rw[ar h]
 split
 .assumption
 simp
def UW(x:Fa)(b:Bool)(z:Sq)(e:Eg):Prop:=bH x z.p e.m= -1/\zD e.m=b
def KQ{g:Fq}{e:Eg}{w:bE}(h:(iv x b z g e).r=some w):g.r=some w∨(g.r=none/\UW x b z e/\w=z.w++[e.m]):=by
 unfold iv at h
 split at h
 .rename_i f
  split at h
  .rename_i d;simp only[aL,Option.isNone_iff_eq_none,bU]at d;exact .inr ⟨d.1,⟨f,d.2⟩,(lr h).symm⟩
  exact .inl h
 split at h<;>exact .inl h
def KR{g:Fq}{e:Eg}(h:(iv x b z g e).r=none):g.r=none/\¬UW x b z e:=by
 unfold iv at h
 split at h
 .rename_i f
  split at h
  .cases h
  rename_i j;refine⟨h,λd=>j ?_⟩;rw[h,d.2];simp
 rename_i f;refine⟨?_,λd=>f d.1⟩
 split at h<;>exact h
def ah2{g:Fq}{e:Eg}{w:bE}(h:g.r=some w):(iv x b z g e).r=some w:=by
 unfold iv
 split
 .split
  .rename_i d;rw[h]at d;simp at d
  exact h
 split<;>exact h
def FZ(D:bA x)(I:bA y)(J:pU y)(N:KO x y z):∀(es:bu) (g:Fq),(∀e∈es,e∈cM y z.s)->Cd x y g->
  Cd x y (gu x b z g es)/\g.q<+:(gu x b z g es).q/\(∀e∈es,bH x z.p e.m≠ -1->(e.to,(bH x z.p e.m).toNat)∈(gu x b z g es).q.map Sq.k)/\
  ((gu x b z g es).r=none->g.r=none/\∀e∈es,¬UW x b z e)/\(∀w,(gu x b z g es).r=some w->g.r=some w∨∃e∈es,UW x b z e/\w=z.w++[e.m])
 |[],g,A,h=>⟨h,rr _,by simp,λh=>⟨h,by simp⟩,λw h=>.inl h⟩
 |e::es,g,A,h=>by
  have V:=Tn (b:=b) D I J N h (A e (by simp));obtain⟨X,O,Y,Z,g5⟩:=FZ D I J N es (iv x b z g e) (λf d=>A f (by simp[d])) V;refine⟨X,(NC g e).trans O,λf d T=>?_,λhn=>?_,λw hw=>?_⟩
  .rcases bk.1 d with rfl|d
   .obtain⟨t,ht⟩:=O;show _∈(gu x b z (iv x b z g f) es).q.map Sq.k;rw[<-ht,eU];exact ph _ (To g f T)
   exact Y f d T
  .obtain⟨C,j⟩:=Z hn;obtain⟨u,k4⟩:=KR C;refine⟨u,λf d=>?_⟩;rcases bk.1 d with rfl|d
   .exact k4
   exact j f d
  rcases g5 w hw with d|⟨f,C,j,u⟩
  .rcases KQ d with d|⟨_,j,u⟩
   .exact .inl d
   exact .inr ⟨e,by simp,j,u⟩
  exact .inr ⟨f,by simp[C],j,u⟩
end
structure Fnd(x y:Fa)(b:Bool)(i:Nat)(g:Fq):Prop where
 ok:Cd x y g
 nx:∀z∈g.q.take i,∀e∈cM y z.s,bH x z.p e.m≠ -1->(e.to,(bH x z.p e.m).toNat)∈g.q.map Sq.k
 no:g.r=none->∀z∈g.q.take i,∀e∈cM y z.s,¬UW x b z e
 so:∀w,g.r=some w->∃z∈g.q.take i,∃e∈cM y z.s,UW x b z e/\w=z.w++[e.m]
def Ce{x y:Fa}{b:Bool}(D:bA x)(I:bA y)(N:pU y):∀i,Fnd x y b i (di x y b i)
 |0=>by refine⟨⟨by simp[di],λz j=>?_,rfl⟩,by simp,λ_ z j=>by simp at j,λw h=>by cases h⟩;simp only[di,cr]at j;subst j;exact⟨I.pos,D.pos,rfl,rfl⟩
 |i+1=>by
  have f:=Ce (b:=b) D I N i;rw[di];cases j:(di x y b i).q[i]?with
  |none=>
   have J:=Dz.1 j;simp only;have p:(di x y b i).q.take (i+1)=(di x y b i).q.take i:=by rw[fD (by omega),fD J]
   exact⟨f.ok,by rw[p];exact f.nx,by rw[p];exact f.no,by rw[p];exact f.so⟩
  |some z=>
   obtain⟨J,T⟩:=aU.1 j;obtain⟨V,⟨t,p⟩,X,Y,Z⟩:=FZ (b:=b) D I N (f.ok.ok z (cE j)) (cM y z.s) (di x y b i) (λe h=>h) f.ok;simp only;generalize gu x b z (di x y b i) (cM y z.s)=O at*;have m:O.q.take (i+1)=(di x y b i).q.take i++[z]:=by rw[<-p,Al (by omega),eW J,T]
   have r:∀k,k∈(di x y b i).q.map Sq.k->k∈O.q.map Sq.k:=λk hk=>by rw[<-p,eU];exact ph _ hk
   refine⟨V,λu d=>?_,λhn u d=>?_,λw hw=>?_⟩
   .rw[m]at d;rcases l5.1 d with d|d
    .exact λe he hs=>r _ (f.nx u d e he hs)
    rw[cr.1 d];exact X
   .obtain⟨A,C⟩:=Y hn;rw[m]at d;rcases l5.1 d with d|d
    .exact f.no A u d
    rw[cr.1 d];exact C
   rw[m];rcases Z w hw with h'|⟨e,A,C,k3⟩
   .obtain⟨u,A,C⟩:=f.so w h';exact⟨u,ph _ A,C⟩
   exact⟨z,by simp,e,A,C,k3⟩
def Cf{x y:Fa}{b:Bool}(p:bA x)(r:bA y)(u:pU y){N:Nat}(D:y.nx.length*x.nx.length<=N):Fnd x y b (di x y b N).q.length (di x y b N):=by have h:=Ce (b:=b) p r u N;have I:=h.ok.len;have A:(di x y b N).q.take N=(di x y b N).q:=fD (by omega);have d:(di x y b N).q.take (di x y b N).q.length=(di x y b N).q:=fD (aV _);obtain⟨C,f,j,m⟩:=h;rw[A]at f j m;exact⟨C,by rw[d];exact f,by rw[d];exact j,by rw[d];exact m⟩
def UX(x y:Fa)(w:bE)(s p:Nat):Prop:=fm y 0 0 w=((s:Int),(w.length:Int))/\fm x 0 0 w=((p:Int),(w.length:Int))
def sN{x:Fa}(d:bA x){w:bE}{m:Mv}{q:Nat}(h:fm x 0 0 (w++[m])=((q:Int),((w++[m]).length:Int))):∃p:Nat,p<x.nx.length/\fm x 0 0 w=((p:Int),(w.length:Int))/\bH x p m=(q:Int):=by
 have r:(fm x 0 0 w).1≠ -1:=by
  intro A;obtain⟨j,J,C,N,f,O,T⟩:=G5 d w 0 0 d.pos A;have key:∀(v u:bE) (p i:Nat),(fm x p i v).1= -1->(fm x p i (v++u)).1= -1:=by
   intro v
   induction v with
   |nil=>intro u p i h;simp[fm]at h
   |cons a v D=>
    intro u p i h;rw[bo,fm];rw[fm]at h
    split
    .rfl
    rename_i I;rw[ar I]at h;exact D u _ _ h
  have:=key w [m] 0 0 A;rw[h]at this;simp only at this;omega
 obtain⟨p,C,f⟩:=ui d w 0 0 d.pos r;rw[bn]at f;refine⟨p,C,f,?_⟩;have:=pT d m w 0 0 p _ d.pos f;rw[h]at this;exact this.symm
def D1{y:Fa}{q:Nat}{m:Mv}{r:Nat}(h:bH y q m=(r:Int)):∃e∈cM y q,e.m=m/\e.to=r:=by unfold bH at h;cases d:(cM y q).find? (λe=>decide (e.m=m))with|none=>rw[d]at h;simp only at h;omega|some e=>rw[d]at h;simp only at h;exact⟨e,Ap d,by simpa using KL d,by omega⟩
def G6{x y:Fa}{b:Bool}(r:bA x)(u:bA y)(D:pU y){N:Nat}(I:y.nx.length*x.nx.length<=N):∀(n:Nat) (w:bE) (s p:Nat),w.length=n->UX x y w s p->(s,p)∈(di x y b N).q.map Sq.k
 |0,w,s,p,A,h=>by have J:=Cf (b:=b) r u D I;have:w=[]:=sf.1 A;subst this;obtain⟨O,T⟩:=h;simp only[fm,gj,tS]at O T;have V:=cE J.ok.f0;have:=Jd (f:=Sq.k) V;rw[show s=0 by omega,show p=0 by omega];exact this
 |n+1,w,s,p,A,h=>by
  have J:=Cf (b:=b) r u D I;rcases sv w with C|⟨v,m,C⟩
  .subst C;simp at A
  rw[tW]at C;subst C;obtain⟨O,T⟩:=h;obtain⟨s',_,k1,k2⟩:=sN u O;obtain⟨p',_,k3,Z⟩:=sN r T;have ih:=G6 (b:=b) r u D I n v s' p' (by simpa using A) ⟨k1,k3⟩;obtain⟨z,V,d⟩:=cU.1 ih;simp only[Sq.k,gj]at d;obtain⟨rfl,rfl⟩:=d;obtain⟨e,X,j,Y⟩:=D1 k2;have:=J.nx z (by rw[fD (aV _)];exact V) e X (by rw[j,Z];omega);rw[j,Z,Y,gD]at this;exact this
def G7{x y:Fa}{b:Bool}(A:bA x)(C:bA y)(D:pU y){N:Nat}(I:y.nx.length*x.nx.length<=N):
  (di x y b N).r.isSome=true↔∃w s p,UX x y w s p/\∃e∈cM y s,bH x p e.m= -1/\zD e.m=b:=by
 have j:=Cf (b:=b) A C D I;have J:(di x y b N).q.take (di x y b N).q.length=(di x y b N).q:=fD (aV _);constructor
 .intro h;obtain⟨w,O⟩:=ahV.1 h;obtain⟨z,f,e,u,T,_⟩:=j.so w O;rw[J]at f;have:=j.ok.ok z f;exact⟨z.w,z.s,z.p,⟨this.fy,this.fx⟩,e,u,T⟩
 rintro⟨w,s,p,V,e,f,u⟩
 cases X:(di x y b N).r with|some _=>rfl|none=>obtain⟨z,Y,d⟩:=cU.1 (G6 (b:=b) A C D I _ w s p rfl V);simp only[Sq.k,gj]at d;obtain⟨rfl,rfl⟩:=d;exact(j.no X z (by rw[J];exact Y) e f u).elim
abbrev lK(o8 o9:Ky)(b:Bool):ai:=[iV 0,iV 0,.fn 56 [] [],.fn 53 [] [.ptr o9 0,.ptr o8 0],iV 0,.bool b]
abbrev aj0(o8 o9 o2 o3 o4 o5 o6:Ky)(b:Bool):List (Nat×HV):=[(1,.aw (lK o8 o9 b)),(2,.ptr o2 0),(3,.ptr o3 0),(4,.ptr o4 0),(5,.ptr o5 0),(6,.ptr o6 0)]
abbrev lpE(l:Ky)(E:En):Ky×Ob:=(l,.loop 0 none E [33,34] (.seq U.hX U.hY) U.gH)
section
variable{l:Ky}{s s1:HS}{e e1:En}{gV body:HC}
def KY{v1 v2:HV}{j m:Nat}{A:En}{s2:HS}(C:aj s.h l=sg 0 none e [j,m] gV body)(D:ev R gV (.cons j v1 (.cons m v2 e)) s=.code .normal e1 s1)(I:aj s1.h l=sg 0 none e [j,m] gV body)
    (J:ev R body e1 (s1.aJ l (.loop 2 none e [j,m] gV body))=.code .normal A s2)(N:aj s2.h l=sg 2 none e [j,m] gV body):
    R (.round l [v1,v2] s)=.val (.bool true) (s2.aJ l (.loop 0 none e [j,m] gV body)):=by
  refine dm ?_ trivial;show fB R l [v1,v2] s=_;unfold fB;rw[C];show(match ev R gV (.cons j v1 (.cons m v2 e)) s with
      |.code .normal e1 s1=>(match aj s1.h l with
        |some (.loop q r u p f d)=>bif Nat.beq q 0 then(match ev R body e1 (s1.aJ l (.loop 2 r u p f d))with
          |.code .normal _ s2=>fK l 0 none s2
          |.code .ret _ s2=>fK l 1 (some .ret) s2
          |.code (.exit i) _ s2=>fK l 1 (some (.exit i)) s2
          |_=>.bad 11)else .bad 17
        |_=>.bad 18)
      |_=>.bad 12)=_
  rw[D];show(match aj s1.h l with
        |some (.loop q r u p f d)=>bif Nat.beq q 0 then(match ev R body e1 (s1.aJ l (.loop 2 r u p f d))with
          |.code .normal _ s2=>fK l 0 none s2
          |.code .ret _ s2=>fK l 1 (some .ret) s2
          |.code (.exit i) _ s2=>fK l 1 (some (.exit i)) s2
          |_=>.bad 11)else .bad 17
        |_=>.bad 18)=_
  rw[I];show(match ev R body e1 (s1.aJ l (.loop 2 none e [j,m] gV body))with
          |.code .normal _ s2=>fK l 0 none s2
          |.code .ret _ s2=>fK l 1 (some .ret) s2
          |.code (.exit i) _ s2=>fK l 1 (some (.exit i)) s2
          |_=>.bad 11)=_
  rw[J];show fK l 0 none s2=_;unfold fK;rw[N];rfl
end
def D9(p:Sq×HV):ai:=[iV p.1.s,iV p.1.p,p.2]
def lE(q:List Sq):List ((Nat×Nat)×HV):=q.map λz=>(z.k,.bool true)
def Cg(k:Nat×Nat):∀q:List Sq,lkp k (lE q)=if k∈q.map Sq.k then some (.bool true)else none
 |[]=>by simp[lE,lkp]
 |z::q=>by
  have d:=Cg k q;show(if k=z.k then some (HV.bool true)else lkp k (lE q))=_;rw[d,bX];by_cases h:k=z.k
  .simp[h]
  simp[h]
def kK.Ou{s:HS}{v:HV}{F:bM}{a b c:HV}{ak:aP}(h:kK s v 3 F ([a,b,c]::ak)):∃o bj,(∀k (s1:HS),Fp (some v) (some (.int k 0)) 3 s1=.v (.ptr o bj) s1)/\F o/\fQ (aj s.h o) bj 2=some [a,b]/\eN (aj s.h o) (bj+2)=some c:=by
 obtain⟨A,C,o,t,m,bj,d,g,p,rfl,q,r,f,j,D,I,u,J⟩:=h;rw[aB,iR]at f j;refine⟨o,bj,λk s1=>by simp,u o dr,?_,?_⟩
 .rw[q];show(if m<=bj then if bj+2<=d then mr t 2 bj else none else none)=_;rw[au r,au (by omega),nQ t [a,b] 2 bj (λi d=>by rw[j i (by omega),cj];match i,d with|0,_=>rfl|1,_=>rfl) rfl]
 rw[q];show(if m<=bj+2 then if bj+2<d then fI t (bj+2)else none else none)=_;rw[au (by omega),au (by omega),j 2 (by omega),cj];rfl
def oC(L:cq)(rx:HV)(r:Option bE):Prop:=match r with|none=>rx=.ah|some w=>Cp L rx w
def oC.more{L:cq}{rx:HV}{r:Option bE}(h:oC L rx r)(x:tO):oC (L++[x]) rx r:=by cases r with|none=>exact h|some w=>exact Cp.more h x
section
variable{x y:Fa}{b:Bool}{z:Sq}{g:Fq}{e:Eg}{E:En}{s:HS}{F:bM}{v w rx:HV}{W:List (Sq×HV)}{ao:aW}{L:cq}{l om oa ox o2 o3 o4 o5 o6 o7 o8 o9:Ky}{to:HV}
def af8(hz:KO x y z)(hg:Cd x y g)(hn:y.nx.length<=400)(hm:x.nx.length<=400)(kj:z.w.length<=100000)(ku:e.to<y.nx.length)(hx:bA x)
  (hE:bB E (aj0 o8 o9 o2 o3 o4 o5 o6 b))
  (hW:∀p∈(z,w)::W,Cp L p.2 p.1.w)(kv:W.length<=200000)(hR:oC L rx g.r)
  (kk:(bH x z.p e.m= -1/\to=.dE)∨(bH x z.p e.m≠ -1/\to=.ptr o7 0))
  (hM:dj s 3 F v (((z,w)::W).map D9) ao L [(o7,[iV e.to,iV (bH x z.p e.m)]),(ox,e.c),(oa,[iV z.s,iV z.p]),(o6,[v]),(o5,[.mp om]),(o4,[iV 0]),(o3,[.bool g.r.isSome]),(o2,[rx]),(o9,y.c),(o8,x.c)]
   [(om,.mp (eX uR (lE g.q))),lpE l E]):
  ∃F' v' C L' J s' W',R (.round l [.agg e.m.c,to] s)=.val (.bool true) s'/\(iv x b z g e).q=g.q++W'.map Prod.fst/\(∀p∈(z,w)::(W++W'),Cp L' p.2 p.1.w)/\oC L' J (iv x b z g e).r/\
   dj s' 3 F' v' (((z,w)::(W++W')).map D9) C L' [(o7,[iV e.to,iV (bH x z.p e.m)]),(ox,e.c),(oa,[iV z.s,iV z.p]),(o6,[v']),(o5,[.mp om]),(o4,[iV 0]),(o3,[.bool (iv x b z g e).r.isSome]),(o2,[J]),(o9,y.c),(o8,x.c)]
   [(om,.mp (eX uR (lE (iv x b z g e).q))),lpE l E]:=by
 have hk:=hM.cL e.m.c;generalize k3:HS.mk _ _ _ _=S1 at hk;obtain⟨ob,k5⟩:∃ob,ob=s.nx:=⟨_,rfl⟩;have ha:ev R (.seq U.hX U.hY) (.cons 33 (.agg e.m.c) (.cons 34 to E)) s=.code .normal ((En.cons 33 (.agg e.m.c) (.cons 34 to E)).oE 7 (.ptr ob 0)|>.oE 8 to) S1:=by simp only[Mv.c,aB,aC,bn,Nat.reduceAdd]at k3;simp[k3,k5,aq,aA]
 have kl:=(hM.mp 1 _ _ rfl).1;have km:=(hk.mp 1 _ _ rfl).1;have N:=hk.Ca (b:=1) rfl (.loop 2 none E [33,34] (.seq U.hX U.hY) U.gH);simp only[bJ,aO]at N;generalize kn:HS.aJ S1 l _=S2 at N;rw[<-k5]at N;generalize k7:((En.cons 33 (HV.agg e.m.c) (.cons 34 to E)).oE 7 (.ptr ob 0)|>.oE 8 to)=E1 at ha;have hl:bB E1 [(1,.aw (lK o8 o9 b)),(2,.ptr o2 0),(3,.ptr o3 0),(4,.ptr o4 0),(5,.ptr o5 0),(6,.ptr o6 0),(7,.ptr ob 0),(8,to)]:=by subst k7;simp only[ab,ae]at hE;simp[hE]
 clear k7 hE;obtain⟨o,kx,ko,_,ky,kp⟩:=kK.Ou (a:=iV z.s) (b:=iV z.p) (c:=w) N.q;obtain⟨w1,S3,c3,k8,k9⟩:=af7 N (w:=w) (l:=z.w) (hW (z,w) (by simp)) kj;have d6:=(N.k.bm 4 _ _ rfl).1.1;have d7:=(N.k.bm 0 _ _ rfl).1.1;have ka:=(k9.k.bm 0 _ _ rfl).1.1;obtain⟨w2,O,c4,h4,k4,j⟩:=k9.KC L.length (w:=w1) (n:=4) (es:=z.w.map Mv.c) (by simp) (new:=[e.m.c]) (Sz.cons rfl Sz.nil) (by simp) (bI:=4398046511104) (by simp;omega);have kb:(L++[(w1,4,z.w.map Mv.c)]).set L.length (w2,4,z.w.map Mv.c++[e.m.c])=L++[(w2,4,(z.w++[e.m]).map Mv.c)]:=by simp
 rw[kb]at j;have kc:Cp (L++[(w2,4,(z.w++[e.m]).map Mv.c)]) w2 (z.w++[e.m]):=.inr ⟨L.length,by simp⟩;have hd:∀p∈(z,w)::W,Cp (L++[(w2,4,(z.w++[e.m]).map Mv.c)]) p.2 p.1.w:=λp hp=>(hW p hp).more _
 have ho:=hR.more (w2,4,(z.w++[e.m]).map Mv.c);have q7:∃Z,ev R U.EW E1 S2=.code .normal Z O/\bB Z [(1,.aw (lK o8 o9 b)),(2,.ptr o2 0),(3,.ptr o3 0),(4,.ptr o4 0),(5,.ptr o5 0),(6,.ptr o6 0),(7,.ptr ob 0),(8,to),(9,w2)]:=by generalize A:ev R U.EW E1 S2=r;simp only[Mv.c,aB,aC,bn,Nat.reduceAdd]at d6 d7 ka h4;simp only[ab,ae]at hl;simp[hl,d6,d7,ka,ko,kp,k8,h4,an]at A;subst A;exact⟨_,rfl,by simp[hl]⟩
 obtain⟨Z,q7,f⟩:=q7
 suffices kd:∃u S5 F' v' C L' J W',ev R U.iG Z O=.code .normal u S5/\look u 1=some (.aw (lK o8 o9 b))/\(iv x b z g e).q=g.q++W'.map Prod.fst/\(∀p∈(z,w)::(W++W'),Cp L' p.2 p.1.w)/\oC L' J (iv x b z g e).r/\
   dj S5 3 F' v' (((z,w)::(W++W')).map D9) C L' [(ob,e.m.c),(o7,[iV e.to,iV (bH x z.p e.m)]),(ox,e.c),(oa,[iV z.s,iV z.p]),(o6,[v']),(o5,[.mp om]),(o4,[iV 0]),(o3,[.bool (iv x b z g e).r.isSome]),(o2,[J]),(o9,y.c),(o8,x.c)]
   [(om,.mp (eX uR (lE (iv x b z g e).q))),(l,.loop 2 none E [33,34] (.seq U.hX U.hY) U.gH)] by
  obtain⟨u,S5,F',v',C,L',J,W',k4,h1,h2,h3,h5,h6⟩:=kd;have hs:∃E4,ev R U.Be u S5=.code .normal E4 S5/\look E4 90=some (.bool false):=by generalize A:ev R U.Be u S5=r;simp[h1]at A;subst A;exact⟨_,rfl,by simp⟩
  obtain⟨E4,hs,kq⟩:=hs;have ht:ev R U.gH E1 S2=.code .normal E4 S5:=by unfold U.gH;rw[lu,oA q7,oA k4,oA hs,DZ kq];rfl
  have kr:=(h6.mp 1 _ _ rfl).1;have h7:=h6.Ca (b:=1) rfl (.loop 0 none E [33,34] (.seq U.hX U.hY) U.gH);simp only[bJ,aO]at h7;exact⟨F',v',C,L',J,_,W',KY kl ha km (by rw[kn];exact ht) kr,h2,h3,h5,h7.tail 1⟩
 have d3:=(j.k.bm 7 _ _ rfl).1.1;have hy:=(j.k.bm 0 _ _ rfl).1.1;have d5:=(j.k.bm 5 _ _ rfl).1.1;have k0:=w50 e.m;simp only[Mv.c]at k0;simp only[Mv.c,aB,aC,bn,Nat.reduceAdd]at d3 hy d5;rcases kk with⟨X,rfl⟩|⟨X,rfl⟩
 .have Y:∀(s:HS),zx 3 false (some .dE) s=.v (.bool true) s:=λ_=>rfl
  by_cases hc:g.r.isNone=true/\zD e.m=b
  .have T:iv x b z g e=⟨g.q,some (z.w++[e.m])⟩:=by unfold iv;rw[au X,au (by simp[hc.1,hc.2])]
   have h8:g.r.isSome=false:=by cases ks:g.r with|none=>rfl|some _=>rw[ks]at hc;simp at hc
   obtain⟨S5,a5,D⟩:=j.put (a:=8) rfl (x:=w2) k4 rfl;obtain⟨S6,a6,hf⟩:=D.put (a:=7) rfl (x:=.bool true) rfl rfl;simp only[bJ,aO]at D hf;simp only[aB,aC,bn]at a5 a6;rw[h8]at d3;have d:∃u,ev R U.iG Z O=.code .normal u S6/\look u 1=some (.aw (lK o8 o9 b)):=by generalize A:ev R U.iG Z O=r;simp only[ab,ae]at f;simp[U.iG,f,Y,d3,hy,k0,hc.2,a5,a6,an]at A;subst A;exact⟨_,rfl,by simp[f]⟩
   obtain⟨u,d,l1⟩:=d;rw[T];exact⟨u,S6,F,v,c4,_,w2,[],d,l1,by simp,by simpa using hd,kc,by simpa using hf⟩
  have T:iv x b z g e=g:=by unfold iv;rw[au X,ar λh=>hc ?_];simpa using h
  have d:∃u,ev R U.iG Z O=.code .normal u O/\look u 1=some (.aw (lK o8 o9 b)):=by
   generalize A:ev R U.iG Z O=r;simp only[ab,ae]at f;cases h8:g.r.isSome with
   |true=>rw[h8]at d3;simp[U.iG,f,Y,d3]at A;subst A;exact⟨_,rfl,by simp[f]⟩
   |false=>
    rw[h8]at d3;have kt:(zD e.m==b)=false:=by cases hb:(zD e.m==b)with|false=>rfl|true=>exact(hc ⟨by simpa using h8,by simpa using hb⟩).elim
    simp[U.iG,f,Y,d3,hy,k0,kt,an]at A;subst A;exact⟨_,rfl,by simp[f]⟩
  obtain⟨u,d,l1⟩:=d;rw[T];exact⟨u,O,F,v,c4,_,rx,[],d,l1,by simp,by simpa using hd,ho,by simpa using j⟩
 have Y:∀(s:HS),zx 3 false (some (.ptr o7 0)) s=.v (.bool false) s:=λ_=>rfl
 rcases fj hx hz.lp e.m with h1|⟨q,h1,hq⟩
 .exact(X h1).elim
 have k1:=w99 (e.to,q) (by simp only;omega) (by simp only;omega);have h9:=(j.k.bm 1 _ _ rfl).1.1;have V:=Nj (K:=KS) KW KV (j.mp 0 _ _ rfl).1 (e.to,q) (.bool false);rw[Cg]at V;rw[h1]at h9 j;simp only[iV]at k1 h9;simp only[aB,aC,bn,Nat.reduceAdd]at h9;by_cases I:(e.to,q)∈g.q.map Sq.k
 .have T:iv x b z g e=g:=by unfold iv;rw[ar X,h1,gD,au I]
  rw[au I]at V;simp only[gB]at V;have d:∃u,ev R U.iG Z O=.code .normal u O/\look u 1=some (.aw (lK o8 o9 b)):=by generalize A:ev R U.iG Z O=r;simp only[ab,ae]at f;simp[U.iG,f,Y,h9,d5,k1,V,an]at A;subst A;exact⟨_,rfl,by simp[f]⟩
  obtain⟨u,d,l1⟩:=d;rw[T,h1];exact⟨u,O,F,v,c4,_,rx,[],d,l1,by simp,by simpa using hd,ho,by simpa using j⟩
 have T:iv x b z g e=⟨g.q++[⟨e.to,q,z.w++[e.m]⟩],g.r⟩:=by unfold iv;rw[ar X,h1,gD,ar I]
 rw[ar I]at V;simp only[Option.getD_none]at V;have k2:=Tc (K:=KS) KW KV (j.mp 0 _ _ rfl).1 (e.to,q) (.bool true);have ke:j5 (e.to,q) (HV.bool true) (lE g.q)=lE (g.q++[⟨e.to,q,z.w++[e.m]⟩]):=by unfold j5;rw[Cg,ar I];simp[lE,Sq.k]
 rw[ke]at k2;have D:=j.Ca (b:=0) rfl (.mp (eX uR (lE (g.q++[⟨e.to,q,z.w++[e.m]⟩]))));simp only[aO]at D;generalize kz:HS.aJ O om _=S5 at D k2;have kg:=(D.k.bm 4 _ _ rfl).1.1;have hj:=(D.k.bm 1 _ _ rfl).1.1;obtain⟨v',S6,a6,k6,hf⟩:=D.Td (new:=[D9 (⟨e.to,q,z.w++[e.m]⟩,w2)]) (Sz.cons rfl Sz.nil) (by simp) (bI:=3518437208883) (by simp;omega);obtain⟨S7,a7,ki⟩:=hf.put (a:=4) rfl (x:=v') k6 rfl;simp only[bJ,aO]at ki;simp only[D9,iV,aB,aC,bn,Nat.reduceAdd]at a6 a7 kg hj;have d:∃u,ev R U.iG Z O=.code .normal u S7/\look u 1=some (.aw (lK o8 o9 b)):=by generalize A:ev R U.iG Z O=r;simp only[ab,ae]at f;simp[U.iG,f,Y,h9,d5,k1,V,k2,kg,hj,k4,a6,a7,an]at A;subst A;exact⟨_,rfl,by simp[f]⟩
 obtain⟨u,d,l1⟩:=d;rw[T,h1];refine⟨u,S7,_,v',c4,_,rx,[(⟨e.to,q,z.w++[e.m]⟩,w2)],d,l1,by simp,λp hp=>?_,ho,by simpa[D9,iV]using ki⟩;rw[<-List.cons_append]at hp;rcases l5.1 hp with hp|hp
 .exact hd p hp
 rw[cr.1 hp];exact kc
end
def Io(x:Fa)(b:Bool)(z:Sq)(g:Fq)(row:bu){k:Nat}(d:k<row.length):gu x b z g (row.take (k+1))=iv x b z (gu x b z g (row.take k)) row[k]:=by unfold gu;rw[eW d,List.foldl_append];rfl
section
variable{x y:Fa}{b:Bool}{z:Sq}{g:Fq}{E:En}{s:HS}{F:bM}{v w rx:HV}{W:List (Sq×HV)}{ao:aW}{L:cq}{l om oa o2 o3 o4 o5 o6 o8 o9:Ky}
def w98(hx:bA x)(hy:bA y)(ho:pU y)(hz:KO x y z)(hg:Cd x y g)(ht:z.w.length<=100000)
  (hE:bB E (aj0 o8 o9 o2 o3 o4 o5 o6 b))
  (hW:∀p∈(z,w)::W,Cp L p.2 p.1.w)(k3:W.length<=g.q.length)(hR:oC L rx g.r)
  (hM:dj s 3 F v (((z,w)::W).map D9) ao L [(oa,[iV z.s,iV z.p]),(o6,[v]),(o5,[.mp om]),(o4,[iV 0]),(o3,[.bool g.r.isSome]),(o2,[rx]),(o9,y.c),(o8,x.c)]
   [(om,.mp (eX uR (lE g.q))),lpE l E]):
  ∃A u d h f s' j,R (.call 54 [.iK l,.ptr o9 0,.ptr oa 0,.ptr o8 0] s)=.val (.cO []) s'/\(gu x b z g (cM y z.s)).q=g.q++j.map Prod.fst/\(∀p∈(z,w)::(W++j),Cp h p.2 p.1.w)/\oC h f (gu x b z g (cM y z.s)).r/\
   dj s' 3 A u (((z,w)::(W++j)).map D9) d h [(oa,[iV z.s,iV z.p]),(o6,[u]),(o5,[.mp om]),(o4,[iV 0]),(o3,[.bool (gu x b z g (cM y z.s)).r.isSome]),(o2,[f]),(o9,y.c),(o8,x.c)]
   [(om,.mp (eX uR (lE (gu x b z g (cM y z.s)).q))),lpE l E]:=by
 obtain⟨row,J⟩:∃row,row=cM y z.s:=⟨_,rfl⟩;have h8:y.nx[z.s]'hz.ls=row:=by rw[J];exact(getD_at hz.ls _).symm
 have k4:row.length<=6000:=by rw[<-h8];exact hy.row hz.ls
 have hf:=hz.ls;have d9:=(hM.k.bm 6 _ _ rfl).1.1;have da:=(hM.k.bm 0 _ _ rfl).1.1;simp only[Fa.c,iV,aB,aC,bn,Nat.reduceAdd]at d9 da;rw[<-J];have hq:∃e' A u d h f s' j,ev R U.ZP (bc [.iK l,.ptr o9 0,.ptr oa 0,.ptr o8 0] 0) s=.code .normal e' s'/\(gu x b z g row).q=g.q++j.map Prod.fst/\(∀p∈(z,w)::(W++j),Cp h p.2 p.1.w)/\oC h f (gu x b z g row).r/\
   dj s' 3 A u (((z,w)::(W++j)).map D9) d h [(oa,[iV z.s,iV z.p]),(o6,[u]),(o5,[.mp om]),(o4,[iV 0]),(o3,[.bool (gu x b z g row).r.isSome]),(o2,[f]),(o9,y.c),(o8,x.c)]
   [(om,.mp (eX uR (lE (gu x b z g row).q))),lpE l E]:=by
  generalize I:ev R U.ZP (bc [.iK l,.ptr o9 0,.ptr oa 0,.ptr o8 0] 0) s=r;simp[U.ZP,U.N3,d9,da,hf,h8]at I;generalize hj:ev R (.loop U.Df) _ _=o at I;have k0:∃e' A u d h f s' j,o=.code (.exit 0) e' s'/\(gu x b z g row).q=g.q++j.map Prod.fst/\(∀p∈(z,w)::(W++j),Cp h p.2 p.1.w)/\oC h f (gu x b z g row).r/\
    dj s' 3 A u (((z,w)::(W++j)).map D9) d h [(oa,[iV z.s,iV z.p]),(o6,[u]),(o5,[.mp om]),(o4,[iV 0]),(o3,[.bool (gu x b z g row).r.isSome]),(o2,[f]),(o9,y.c),(o8,x.c)]
    [(om,.mp (eX uR (lE (gu x b z g row).q))),lpE l E]:=by
   refine eI hj row.length
    (λk e s=>∃(F:bM) (v:HV) (ao:aW) (L:cq) (rx:HV) (Wk:List (Sq×HV)),bB e [(0,.iK l),(1,.ptr o9 0),(2,.ptr oa 0),(3,.ptr o8 0),(14,.psl (row.map Eg.c)),(15,iV row.length),(16,iV k)]/\(gu x b z g (row.take k)).q=g.q++Wk.map Prod.fst/\(∀p∈(z,w)::(W++Wk),Cp L p.2 p.1.w)/\oC L rx (gu x b z g (row.take k)).r/\
     dj s 3 F v (((z,w)::(W++Wk)).map D9) ao L [(oa,[iV z.s,iV z.p]),(o6,[v]),(o5,[.mp om]),(o4,[iV 0]),(o3,[.bool (gu x b z g (row.take k)).r.isSome]),(o2,[rx]),(o9,y.c),(o8,x.c)]
     [(om,.mp (eX uR (lE (gu x b z g (row.take k)).q))),lpE l E])
    (λo=>∃e' A u d h f s' j,o=.code (.exit 0) e' s'/\(gu x b z g row).q=g.q++j.map Prod.fst/\(∀p∈(z,w)::(W++j),Cp h p.2 p.1.w)/\oC h f (gu x b z g row).r/\
     dj s' 3 A u (((z,w)::(W++j)).map D9) d h [(oa,[iV z.s,iV z.p]),(o6,[u]),(o5,[.mp om]),(o4,[iV 0]),(o3,[.bool (gu x b z g row).r.isSome]),(o2,[f]),(o9,y.c),(o8,x.c)]
     [(om,.mp (eX uR (lE (gu x b z g row).q))),lpE l E])
    0 (by omega) ⟨F,v,ao,L,rx,[],by simp[iV],by simp[gu],by simpa using hW,hR,by simpa[gu]using hM⟩
    (λk e s r hk ⟨F,v,ao,L,rx,Wk,hL,hq,h9,O,T⟩ I=>?_)
    (λe s r ⟨F,v,ao,L,rx,Wk,hL,hq,h9,O,T⟩ I=>?_)
   .have hl:(k:Int)<row.length:=by omega
    have hp:=br hk (by omega);rw[Io x b z g row hk];obtain⟨gk,_⟩:=FZ (b:=b) hx hy ho hz (row.take k) g (λe he=>by rw[<-J];exact ag1 he) hg;have hlen:=gk.len;generalize gu x b z g (row.take k)=gg at*;have k1:row[k].to<y.nx.length:=hy.to _ (cb hf) _ (by rw[h8];exact cb hk);have D:=T.cL (row[k]).c;obtain⟨ox,ha⟩:∃ox,ox=s.nx:=⟨_,rfl⟩;rw[<-ha]at D;have dx:=(D.k.bm 0 _ _ rfl).1.1;have V:=(D.k.bm 1 _ _ rfl).1.1;have X:=(D.k.bm 8 _ _ rfl).1.1;generalize hb:HS.mk _ _ _ _=S1 at D dx V X;have Y:=w90 hx hz.lp row[k].m;have N:=D.cL [iV row[k].to,iV (bH x z.p row[k].m)];obtain⟨o7,hd⟩:∃o7,o7=S1.nx:=⟨_,rfl⟩;rw[<-hd]at N;have d7:=(N.k.bm 0 _ _ rfl).1.1;have Z:=(N.k.bm 1 _ _ rfl).1.1;generalize h6:HS.mk _ _ _ _=S2 at N d7 Z;have hs:(W++Wk).length<=200000:=by have h1:=ch List.length hq;rw[bZ,bz]at h1;rw[bZ];have h2:=FT hy.n hx.n;omega
    have C:=λ(to:HV) (k2:(bH x z.p row[k].m= -1/\to=.dE)∨(bH x z.p row[k].m≠ -1/\to=.ptr o7 0))=>af8 hz gk hy.n hx.n ht k1 hx hE h9 hs O k2 N
    simp only[Fa.c,Eg.c,Mv.c,iV,aB,aC,bn,Nat.reduceAdd]at dx V X hb Y h6 d7 Z;simp only[ab,ae]at hL;by_cases h7:bH x z.p row[k].m= -1
    .obtain⟨A,u,d,h,f,s',j,h1,h2,h3,h4,h5⟩:=C .dE (.inl ⟨h7,rfl⟩);rw[h7]at Y h6 d7;simp only[Mv.c]at h1;simp[U.Df,U.Jl,hL,hk,hl,<-ha,<-hd,hb,dx,V,X,Y,h6,d7,Z,h1,hp,aq,aA,an]at I;subst I;exact .inl ⟨_,_,rfl,A,u,d,h,f,Wk++j,by simp[hL,iV],by rw[h2,hq];simp,by rw[<-List.append_assoc];exact h3,h4,by rw[<-List.append_assoc];exact h5.tail 2⟩
    obtain⟨A,u,d,h,f,s',j,h1,h2,h3,h4,h5⟩:=C (.ptr o7 0) (.inr ⟨h7,rfl⟩);simp only[Mv.c]at h1;simp[U.Df,U.Jl,hL,hk,hl,<-ha,<-hd,hb,dx,V,X,Y,h6,d7,Z,h7,h1,hp,aq,aA,an]at I;subst I;exact .inl ⟨_,_,rfl,A,u,d,h,f,Wk++j,by simp[hL,iV],by rw[h2,hq];simp,by rw[<-List.append_assoc];exact h3,h4,by rw[<-List.append_assoc];exact h5.tail 2⟩
   rw[fD (aV _)]at hq O T;simp only[ab,ae]at hL;simp[U.Df,hL]at I;subst I;exact⟨by simp,_,F,v,ao,L,rx,s,Wk,rfl,hq,h9,O,T⟩
  clear hj;obtain⟨e',A,u,d,h,f,s',j,rfl,h2,h3,h4,h5⟩:=k0;simp at I;subst I;exact⟨_,A,u,d,h,f,s',j,rfl,h2,h3,h4,h5⟩
 obtain⟨e',A,u,d,h,f,s',j,h1,h2⟩:=hq;exact⟨A,u,d,h,f,s',j,n98 rfl ⟨.normal,_,s',h1,.inl rfl,by simp⟩,h2⟩
end
section
variable{s:HS}{K:de}{Q:List (Ky×List (HV×HV))}
def iJ.toX(h:iJ s K Q){sz:Nat}{t:aP}(A:Sz sz t):dj {h:=av (some (.cells (cP (aD t)) 0 (aD t).length s.nx)) s.nx s.h,nx:=s.nx.succ,gr:=av (some [s.nx]) s.nx s.gr,ty:=s.ty} sz (λk=>k=s.nx) (.sl s.nx 0 t.length sz) t (λ_=>none) [] K (Q.map λp=>(p.1,.mp p.2)):=by
 have D:=Ky.aS s.nx;have I:=cV.alloc (s:=s) (.cells (cP (aD t)) 0 (aD t).length s.nx) [s.nx];have C:=h.frame I;have key:∀(a:Nat) o b,(Q.map λp=>(p.1,Ob.mp p.2))[a]?=some (o,b)->∃f,Q[a]?=some (o,f)/\b=.mp f:=by intro a o b r;rw[fV,lR]at r;obtain⟨⟨O,f⟩,j,m⟩:=r;cases m;exact⟨f,j,rfl⟩
 refine⟨C.k,?_,λ_ _=>rfl,λa o c q e=>?_,λa o b q=>?_,λa b o c c' q r=>?_,λa b o c d q r=>?_⟩
 .refine cu.toO ⟨A,λk J=>by subst J;simp only;omega,.inr ⟨s.nx,cP (aD t),(aD t).length,s.nx,[],rfl,?_,by rw[ct A];exact aV _,by simp,?_,by simp,by simp,rfl⟩⟩ (by simp)
  .simp only;rw[af,au rfl]
  simp only;rw[af,au rfl]
 .have:=(h.k.bm a o c q).1.2.2;rw[e]at this;exact ec _ this
 .obtain⟨f,j,rfl⟩:=key a o b q;obtain⟨m,N⟩:=C.mp a o f j;refine⟨m,N,rfl,λe=>?_⟩;have:=(h.mp a o f j).2;rw[e]at this;exact ec _ this
 .obtain⟨f,j,_⟩:=key a o c q;obtain⟨u,m,_⟩:=key b o c' r;exact h.nd a b o f u j m
 obtain⟨f,j,_⟩:=key b o d r;have m:=(h.k.bm a o c q).1.1;rw[(h.mp b o f j).1]at m;cases m
end
def Ch(x y:Fa)(b:Bool):∀(i:Nat),∀z∈(di x y b i).q,z.w.length<=i
 |0,z,d=>by simp[di]at d;subst d;simp
 |i+1,z,d=>by
  rw[di]at d;cases j:(di x y b i).q[i]?with
  |none=>rw[j]at d;have:=Ch x y b i z d;omega
  |some c=>
   rw[j]at d;simp only at d;have m:=Ch x y b i c (cE j);have key:∀(f:bu) (g:Fq),(∀z∈g.q,z.w.length<=i+1)->∀z∈(gu x b c g f).q,z.w.length<=i+1:=by
    intro f
    induction f with
    |nil=>intro g h;exact h
    |cons e f p=>
     intro g h;refine p (iv x b c g e) λz d=>?_
     unfold iv at d
     split at d
     .split at d<;>exact h z d
     split at d
     .exact h z d
     rcases l5.1 d with d|d
     .exact h z d
     rw[cr.1 d];simp;omega
   exact key _ _ (λz d=>by have:=Ch x y b i z d;omega) z d
section
variable{x y:Fa}{b:Bool}{om o2 o3 o4 o5 o8 o9:Ky}
def Zi(hx:bA x)(hy:bA y)(ho:pU y){N:Nat}(hN:y.nx.length*x.nx.length<=N)(kn:N<=100000){e:En}{s:HS}{o:Out}{F:bM}{v:HV}{ao:aW}{o6:Ky}
  (D:bB e (aj0 o8 o9 o2 o3 o4 o5 o6 b))
  (C:dj s 3 F v ([((⟨0,0,[]⟩:Sq),HV.ah)].map D9) ao [] [(o6,[v]),(o5,[.mp om]),(o4,[iV 0]),(o3,[.bool false]),(o2,[.ah]),(o9,y.c),(o8,x.c)] [(om,.mp (eX uR (lE [⟨0,0,[]⟩])))])
  (k9:ev R (.loop U.ag6) e s=o):
  ∃e' F' X f Y u s' j W',o=.code (.exit 0) e' s'/\bB e' [(2,.ptr o2 0),(3,.ptr o3 0),(4,.ptr o4 0)]/\oC Y u (di x y b N).r/\
   dj s' 3 F' X W' f Y [(j,[X]),(o5,[.mp om]),(o4,[iV 0]),(o3,[.bool (di x y b N).r.isSome]),(o2,[u]),(o9,y.c),(o8,x.c)] [(om,.mp (eX uR (lE (di x y b N).q)))]:=by
 have J:∀(i:Nat) (e:En) (s:HS) (F:bM) (v:HV) (ao:aW) (L:cq) (rx:HV) (o6:Ky),(di x y b i).q.drop i=[]->i<=N->bB e (aj0 o8 o9 o2 o3 o4 o5 o6 b)->oC L rx (di x y b i).r->
   dj s 3 F v [] ao L [(o6,[v]),(o5,[.mp om]),(o4,[iV 0]),(o3,[.bool (di x y b i).r.isSome]),(o2,[rx]),(o9,y.c),(o8,x.c)] [(om,.mp (eX uR (lE (di x y b i).q)))]->
   ∃e',ev R U.ag6 e s=.code (.exit 0) e' s/\bB e' [(2,.ptr o2 0),(3,.ptr o3 0),(4,.ptr o4 0)]/\oC L rx (di x y b N).r/\
    dj s 3 F v [] ao L [(o6,[v]),(o5,[.mp om]),(o4,[iV 0]),(o3,[.bool (di x y b N).r.isSome]),(o2,[rx]),(o9,y.c),(o8,x.c)] [(om,.mp (eX uR (lE (di x y b N).q)))]:=by
  intro i e s F v ao L rx o6 hd hi D hR C;have ka:∀d,di x y b (i+d)=di x y b i:=by
   intro d
   induction d with
   |zero=>rfl
   |succ d ih=>
    rw[show i+(d+1)=(i+d)+1 by omega,di,ih];have:(di x y b i).q[i+d]?=none:=by have:=Tq.1 hd;exact qz (by omega)
    rw[this]
  have hg:=ka (N-i);rw[show i+(N-i)=N by omega]at hg;rw[hg];have hl:=C.q.len (s1:=s);have d6:=(C.k.bm 0 _ _ rfl).1.1;generalize m:ev R U.ag6 e s=r;simp only[aB,aC,bn]at d6 hl;simp only[ab,ae]at D;simp[U.ag6,D,d6,hl]at m;subst m;exact⟨_,rfl,by simp[D],hR,C⟩
 refine eI k9 N
  (λi e s=>∃(F:bM) (v:HV) (ao:aW) (L:cq) (rx:HV) (o6:Ky) (W:List (Sq×HV)),bB e (aj0 o8 o9 o2 o3 o4 o5 o6 b)/\W.map Prod.fst=(di x y b i).q.drop i/\(∀p∈W,Cp L p.2 p.1.w)/\oC L rx (di x y b i).r/\
   dj s 3 F v (W.map D9) ao L [(o6,[v]),(o5,[.mp om]),(o4,[iV 0]),(o3,[.bool (di x y b i).r.isSome]),(o2,[rx]),(o9,y.c),(o8,x.c)] [(om,.mp (eX uR (lE (di x y b i).q)))])
  (λo=>∃e' F' X f Y u s' j W',o=.code (.exit 0) e' s'/\bB e' [(2,.ptr o2 0),(3,.ptr o3 0),(4,.ptr o4 0)]/\oC Y u (di x y b N).r/\
   dj s' 3 F' X W' f Y [(j,[X]),(o5,[.mp om]),(o4,[iV 0]),(o3,[.bool (di x y b N).r.isSome]),(o2,[u]),(o9,y.c),(o8,x.c)] [(om,.mp (eX uR (lE (di x y b N).q)))])
  0 (by omega) ⟨F,v,ao,[],.ah,o6,[(⟨0,0,[]⟩,.ah)],D,rfl,λp hp=>by rw[cr.1 hp];exact .inl ⟨rfl,rfl⟩,rfl,C⟩
  (λi e s r hi ⟨F,v,ao,L,rx,o6,W,D,hW,hH,hR,C⟩ m=>?_)
  (λe s r ⟨F,v,ao,L,rx,o6,W,D,hW,hH,hR,C⟩ m=>?_)
 .cases W with|nil=>obtain⟨e',Z,h2,h3,h4⟩:=J i e s F v ao L rx o6 hW.symm (by omega) D hR C;rw[m]at Z;exact .inr ⟨by rw[Z];simp,e',F,v,ao,L,rx,s,o6,[],Z,h2,h3,h4⟩|cons zw W=>
   obtain⟨z,w⟩:=zw;have hj:=Ce (b:=b) hx hy ho i;have h5:(di x y b i).q[i]?=some z:=by have:=ch (λl:List Sq=>l[0]?) hW;simp only[bX,List.getElem?_cons_zero,kX,Nat.add_zero]at this;exact this.symm
   have gP:W.map Prod.fst=(di x y b i).q.drop (i+1):=by have:=ch List.tail hW;rw[bX,List.tail_cons,List.tail_drop]at this;exact this
   have hk:=cE h5;have hz:=hj.ok.ok z hk;have h6:di x y b (i+1)=gu x b z (di x y b i) (cM y z.s):=by rw[di,h5]
   have ko:=Ch x y b i z hk;have kb:W.length<=(di x y b i).q.length:=by have:=ch List.length gP;rw[bz,Ej]at this;omega
   have hl:=C.q.len (s1:=s);have d6:=(C.k.bm 0 _ _ rfl).1.1;obtain⟨oq,kp,kc,_,hq,_⟩:=kK.Ou (a:=iV z.s) (b:=iV z.p) (c:=w) C.q;obtain⟨s1,oa,h7,hs⟩:=w97 C (z.s,z.p) o8 o9;simp only at h7 hs;simp only[aB,aC,bn]at d6 hl;have q4:∃e1,ev R (.seq U.EU (.cond (.t 23) .skip (.exit 0))) e s=.code .normal e1 s/\bB e1 (aj0 o8 o9 o2 o3 o4 o5 o6 b):=by
    generalize m:ev R (.seq U.EU (.cond (.t 23) .skip (.exit 0))) e s=r;simp only[ab,ae]at D;simp only[bX,aB,bz]at hl;have ht:(0:Int)<(W.length:Int)+1:=by omega
    simp[D,d6,hl,ht]at m;subst m;exact⟨_,rfl,by simp[D]⟩
   obtain⟨e1,q4,h8⟩:=q4;have q5:∃I,ev R U.EV e1 s=.code .normal I s1/\bB I (aj0 o8 o9 o2 o3 o4 o5 o6 b)/\look I 32=some (.fn 54 [] [.ptr o9 0,.ptr oa 0,.ptr o8 0]):=by generalize m:ev R U.EV e1 s=r;simp only[ab,ae]at h8;simp only[iV]at h7 hq;simp[h8,d6,kc,hq,h7]at m;subst m;exact⟨_,rfl,by simp[h8]⟩
   obtain⟨I,q5,O,kd⟩:=q5;have ke:=hs.af5 (.loop 0 none I [33,34] (.seq U.hX U.hY) U.gH);obtain⟨F',X,f,Y,u,s3,W',kg,k0,ki,k1,h9⟩:=w98 (l:=s1.nx) (E:=I) hx hy ho hz hj.ok (by omega) O hH kb hR ke;have k2:=(vR (L:=LU) (prog:=U.prog) (x:=.t 32) (s:=s1) (e:=I) (ps:=[33,34]) (gV:=.seq U.hX U.hY) (body:=U.gH) (e':=I) (UI:=[33,34]) (H4:=.seq U.hX U.hY) (Am:=U.gH) (by rw[CB];exact kd) kg).1 (h9.mp 1 _ _ rfl).1;rw[<-h6]at k0 k1 h9;have T:=dj.kill (Q:=[(om,.mp (eX uR (lE (di x y b (i+1)).q)))]) h9;generalize s3.kill s1.nx=S4 at k2 T;have k3:=(T.k.bm 1 _ _ rfl).1.1;have V:=T.cL [X];have k6:=T.q.one;obtain⟨j,k4⟩:∃j,j=S4.nx:=⟨_,rfl⟩;rw[<-k4]at V;have hb:=(V.k.bm 0 _ _ rfl).1.1;generalize k5:HS.mk _ _ _ _=S5 at V hb;obtain⟨v2,a7,k7,kj⟩:=V.KB (e:=I);have a7:zy (some X) (λ_=>some 1) (λd=>some d) none 3 S5=.v v2 S5:=a7;obtain⟨S7,a8,k8⟩:=kj.put (a:=0) rfl (x:=v2) k7 rfl;simp only[aO]at k8;simp only[aB,aC,bn]at k3 hb k5 a8;have hf:∃e3,ev R (.seq (.seq U.Bf U.Bg) U.Bh) I S4=.code .normal e3 S7/\bB e3 [(1,.aw (lK o8 o9 b)),(2,.ptr o2 0),(3,.ptr o3 0),(4,.ptr o4 0),(5,.ptr o5 0),(6,.ptr j 0)]:=by generalize m:ev R (.seq (.seq U.Bf U.Bg) U.Bh) I S4=r;simp only[ab,ae]at O;simp[O,k3,<-k4,k6,k5,hb,a7,a8,aq,aA]at m;subst m;exact⟨_,rfl,by simp[O]⟩
   obtain⟨e3,hf,kk⟩:=hf;have A:ev R U.ag6 e s=.code .normal e3 S7:=by
    unfold U.ag6;rw[oA q4];have kl:ev R U.EX e1 s=.code .normal I S4:=by unfold U.EX;rw[lu,oA q5];unfold U.Jm;rw[lu,WE,k2];rfl
    rw[oA kl];exact hf
   rw[m]at A;refine .inl ⟨e3,S7,A,F',v2,f,Y,u,j,W++W',kk,?_,λp hp=>ki p (cY _ hp),k1,?_⟩
   .rw[eU,gP,k0,RQ];have:=(aU.1 h5).1;omega
   exact k8.sub (λa=>if a=0 then 0 else a+2) (λa r ha=>by
    cases a with
    |zero=>exact ha
    |succ a=>rw[ar (by omega)];exact ha) (λa b h=>by split at h<;>split at h<;>omega)
 have hlen:=(Ce (b:=b) hx hy ho N).ok.len;have hd:(di x y b N).q.drop N=[]:=Tq.2 (by omega);rw[hd]at hW;have km:W=[]:=by simpa using hW
 subst km;obtain⟨e',Z,h2,h3,h4⟩:=J N e s F v ao L rx o6 hd (aV _) D hR C;rw[m]at Z;exact⟨by rw[Z];simp,e',F,v,ao,L,rx,s,o6,[],Z,h2,h3,h4⟩
end
section
variable{x y:Fa}{b:Bool}{o8 o9:Ky}
def aga(hx:bA x)(hy:bA y)(ho:pU y){N:Nat}(hN:y.nx.length*x.nx.length<=N)(hg:N<=100000){s:HS}(hV:iJ s [(o9,y.c),(o8,x.c)] []):
  ∃F v ak ao L rx s' K Q,R (.call 58 [.agg (lK o8 o9 b)] s)=.val (.cO [rx,.bool (di x y b N).r.isSome,iV 0]) s'/\oC L rx (di x y b N).r/\dj s' 3 F v ak ao L K Q:=by
 have M1:=hV.cL [.ah];obtain⟨o2,I⟩:∃o,o=s.nx:=⟨_,rfl⟩;rw[<-I]at M1;generalize J:HS.mk _ _ _ _=s1 at M1;have M2:=M1.cL [.bool false];obtain⟨o3,O⟩:∃o,o=s1.nx:=⟨_,rfl⟩;rw[<-O]at M2;generalize T:HS.mk _ _ _ _=s2 at M2;have M3:=M2.cL [iV 0];obtain⟨o4,V⟩:∃o,o=s2.nx:=⟨_,rfl⟩;rw[<-V]at M3;generalize X:HS.mk _ _ _ _=s3 at M3;simp only[iV,aB,aC,bn]at J T X;have q0:∃Y,ev R U.ES (bc [.agg (lK o8 o9 b)] 0) s=.code .normal Y s3/\bB Y [(1,.aw (lK o8 o9 b)),(2,.ptr o2 0),(3,.ptr o3 0),(4,.ptr o4 0)]:=by generalize d:ev R U.ES (bc [.agg (lK o8 o9 b)] 0) s=r;simp[<-I,J,<-O,T,<-V,X]at d;subst d;exact⟨_,rfl,by simp⟩
 obtain⟨Y,q0,L0⟩:=q0;have M4:=M3.NA [];obtain⟨om,Z⟩:∃o,o=s3.nx:=⟨_,rfl⟩;rw[<-Z]at M4;have u4:=Tc (K:=KS) (f:=uR) (l:=[]) KW KV (M4.mp 0 _ _ rfl).1 (0,0) (.bool true);generalize hj:HS.mk _ _ _ _=s4 at M4 u4;have M5:=M4.KJ (eX uR (j5 (0,0) (.bool true) []));generalize hp:HS.aJ _ _ _=s5 at M5 u4;have M6:=M5.cL [.mp om];obtain⟨o5,h1⟩:∃o,o=s5.nx:=⟨_,rfl⟩;rw[<-h1]at M6;generalize h2:HS.mk _ _ _ _=u at M6;have p:=w99 (0,0) (by simp) (by simp);simp only[iV,aB,aC,bn]at h2 p;have p:∀s,R (.call 56 [.agg [.int .i64 0,.int .i64 0]] s)=.val (uR (0,0)) s:=p;have q1:∃e1,ev R U.ET Y s3=.code .normal e1 u/\bB e1 [(1,.aw (lK o8 o9 b)),(2,.ptr o2 0),(3,.ptr o3 0),(4,.ptr o4 0),(5,.ptr o5 0)]:=by generalize d:ev R U.ET Y s3=r;simp only[ab,ae]at L0;simp[L0,<-Z,hj,p,u4,<-h1,h2,aq,aA]at d;subst d;exact⟨_,rfl,by simp[L0]⟩
 obtain⟨e1,q1,L1⟩:=q1;have M7:=M6.toX (sz:=3) (t:=[D9 (⟨0,0,[]⟩,.ah)]) (Sz.cons rfl Sz.nil);simp only[cj,gS,qE,bX,lO]at M7;obtain⟨D,h3⟩:∃o,o=u.nx:=⟨_,rfl⟩;rw[<-h3]at M7;generalize h4:HS.mk _ _ _ _=s7 at M7;have M8:=M7.cL [.sl D 0 1 3];obtain⟨o6,h5⟩:∃o,o=s7.nx:=⟨_,rfl⟩;rw[<-h5]at M8;generalize h6:HS.mk _ _ _ _=s8 at M8;simp only[D9,iV,aB,aC,bn,Nat.reduceAdd]at h4 h6;have q2:∃e2,ev R U.Bd e1 u=.code .normal e2 s8/\bB e2 [(1,.aw (lK o8 o9 b)),(2,.ptr o2 0),(3,.ptr o3 0),(4,.ptr o4 0),(5,.ptr o5 0),(6,.ptr o6 0)]:=by generalize d:ev R U.Bd e1 u=r;simp only[ab,ae]at L1;have h7:HS.mk (av (some (.cells (cP [iV 0,iV 0,HV.ah]) 0 3 D)) D u.h) D.succ (av (some [D]) D u.gr) u.ty=s7:=h4;simp[L1,<-h3,h7,<-h5,h6,aq,aA]at d;subst d;exact⟨_,rfl,by simp[L1]⟩
 obtain⟨e2,q2,L2⟩:=q2;generalize h8:ev R (.loop U.ag6) e2 s8=o;obtain⟨e3,F,v,ao,L,j,s9,hq,W',rfl,L3,hR,M9⟩:=Zi (b:=b) hx hy ho hN hg L2 M8 h8;have hl:cellsOf j=some [j]:=by
  cases d:(di x y b N).r with
  |none=>rw[d]at hR;rw[show j=.ah from hR];rfl
  |some w=>
   rw[d]at hR;rcases hR with⟨h,_⟩|⟨i,h⟩
   .rw[h];rfl
   exact(M9.k.mem.own i _ _ _ h).one
 have c2:=(M9.k.bm 4 _ _ rfl).1.1;have c3:=(M9.k.bm 3 _ _ rfl).1.1;obtain⟨hs,h9,A⟩:=M9.put (a:=4) rfl (x:=j) hl rfl;have ha:=(A.k.bm 3 _ _ rfl).1.1;obtain⟨ht,hb,hd⟩:=A.put (a:=3) rfl (x:=.bool (di x y b N).r.isSome) rfl rfl;obtain⟨q,hf,m⟩:=hd.put (a:=2) rfl (x:=iV 0) rfl rfl;simp only[bJ,aO]at A hd m;have f2:=(m.k.bm 4 _ _ rfl).1.1;have f3:=(m.k.bm 3 _ _ rfl).1.1;have f4:=(m.k.bm 2 _ _ rfl).1.1;simp only[iV,aB,aC,bn]at c2 c3 ha h9 hb hf f2 f3 f4;have C:∃e4,ev R U.Bi e3 s9=.code .normal e4 q/\bB e4 [(2,.ptr o2 0),(3,.ptr o3 0),(4,.ptr o4 0)]:=by generalize d:ev R U.Bi e3 s9=r;simp only[ab,ae]at L3;simp[L3,c2,c3,ha,h9,hb,hf]at d;subst d;exact⟨_,rfl,by simp[L3]⟩
 obtain⟨e4,C,L4⟩:=C;have hE:ev R U.PQ (bc [.agg (lK o8 o9 b)] 0) s=.code .ret e4 q:=by
  unfold U.PQ;rw[oA q0,oA q1];have hk:ev R (.seq U.Bd U.EY) e1 u=.code .normal e3 s9:=by rw[oA q2];unfold U.EY;rw[lu,h8];rfl
  rw[oA hk,oA C];rfl
 simp only[ab,ae]at L4;exact⟨F,v,W',ao,L,j,q,_,_,acT rfl ⟨.ret,e4,q,hE,.inr rfl,by simp[L4,f2,f3,f4,iV]⟩,hR,m⟩
end
def oD(x y:Fa)(b:Bool):Option bE:=(di x y b (y.nx.length*x.nx.length)).r
def w71{ax ay:Ar}{x y:Fa}(T:bA x)(V:bA y)(X:pU y)(Y:y.nx.length*x.nx.length<=100000)(b:Bool)(s:HS):
  R (.call 27 [.agg (ib ax x),.agg (ib ay y),.bool b] s)=.val (.cO [.psl (((oD x y b).getD []).map Mv.c),.bool (oD x y b).isSome]) s:=by
 refine q71 ?_;obtain⟨u,f,A⟩:∃u,({h:=av (some (.cells (cP [.ah,.ah]) 0 2 s0.nx.succ)) s0.nx.succ (av (some (.cells (cP [.ah,.ah]) 0 2 s0.nx)) s0.nx s0.h),nx:=s0.nx.succ.succ,gr:=av (some [s0.nx.succ]) s0.nx.succ (av (some [s0.nx]) s0.nx s0.gr),ty:=s0.ty}:HS)=u/\iJ u [(s0.nx.succ,[.ah,.ah]),(s0.nx,[.ah,.ah])] []:=
  ⟨_,rfl,((iJ.start s0).cL [.ah,.ah]).cL [.ah,.ah]⟩
 obtain⟨S3,C,j⟩:=A.put (a:=1) rfl (x:=.agg x.c) (new:=x.c) rfl rfl;have m:=fZ (l:=x.c) C rfl rfl;simp only[aO,bJ]at j;obtain⟨S4,D,p⟩:=j.put (a:=0) rfl (x:=.agg y.c) (new:=y.c) rfl rfl;have I:=fZ (l:=y.c) D rfl rfl;simp only[aO]at p;obtain⟨F,v,ak,ao,L,J,s',K,Q,d,q,Z⟩:=aga (b:=b) T V X (aV _) Y p;simp only[iV]at d;simp only[Fa.c,aB,aC,bn,Nat.reduceAdd]at C m D I;have N:=ch HS.h f;simp only at N;rw[<-N]at m;simp[U.b71,f,C,D,d];unfold oD;cases O:(di x y b (y.nx.length*x.nx.length)).r with
 |none=>rw[O]at q;rw[show J=.ah from q];exact aY (.cO (.cons .ah (.data (by simp))))
 |some w=>
  rw[O]at q;rcases q with⟨h,h'⟩|⟨i,h⟩
  .rw[h,h'];exact aY (.cO (.cons .ah (.data (by simp))))
  exact aY (.cO (.cons ((Z.k.mem.own i _ _ _ h).vw (n:=13) (cD (λx=>by simp) _)) (.data (by simp))))
def w70{a:Ar}{x y:Fa}(ok:fz a)(T:∀s,R (.call 51 [.agg (ib a x)] s)=.val (iV 0) s)(V:∀s,R (.call 51 [.agg (ib a y)] s)=.val (iV 0) s)(s:HS):R (.call 26 [.agg (ib a x),.agg (ib a y)] s)=.val (iV 0) s:=by
 refine q70 ?_;have j:=w85 a a ok;rw[dq rfl]at j;have J:aI s0 (λ_=>none) [] []:=⟨dV.start (by simp),by simp,by simp⟩;obtain⟨c1,m⟩:=J.DI (sz:=6) (t:=[ib a x,ib a y]) (Sz.cons rfl (Sz.cons rfl Sz.nil));generalize A:HS.mk _ _ _ _=S1 at m;simp only[ib,cj,gS,qE,bq,bo,aB,aC,bn,Nat.reduceAdd]at A m;simp only[ib,iV]at T V;simp only[Ar.c]at j;simp[U.b70,ib,A];generalize ho:bO R (.loop U.Da) _ _=o;have hq:∃D s',o=.code (.exit 0) D s'/\look D 2=some (.aw (ib a x))/\look D 3=some (.aw (ib a y)):=by
  revert o;refine ajX 2
   (λi e s=>∃ao K,bB e [(2,.aw (ib a x)),(3,.aw (ib a y)),(10,.sl s0.nx 0 2 6),(11,iV 2),(12,iV i)]/\aI s ao [(.sl s0.nx 0 2 6,6,[ib a x,ib a y])] K)
   0 (by omega) ⟨c1,[],by simp[ib,iV],by simpa[ib]using m⟩ ?_ ?_
  .rintro i e s r X ⟨ao,K,h,I⟩ p
   have hO:=I.mem.own 0 _ _ _ rfl;obtain⟨o1,Y,g2,g3,u⟩:=hO.at (k:=.i64) i (by simpa using X);have C:o1=s0.nx:=by simp[X]at Y;exact Y.symm
   simp only[ab,ae,ib]at h;have N:bT .i64 1=1:=rfl;have O:bT .i64 2=2:=rfl;rcases(by omega:i=0∨i=1)with rfl|rfl
   .have d:=I.cL (ib a x);have q:=(d.bm 0 _ _ rfl).1.1;generalize f:HS.mk _ _ _ _=S2 at d q;simp only[ib,tV,aB,aC,bn,Nat.reduceAdd,Nat.zero_mul]at f q u;rw[C]at u;simp[U.Da,h,u,f,q,T,N,aq,aA,an]at p;subst p;exact .inl ⟨_,_,rfl,ao,_,by simp[h,iV,ib],d⟩
   have d:=I.cL (ib a y);have q:=(d.bm 0 _ _ rfl).1.1;generalize f:HS.mk _ _ _ _=S2 at d q;simp only[ib,tV,List.getElem_cons_succ,aB,aC,bn,Nat.reduceAdd,Nat.one_mul]at f q u;rw[C]at u;simp[U.Da,h,u,f,q,V,O,aq,aA,an]at p;subst p;exact .inl ⟨_,_,rfl,ao,_,by simp[h,iV,ib],d⟩
  rintro e s r ⟨ao,K,h,I⟩ p
  simp only[ab,ae]at h;simp[U.Da,h]at p;subst p;exact⟨by simp,_,_,rfl,by simp[h]⟩
 clear ho;obtain⟨D,s',rfl,Z,h3⟩:=hq;simp only[ib]at Z h3;simp[Z,h3,j,aa]
def w33{a:Ar}{x y:Fa}(ok:fz a)(m:bA x)(p:bA y)(q:pU y)(r:y.nx.length*x.nx.length<=100000)(d:∀s,R (.call 51 [.agg (ib a x)] s)=.val (iV 0) s)(f:∀s,R (.call 51 [.agg (ib a y)] s)=.val (iV 0) s)(b:Bool)(s:HS):
  R (.call 7 [.agg (ib a x),.agg (ib a y),.bool b] s)=.val (.cO [.bool (!(oD x y b).isSome),iV 0]) s:=by
 refine q33 ?_;have h:=w70 ok d f;have j:=w71 (ax:=a) (ay:=a) m p q r b;simp only[ib,iV]at h j;simp[U.b33,ib,h,j,aa]
structure Fst(x y:Fa)(b:Bool)(i:Nat)(g:Fq):Prop where
 NU:∀(j k:Nat) (z z':Sq),j<=k->g.q[j]?=some z->g.q[k]?=some z'->z.w.length<=z'.w.length
 top:∀(z0:Sq),g.q[i]?=some z0->∀z∈g.q,z.w.length<=z0.w.length+1
 nx:∀z∈g.q.take i,∀e∈cM y z.s,bH x z.p e.m≠ -1->∃z'∈g.q,z'.k=(e.to,(bH x z.p e.m).toNat)/\z'.w.length<=z.w.length+1
 so:∀w,g.r=some w->∃(j:Nat) (z:Sq),j<i/\g.q[j]?=some z/\w.length=z.w.length+1/\∀(j':Nat) (z':Sq),j'<j->g.q[j']?=some z'->∀e∈cM y z'.s,¬UW x b z' e
section
variable{x y:Fa}{b:Bool}{z:Sq}
structure aio(n:Nat)(g:Fq):Prop where
 NU:∀(j k:Nat) (z z':Sq),j<=k->g.q[j]?=some z->g.q[k]?=some z'->z.w.length<=z'.w.length
 top:∀z∈g.q,z.w.length<=n+1
def aip{g:Fq}(h:aio z.w.length g)(e:Eg):aio z.w.length (iv x b z g e)/\(bH x z.p e.m≠ -1->∃r∈(iv x b z g e).q,r.k=(e.to,(bH x z.p e.m).toNat)/\r.w.length<=z.w.length+1):=by
 unfold iv
 split
 .rename_i A;refine⟨?_,λJ=>(J A).elim⟩
  split<;>exact⟨h.NU,h.top⟩
 split
 .rename_i C;refine⟨h,λ_=>?_⟩;obtain⟨r,A,N⟩:=cU.1 C;exact⟨r,A,N,h.top r A⟩
 refine⟨⟨λj k u O D d f=>?_,λu d=>?_⟩,λ_=>⟨_,A0 _ (cr.2 rfl),rfl,by simp⟩⟩
 .simp only at d f;rw[JM]at d f
  split at f
  .rename_i T;rw[au (by omega)]at d;exact h.NU j k u O D d f
  have I:=cE f;rw[cr.1 I];simp only[bZ,dB]
  split at d
  .exact h.top u (cE d)
  rw[cr.1 (cE d)];simp
 rcases l5.1 d with d|d
 .exact h.top u d
 rw[cr.1 d];simp
def ahQ:∀(es:bu) (g:Fq),aio z.w.length g->aio z.w.length (gu x b z g es)/\∀e∈es,bH x z.p e.m≠ -1->∃f∈(gu x b z g es).q,f.k=(e.to,(bH x z.p e.m).toNat)/\f.w.length<=z.w.length+1
 |[],g,h=>⟨h,by simp⟩
 |e::es,g,h=>by
  obtain⟨r,u⟩:=aip (x:=x) (b:=b) h e;obtain⟨A,C⟩:=ahQ es _ r;have D:∀(es:bu) (g:Fq),g.q<+:(gu x b z g es).q:=by
   intro es
   induction es with|nil=>intro g;exact rr _|cons e es I=>intro g;exact(NC g e).trans (I _)
  refine⟨A,λJ d j=>?_⟩;rcases bk.1 d with rfl|d
  .obtain⟨f,N,O,T⟩:=u j;exact⟨f,(D es _).subset N,O,T⟩
  exact C J d j
end
def ahH{x:Fa}{b:Bool}{z:Sq}{w:bE}:∀(es:bu) (g:Fq),g.r=some w->(gu x b z g es).r=some w
 |[],_,h=>h
 |_::es,_,h=>ahH es _ (ah2 h)
def ahN{x y:Fa}{b:Bool}(hx:bA x)(hy:bA y)(ho:pU y):∀i,Fst x y b i (di x y b i)
 |0=>⟨λj k z z' _ A C=>by
   have:=cE A;simp only[di,cr]at this;rw[this];simp,λz0 h0 z D=>by simp only[di,cr]at D;subst D;simp,by simp,λw h=>by cases h⟩
 |i+1=>by
  have J:=ahN (b:=b) hx hy ho i;have hO:=Ce (b:=b) hx hy ho i;rw[di];cases D:(di x y b i).q[i]?with
  |none=>
   have hl:=Dz.1 D;simp only;have T:(di x y b i).q.take (i+1)=(di x y b i).q.take i:=by rw[fD (by omega),fD hl]
   refine⟨J.NU,λz0 h0=>?_,by rw[T];exact J.nx,λw Z=>?_⟩
   .have A:=qz (l:=(di x y b i).q) (i:=i+1) (by omega);rw[A]at h0;cases h0
   obtain⟨j,z,A,C⟩:=J.so w Z;exact⟨j,z,by omega,C⟩
  |some z=>
   obtain⟨hl,hg⟩:=aU.1 D;simp only;obtain⟨k1,k2⟩:=ahQ (x:=x) (b:=b) (z:=z) (cM y z.s) (di x y b i) ⟨J.NU,J.top z D⟩;obtain⟨_,⟨t,T⟩,_,g4,g5⟩:=FZ (b:=b) hx hy ho (hO.ok.ok z (cE D)) (cM y z.s) (di x y b i) (λe h=>h) hO.ok;have h5:=λw h=>ahH (x:=x) (b:=b) (z:=z) (w:=w) (cM y z.s) (di x y b i) h
   generalize gu x b z (di x y b i) (cM y z.s)=g' at*;have h6:g'.q.take (i+1)=(di x y b i).q.take i++[z]:=by rw[<-T,Al (by omega),eW hl,hg]
   have d:∀(j:Nat) u,(di x y b i).q[j]?=some u->g'.q[j]?=some u:=λj u f=>by rw[<-T,dD (aU.1 f).1];exact f
   have m:∀(j:Nat) u,j<=i->g'.q[j]?=some u->(di x y b i).q[j]?=some u:=λj u hj f=>by rw[<-T,dD (by omega)]at f;exact f
   refine⟨k1.NU,λz0 h0 u f=>?_,λu f=>?_,λw Z=>?_⟩
   .have A:=k1.top u f;have C:=k1.NU i (i+1) z z0 (by omega) (d i z D) h0;omega
   .rw[h6]at f;rcases l5.1 f with f|f
    .intro e he hs;obtain⟨z',A,C⟩:=J.nx u f e he hs;exact⟨z',by rw[<-T];exact ph _ A,C⟩
    rw[cr.1 f];exact k2
   rcases g5 w Z with h'|⟨e,A,C,V⟩
   .obtain⟨j,u,A,C,V,h4⟩:=J.so w h';exact⟨j,u,by omega,d j u C,V,λN O I p=>h4 N O I (m N O (by omega) p)⟩
   by_cases hr:(di x y b i).r=none
   .refine⟨i,z,by omega,d i z D,by rw[V];simp,λN O I p=>?_⟩;have h7:=m N O (by omega) p;exact hO.no hr O (by rw[List.mem_take_iff_getElem];obtain⟨q1,q2⟩:=aU.1 h7;exact⟨N,by omega,q2⟩)
   obtain⟨w0,X⟩:=Option.ne_none_iff_exists'.1 hr;obtain⟨j,u,A,C,V,h4⟩:=J.so w0 X;have Y:=h5 w0 X;rw[Z]at Y;cases Y;exact⟨j,u,by omega,d j u C,V,λN O I p=>h4 N O I (m N O (by omega) p)⟩
def ahx{x y:Fa}{b:Bool}(d:bA x)(f:bA y)(u:pU y){N:Nat}(T:y.nx.length*x.nx.length<=N):∀(n:Nat) (w:bE) (s p:Nat),w.length=n->UX x y w s p->∃z∈(di x y b N).q,z.k=(s,p)/\z.w.length<=n
 |0,w,s,p,A,h=>by have Y:=Cf (b:=b) d f u T;have:w=[]:=sf.1 A;subst this;obtain⟨D,I⟩:=h;simp only[fm,gj,tS]at D I;exact⟨_,cE Y.ok.f0,by rw[show s=0 by omega,show p=0 by omega],aV _⟩
 |n+1,w,s,p,A,h=>by
  have Z:=ahN (b:=b) d f u N;have hlen:=(Ce (b:=b) d f u N).ok.len;rcases sv w with C|⟨v,m,C⟩
  .subst C;simp at A
  rw[tW]at C;subst C;obtain⟨D,I⟩:=h;obtain⟨s',_,k1,k2⟩:=sN f D;obtain⟨p',_,k3,V⟩:=sN d I;obtain⟨z,hz,j,h3⟩:=ahx d f u T n v s' p' (by simpa using A) ⟨k1,k3⟩;simp only[Sq.k,gj]at j;obtain⟨rfl,rfl⟩:=j;obtain⟨e,J,r,O⟩:=D1 k2;obtain⟨z',g1,X,g3⟩:=Z.nx z (by rw[fD (by omega)];exact hz) e J (by rw[r,V];omega);rw[r,V,O,gD]at X;exact⟨z',g1,X,by omega⟩
def aiq{x y:Fa}{b:Bool}(q:bA x)(r:bA y)(u:pU y){w:bE}(D:oD x y b=some w){v:bE}{s p:Nat}(I:UX x y v s p){e:Eg}(J:e∈cM y s)(N:bH x p e.m= -1/\zD e.m=b):w.length<=v.length+1:=by
 have A:=ahN (b:=b) q r u (y.nx.length*x.nx.length);obtain⟨j,z,X,O,Y,T⟩:=A.so w D;obtain⟨Z,V,C,k3⟩:=ahx (b:=b) q r u (aV _) _ v s p rfl I;simp only[Sq.k,gj]at C;obtain⟨rfl,rfl⟩:=C;obtain⟨f,d,rfl⟩:=eO.1 V;have h:j<=f:=by apply A3;intro hc;exact T f _ (by omega) (aX d) e J N
 have:=A.NU j f z _ h O (aX d);omega
structure Rq where
 t:List (Nat×Nat)
 m:List (Nat×Nat)
section
variable(x y:Fa)
def F0(k:Nat×Nat):Prop:=(y.fi.getD k.1 false=true/\x.fi.getD k.2 false=false)∨∃e∈cM y k.1,bH x k.2 e.m= -1
end
def Il(x y:Fa)(k:Nat×Nat):Prop:=k.1<y.nx.length/\k.2<x.nx.length/\∃w,UX x y w k.1 k.2
structure nX(x y:Fa)(g:Rq):Prop where
 rt:∀k∈g.t,Il x y k
 rm:∀k∈g.m,Il x y k
 nd:g.m.Nodup
 f0:(0,0)∈g.t∨(0,0)∈g.m
 nx:∀k∈g.m,∀e∈cM y k.1,∃q:Nat,bH x k.2 e.m=(q:Int)/\((e.to,q)∈g.t∨(e.to,q)∈g.m)
 gd:∀k∈g.m,¬F0 x y k
section
variable{x y:Fa}{g:Rq}
def nX.len(h:nX x y g):g.m.length<=y.nx.length*x.nx.length:=by
 have d:g.m.length<=((List.range y.nx.length).flatMap λa=>(List.range x.nx.length).map λc=>(a,c)).length:=by refine Tm h.nd (λk f=>?_);obtain⟨j,p,_⟩:=h.rm k f;simp only[qF,fX,cU];exact⟨k.1,j,k.2,p,rfl⟩
 have q:∀n m:Nat,((List.range n).flatMap λa=>(List.range m).map λc=>(a,c)).length=n*m:=by
  intro n m
  induction n with|zero=>simp|succ n r=>rw[yl,uL,bZ,r];simp[iR]
 rwa[q]at d
def nX.start(d:bA x)(f:bA y):nX x y ⟨[(0,0)],[]⟩:=
 ⟨λk h=>by rw[cr.1 h];exact⟨f.pos,d.pos,[],rfl,rfl⟩,by simp,by simp,.inl (by simp),by simp,by simp⟩
def nX.skip{t:List (Nat×Nat)}{k:Nat×Nat}(h:nX x y ⟨t++[k],g.m⟩)(j:k∈g.m):nX x y ⟨t,g.m⟩:=by
 have key:∀f,f∈t++[k]∨f∈g.m->f∈t∨f∈g.m:=by
  intro f d;rcases d with d|d
  .rcases l5.1 d with d|d
   .exact .inl d
   rw[cr.1 d];exact .inr j
  exact .inr d
 exact⟨λk j=>h.rt k (ph _ j),h.rm,h.nd,key _ h.f0,λf p e r=>by
  obtain⟨q,u,A⟩:=h.nx f p e r;exact⟨q,u,key _ A⟩,h.gd⟩
def KT(I:bA x)(J:bA y)(T:pU y){k:Nat×Nat}(V:Il x y k){e:Eg}(j:e∈cM y k.1){q:Nat}(p:bH x k.2 e.m=(q:Int)):Il x y (e.to,q):=by
 obtain⟨N,X,w,A,C⟩:=V;have D:e.to<y.nx.length:=by have Y:cM y k.1=y.nx[k.1]:=getD_at N _;rw[Y]at j;exact J.to _ (cb N) e j
 have Z:q<x.nx.length:=by
  rcases fj I X e.m with h|⟨q',h,h'⟩
  .rw[p]at h;omega
  rw[p]at h;omega
 have O:∀(u:Fa) (d:bA u) (q r:Nat),fm u 0 0 w=((q:Int),(w.length:Int))->bH u q e.m=(r:Int)->fm u 0 0 (w++[e.m])=((r:Int),((w++[e.m]).length:Int)):=by intro u d q r A C;have f:=pT d e.m w 0 0 q _ d.pos A;rw[C]at f;obtain⟨q',_,h5⟩:=ui d (w++[e.m]) 0 0 d.pos (by rw[f];omega);rw[h5]at f ⊢;simp only at f;rw[f,bn]
 exact⟨D,Z,w++[e.m],O y J _ _ A (T _ e j),O x I _ _ C p⟩
def nX.next(D:bA x)(I:bA y)(J:pU y){t:List (Nat×Nat)}{k:Nat×Nat}(h:nX x y ⟨t++[k],g.m⟩)(N:k ∉ g.m)(C:¬F0 x y k):nX x y ⟨t++(cM y k.1).map (λe=>(e.to,(bH x k.2 e.m).toNat)),g.m++[k]⟩:=by
 have r:=h.rt k (by simp);have u:∀e∈cM y k.1,∃q:Nat,bH x k.2 e.m=(q:Int):=λe p=>by
  rcases fj D r.2.1 e.m with f|⟨O,f,_⟩
  .exact(C (.inr ⟨e,p,f⟩)).elim
  exact⟨O,f⟩
 have key:∀j,j∈t++[k]∨j∈g.m->j∈t++(cM y k.1).map (λe=>(e.to,(bH x k.2 e.m).toNat))∨j∈g.m++[k]:=by
  intro j f;rcases f with f|f
  .rcases l5.1 f with f|f
   .exact .inl (ph _ f)
   exact .inr (A0 _ f)
  exact .inr (ph _ f)
 refine⟨λj d=>?_,λj d=>?_,?_,key _ h.f0,λj d e p=>?_,λj d=>?_⟩
 .rcases l5.1 d with d|d
  .exact h.rt j (ph _ d)
  obtain⟨e,p,rfl⟩:=cU.1 d;obtain⟨q,A⟩:=u e p;rw[A,gD];exact KT D I J r p A
 .rcases l5.1 d with d|d
  .exact h.rm j d
  rw[cr.1 d];exact r
 .refine tB.2 ⟨h.nd,by simp,λa T b C e=>?_⟩;rw[cr.1 C]at e;exact N (by rw[<-e];exact T)
 .rcases l5.1 d with d|d
  .obtain⟨q,V,X⟩:=h.nx j d e p;exact⟨q,V,key _ X⟩
  rw[cr.1 d]at p ⊢;obtain⟨q,A⟩:=u e p;exact⟨q,A,.inl (A0 _ (cU.2 ⟨e,p,by rw[A,gD]⟩))⟩
 rcases l5.1 d with d|d
 .exact h.gd j d
 rw[cr.1 d];exact C
def nX.fin(J:bA x)(N:bA y){m:List (Nat×Nat)}(h:nX x y ⟨[],m⟩):∀(n:Nat) (w:bE) (s p:Nat),w.length=n->UX x y w s p->(s,p)∈m
 |0,w,s,p,d,j=>by
  have:w=[]:=sf.1 d;subst this;obtain⟨r,u⟩:=j;simp only[fm,gj]at r u;rw[show s=0 by omega,show p=0 by omega];rcases h.f0 with A|A
  .simp at A
  exact A
 |n+1,w,s,p,d,j=>by
  rcases sv w with f|⟨v,m',f⟩
  .subst f;simp at d
  rw[tW]at f;subst f;obtain⟨r,u⟩:=j;obtain⟨s',_,T,V⟩:=sN N r;obtain⟨X,_,Y,Z⟩:=sN J u;have ih:=nX.fin J N h n v s' X (by simpa using d) ⟨T,Y⟩;obtain⟨e,C,D,I⟩:=D1 V;obtain⟨q,O,g2⟩:=h.nx _ ih e C;simp only at O;rw[D,Z]at O;have hq:p=q:=by omega
  rw[I,<-hq]at g2;rcases g2 with g2|g2
  .simp at g2
  exact g2
end
def cS.cut{s:HS}{ao:aW}{L:cq}{K:de}{o:Ky}{es:List (HV×HV)}(h:cS s ao L K o es)(i:Nat){v:HV}{sz:Nat}{ak:aP}(f:L[i]?=some (v,sz,ak))(n:Nat)(j:n<=ak.length)(h0:ak≠ []):∃d,v=.sl d 0 ak.length sz/\cS s ao (L.set i (.sl d 0 n sz,sz,ak.take n)) K o es:=by obtain⟨d,m,p⟩:=h.k.cut i f n j h0;exact⟨d,m,p,h.mp,h.lt,h.co⟩
section
variable{x y:Fa}{e:En}{s:HS}{o:Out}{om o7 o8 ad:Ky}
end
def Pn{N f tl h i B:Nat}(m:f+1<=N)(j:(N-f)*6001+(tl+1)+i<=B)(p:h<=6000):(N-(f+1))*6001+(tl+h)+(i+1)<=B:=by obtain⟨d,rfl⟩:∃d,N=f+1+d:=⟨N-(f+1),by omega⟩;rw[show f+1+d-f=d+1 by omega,oR]at j;rw[show f+1+d-(f+1)=d by omega];rw[Nat.one_mul]at j;generalize d*6001=X at*;omega
section
variable{x y:Fa}{e:En}{s:HS}{o:Out}{om o7 o8:Ky}
end
def cS.Tu{s:HS}{ao:aW}{L:cq}{K:de}{o:Ky}{es:List (HV×HV)}(h:cS s ao L K o es){sz:Nat}{t:aP}(q:Sz sz t):∃d,cS {h:=av (some (.cells (cP (aD t)) 0 (aD t).length s.nx)) s.nx s.h,nx:=s.nx.succ,gr:=av (some [s.nx]) s.nx s.gr,ty:=s.ty} d (L++[(.sl s.nx 0 t.length sz,sz,t)]) K o es:=by
 classical
 have A:=Ky.aS s.nx;have r:=h.lt;have f:=cV.alloc (s:=s) (.cells (cP (aD t)) 0 (aD t).length s.nx) [s.nx];have j:¬o=s.nx:=λe=>by rw[e]at r;omega
 refine⟨_,⟨⟨h.k.mem.join f (F:=λk=>k=s.nx) ⟨q,λk m=>by subst m;simp only;omega,.inr ⟨s.nx,cP (aD t),(aD t).length,s.nx,[],rfl,?_,by rw[ct q];exact aV _,by simp,?_,by simp,by simp,rfl⟩⟩ (λk m=>by subst m;exact aV _),λa p c C=>?_,h.k.nd⟩,?_,by simp only;omega,?_⟩⟩
 .simp only;rw[af,au rfl]
 .simp only;rw[af,au rfl]
 .obtain⟨u,D⟩:=h.k.bm a p c C;have I:¬p=s.nx:=λe=>by have:=u.2.2;rw[e]at this;omega
  refine⟨u.frame f (λh=>h),?_⟩;simp only[I,bD];exact D
 .rw[f.2.2.1 o r (λh=>h)];exact h.mp
 simp only[j,bD];exact h.co
def DP.mono{l:jT}{ak:aP}{D d:Nat}(h:DP l ak D)(f:D<=d):DP l ak d:=⟨h.len,h.row,λx j=>fu (h.op x j) f⟩
def agb(a:Ar)(ok:fz a)(hc:aQ a=0)(x:Fa)(hx:bA x){N D:Nat}(hN:Kr a x N D){i:Nat}(hi:i<N){g:Lg}(hg:ft a x i=some g){e:En}{s:HS}{r:Out}{v4 v5 v6 v7 v8:HV}{ao:aW}{E6 ak:aP}
  (hL:bB e [(2,.aw a.c),(3,.aw x.c),(4,v4),(5,v5),(6,v6),(7,v7),(8,v8),(9,iV i)])
  (hM:aI s ao [(v6,1,E6),(v7,1,g.kn.map bC),(v8,5,ak)] [])(hE:Ih g.op E6)(hS:DP g.l ak D)(p:i<g.l.length)(V:bO R U.lW e s=r)(j:B6 x g g.l[i]=false)(h8:(g.l[i]).st<x.nx.length):
  ((∃k,∃h:k<x.nx[(g.l[i]).st].length,ir a (g.l[i]).mn x.nx[(g.l[i]).st][k].m=false)/\∃e' s',r=.code .ret e' s'/\look e' 4=some .ah/\look e' 5=some (.bool false))∨
  ((∀k,(h:k<x.nx[(g.l[i]).st].length)->ir a (g.l[i]).mn x.nx[(g.l[i]).st][k].m=true)/\∃(e':En) (s':HS),r=.code .normal e' s'/\∃(ao:aW) (v6 v7 v8:HV) (E6 ak:aP),bB e' [(2,.aw a.c),(3,.aw x.c),(4,v4),(5,v5),(6,v6),(7,v7),(8,v8),(9,iV (i+1:Nat))]/\
   aI s' ao [(v6,1,E6),(v7,1,(g.kn.set (g.l[i]).st true).map bC),(v8,5,ak)] []/\Ih (g.op.set (g.l[i]).st (g.l[i]).mn.op) E6/\DP (jx g.l[i] g.l x.nx[(g.l[i]).st]) ak (D+1)):=by
 obtain⟨hs,ht,h9,ki,hy,X⟩:=hN.st i g hg;have hD:=hN.d;have hn:=hx.n;have kj:=hx.nf;have kd:=hx.pos;have hle:=hN.le i g g.l[i] hg (aX p);generalize J:g.l[i]=f at*;have ha:f∈g.l:=by rw[<-J];exact cb p
 have u:=h8;have hz:=(hs f ha).2;rw[getD_at u]at hle;have hB:=hle;obtain⟨o6,rfl⟩:=(hM.mem.own 0 _ _ _ rfl).gP (by intro h;have:=hE.len;rw[h]at this;simp at this;omega);obtain⟨o7,rfl⟩:=(hM.mem.own 1 _ _ _ rfl).gP (by intro h;have:=ch List.length h;simp at this;rw[this]at X;simp at X;omega);obtain⟨o8,rfl⟩:=(hM.mem.own 2 _ _ _ rfl).gP (by intro h;have h1:=hS.len;rw[h]at h1;exact h9 (ja h1.symm));rw[hE.len,hy,bz,X,hS.len]at hL hM;obtain⟨vo,q,O⟩:=(hS.row i p).ex;rw[J]at q O;obtain⟨ob,g1,_,_,g4⟩:=(hM.mem.own 2 _ _ _ rfl).at (k:=.i64) i (by rw[hS.len];exact p);have k0:ob=o8:=by simp[p]at g1;exact g1.symm
 subst k0;rw[O]at g4;have A:=hM.cL [iV f.st,vo,.bool f.mn.lost,.bool f.mn.forced,.bool f.mn.begun];have hC:=(A.bm 0 _ _ rfl).1.1;generalize Y:HS.mk _ _ _ _=S1 at A hC;obtain⟨vq,k1,k2,kk⟩:=hE.row f.st (by omega);have g6:eN (aj S1.h o6) f.st=some vq:=by rw[(A.mem.own 0 _ _ _ rfl).cell f.st (by rw[hE.len];omega),k1];rfl
 have g7:eN (aj S1.h o7) f.st=some (.bool (g.kn[f.st]'(by omega))):=ly (A.mem.own 1 _ _ _ rfl) (aX (by omega));have C:=Ok vq vo _ _ k2 q (by have:=ht _ (cb (show f.st<g.op.length by omega));omega);have I:=Oj _ f.mn q.mn;unfold B6 at j;rw[getD_at (by omega),getD_at (by omega),getD_at (by omega),getD_at (by omega)]at j;have T:(i:Int)<g.l.length:=by omega
 have ke:(f.st:Int)<x.nx.length:=by omega
 have hb:f.st<x.fi.length:=by omega
 have kg:(f.st:Int)<x.fi.length:=by omega
 have k3:0<x.fi.length:=by omega
 simp only[ab,ae]at hL;simp only[aB,aC,bn,Nat.reduceAdd,iV]at hC Y g4;have hw:bT .i64 ((i:Int)+1)=(i:Int)+1:=br (n:=3518437208883) (show i<3518437208883 by have:=hN.n;omega) (by omega);have k4:=hS.mono (show D<=D+1 by omega);obtain⟨p6,S2,a6,b6,Z⟩:=A.jQ 0 rfl f.st (by rw[hE.len];omega) q.one;simp only[aO]at Z;have h3:=(Z.bm 0 _ _ rfl).1.1;obtain⟨p7,S3,a7,b7,h6⟩:=Z.jQ 1 rfl f.st (by rw[bz];omega) (x:=.bool true) rfl;simp only[bJ,aO]at h6;rw[show List.set (g.kn.map bC) f.st [HV.bool true]=(g.kn.set f.st true).map bC by rw[mR]]at h6;simp[u]at a6 a7;subst a6;subst a7;simp only[jl]at b6 b7;simp only[aB,aC,bn,Nat.reduceAdd,iV]at h3;have k5:x.fi[f.st]=f.mn.over∨(¬x.fi[f.st]=f.mn.over/\x.nx.length=1/\x.fi[0]=false):=by
  by_cases h:x.fi[f.st]=f.mn.over
  .exact .inl h
  refine .inr ⟨h,?_⟩;rw[yd]at j;have h2:=j.2;rw[show(x.fi[f.st] != f.mn.over)=true by simpa using h,j7]at h2;simpa using h2
 have hp:g.kn[f.st]'(by omega)=true->nU g.op[f.st]=nU f.mn.op:=λhk=>by rw[yd,hk,j7]at j;simpa using j.1
 cases hk:g.kn[f.st]'(by omega)<;>rw[hk]at g7<;>(try rw[dq (hp hk)]at C)<;>rcases k5 with k6|⟨k7,kl,hf⟩<;>first
  |(rw[<-k6]at I;simp-implicitDefEqProofs[U.lW,hL,p,T,g4,Y,aq,aA,an,hC,h3,u,g6,g7,I,hb,b6,b7,C]at V)
  |(have hd:(x.nx.length:Int)=1:=(by omega);simp-implicitDefEqProofs[U.lW,hL,p,T,g4,Y,aq,aA,an,hC,h3,u,g6,g7,I,hb,b6,b7,C,k7,hd,k3,hf]at V)
 all_goals
  generalize ho:bO R (.loop U.Ab) _ _=o at V;rcases afR a ok hc x hx f u (by omega) hz g.l hB q (v4:=v4) (v5:=v5) (v6:=.sl o6 0 x.nx.length 1) (v7:=.sl o7 0 x.nx.length 1) (v8:=.sl ob 0 g.l.length 5) (v9:=iV i) (o10:=s.nx) (by simp[hL]) h6 k4 h9 ho with⟨k,k8,k9,e',s',rfl,h4,h5⟩|⟨hj,e',s',hl,ka,hq,rfl,h7,kb,kc⟩
  .simp at V;subst V;exact .inl ⟨⟨k,k8,k9⟩,_,_,rfl,h4,h5⟩
  simp only[ab,ae]at h7;simp[h7,hw]at V;subst V;exact .inr ⟨hj,_,_,rfl,hl,_,_,ka,_,hq,by simp[h7],kb,hE.set q,kc⟩
def Ip{a:Ar}{x:Fa}{i:Nat}(h:ft a x i=none)(d:Nat):ft a x (i+d)=none:=by induction d with|zero=>exact h|succ d f=>show ft a x ((i+d)+1)=none;rw[ft,f];rfl
def Iq{a:Ar}{x:Fa}{i:Nat}{g:Lg}(h:ft a x i=some g)(j:g.l.length<=i)(d:Nat):ft a x (i+d)=some g:=by induction d with|zero=>exact h|succ d f=>show ft a x ((i+d)+1)=some g;rw[ft,f,Option.bind_some,og,qz (by omega)]
def Zk{e:En}{s:HS}{i:Nat}{g:Lg}{ak j m:aP}{v2 v3 v4 v5 v6 v7 v8:HV}{ao:aW}{D:Nat}{r:Out}
  (f:bB e [(2,v2),(3,v3),(4,v4),(5,v5),(6,v6),(7,v7),(8,v8),(9,iV i)])(p:aI s ao [(v6,1,j),(v7,1,m),(v8,5,ak)] [])(q:DP g.l ak D)(u:¬i<g.l.length)(h:bO R U.lW e s=r):
  r=.code (.exit 0) (e.oE 29 (.bool false)) s:=by
 have hlen:=p.mem.len 2 rfl s;rw[q.len]at hlen;have d:¬(i:Int)<g.l.length:=by omega
 simp only[ab,ae]at f;simp[U.lW,f,hlen,d]at h;exact h.symm
def agc(a:Ar)(ok:fz a)(hc:aQ a=0)(x:Fa)(hx:bA x){N D:Nat}(T:Kr a x N D){g0:Lg}(h7:ft a x 0=some g0){e:En}{s:HS}{o:Out}{v4 v5 v6 v7 v8:HV}{ao:aW}{m ak:aP}
  (p:bB e [(2,.aw a.c),(3,.aw x.c),(4,v4),(5,v5),(6,v6),(7,v7),(8,v8),(9,iV 0)])
  (A:aI s ao [(v6,1,m),(v7,1,g0.kn.map bC),(v8,5,ak)] [])(I:Ih g0.op m)(J:DP g0.l ak D)(ho:bO R (.loop U.lW) e s=o):
  (ft a x N=none/\∃e' s',o=.code .ret e' s'/\look e' 4=some .ah/\look e' 5=some (.bool false))∨
  (∃g,ft a x N=some g/\∃(e':En) (s':HS) (ao:aW) (v6 v7 v8:HV) (m ak:aP),o=.code (.exit 0) e' s'/\look e' 6=some v6/\aI s' ao [(v6,1,m),(v7,1,g.kn.map bC),(v8,5,ak)] []/\Ih g.op m):=by
 revert o;show∀o,_;refine ajX N
  (λi e s=>∃(g:Lg) (ao:aW) (v6 v7 v8:HV) (m ak:aP),ft a x i=some g/\bB e [(2,.aw a.c),(3,.aw x.c),(4,v4),(5,v5),(6,v6),(7,v7),(8,v8),(9,iV i)]/\aI s ao [(v6,1,m),(v7,1,g.kn.map bC),(v8,5,ak)] []/\Ih g.op m/\DP g.l ak D)
  0 (by omega) ⟨g0,ao,v6,v7,v8,m,ak,h7,p,A,I,J⟩ ?_ ?_
 .rintro i e s r hi ⟨g,ao,v6,v7,v8,m,ak,C,p,A,I,J⟩ V
  by_cases f:i<g.l.length
  .have q:=aX f;have O:=((T.st i g C).1 _ (cb f)).1;have u:ft a x (i+1)=none->ft a x N=none:=λh=>by have:=Ip h (N-(i+1));rwa[show i+1+(N-(i+1))=N by omega]at this
   have j:ft a x (i+1)=og a x g i:=by rw[ft,C];rfl
   cases d:B6 x g g.l[i]
   .rcases agb a ok hc x hx T hi C p A I J f V d O with⟨⟨k,hk,X⟩,e',s',rfl,h4,h5⟩|⟨Y,e',s',rfl,Z,h8,h9,ha,hb,h1,hd,hf,hj,h2⟩
    .refine .inr ⟨by simp,.inl ⟨u ?_,_,_,rfl,h4,h5⟩⟩;rw[j,og,q];simp only[d];rw[getD_at O,ar (by simp),ar];simp only[BX,JO];exact⟨_,cb hk,by simp[X]⟩
    have h3:ft a x (i+1)=some ⟨jx g.l[i] g.l x.nx[(g.l[i]).st],g.op.set (g.l[i]).st (g.l[i]).mn.op,g.kn.set (g.l[i]).st true⟩:=by rw[j,og,q];simp only[d];rw[getD_at O,ar (by simp),au];rw[fG];intro e he;obtain⟨k,hk,rfl⟩:=eO.1 he;exact Y k hk
    refine .inl ⟨_,_,rfl,_,Z,h8,h9,ha,hb,h1,h3,hd,hf,hj,h2.len,h2.row,λy hy=>((T.st _ _ h3).1 y hy).2⟩
   obtain⟨e',s',rfl,h4,h5⟩:=afS a ok hc x hx T hi C p A I J f V d;refine .inr ⟨by simp,.inl ⟨u ?_,_,_,rfl,h4,h5⟩⟩;rw[j,og,q];simp only[d,bp]
  have:=Zk p A J f V;subst this;have h6:=Iq C (by omega) (N-i);rw[show i+(N-i)=N by omega]at h6;simp only[ab,ae]at p;exact .inr ⟨by simp,.inr ⟨g,h6,_,_,ao,v6,v7,v8,m,ak,rfl,by simp[p],A,I⟩⟩
 rintro e s r ⟨g,ao,v6,v7,v8,m,ak,C,p,A,I,J⟩ V
 have f:¬N<g.l.length:=by have:=T.fin g C;omega
 have:=Zk p A J f V;subst this;simp only[ab,ae]at p;exact⟨by simp,.inr ⟨g,C,_,_,ao,v6,v7,v8,m,ak,rfl,by simp[p],A,I⟩⟩
def aI.Tu{s:HS}{ao:aW}{L:cq}{K:de}(h:aI s ao L K){sz:Nat}{t:aP}(j:Sz sz t):∃d,aI {h:=av (some (.cells (cP (aD t)) 0 (aD t).length s.nx)) s.nx s.h,nx:=s.nx.succ,gr:=av (some [s.nx]) s.nx s.gr,ty:=s.ty} d (L++[(.sl s.nx 0 t.length sz,sz,t)]) K:=by
 have m:=Ky.aS s.nx;refine h.join (cV.alloc _ _) (F:=λk=>k=s.nx) ⟨j,λk f=>by subst f;simp only;omega,.inr ⟨s.nx,cP (aD t),(aD t).length,s.nx,[],rfl,?_,by rw[ct j];exact aV _,by simp,?_,by simp,by simp,rfl⟩⟩ (λk f=>by subst f;exact aV _)
 .simp only;rw[af,au rfl]
 simp only;rw[af,au rfl]
def w96(a:Ar)(ok:fz a)(hc:aQ a=0)(x:Fa)(Y:bA x){N D:Nat}(hN:Kr a x N D):∃v,∀s,R (.call 43 [.agg a.c,.agg x.c] s)=.val (.cO [v,.bool (ft a x N).isSome]) s:=by
 have hn:=Y.n
 suffices h:∃v,pF [.tmp 4,.tmp 5] (bO R U.b96 (bc [.agg a.c,.agg x.c] 0) s0)=some (.cO [v,.bool (ft a x N).isSome]) by obtain⟨v,h⟩:=h;exact⟨v,λs=>q96 h⟩
 have h0:aI s0 (λ_=>none) [] []:=⟨dV.start (by simp),by simp,by simp⟩;obtain⟨s1,m1,r,u⟩:=lZ (s:=s0) (n:=x.nx.length) (bI:=5864062014805) (by omega) .ah;obtain⟨c1,A⟩:=h0.join u r (λk C=>by subst C;exact aV _);obtain⟨s2,m2,I,J⟩:=lZ (s:=s1) (n:=x.nx.length) (bI:=140737488355328) (by omega) (.bool false);obtain⟨c2,O⟩:=A.join J I (λk C=>by subst C;exact aV _);obtain⟨c3,d⟩:=O.Tu (sz:=5) (t:=[[.int .i64 0,.ah,.bool false,.bool false,.bool false]]) (Sz.cons rfl Sz.nil);simp only[bq,bo]at d;generalize p:HS.mk _ _ _ _=S3 at d;simp only[cj,gS,bo,bq,aB,aC,bn,Nat.reduceAdd]at p d;simp[U.b96,m1,m2,p];generalize ho:bO R (.loop U.lW) _ _=o;have hS:DP [⟨0,⟨[],false,false,false⟩⟩] [[.int .i64 0,.ah,.bool false,.bool false,.bool false]] D:=by
  refine⟨rfl,λi h=>?_,λy hy=>?_⟩
  .have h0:i=0:=by simpa using h
   subst h0;exact .inr ⟨rfl,rfl⟩
  rw[cr.1 hy];exact fN _
 rw[show List.replicate x.nx.length [HV.bool false]=(List.replicate x.nx.length false).map bC by simp]at d;rcases agc a ok hc x Y hN (g0:=⟨[⟨0,⟨[],false,false,false⟩⟩],List.replicate x.nx.length [],List.replicate x.nx.length false⟩) rfl (v4:=.ah) (v5:=.bool false) (by simp) d (Ih.start _) hS ho with⟨T,e',s',rfl,h4,h5⟩|⟨g,T,e',s',ao,v6,v7,v8,m,ak,rfl,h6,hM,q⟩
 .rw[T];refine⟨.psl [],?_⟩;simp[h4,h5];exact aY (.cO (.cons .ah (.data (by simp))))
 rw[T];refine⟨.psl ((List.range m.length).map λi=>[.psl ((g.op.getD i []).map Mv.c)]),?_⟩;simp[h6];refine aY (.cO (.cons ?_ (.data (by simp))));have V:m=(List.range m.length).map λi=>[(m.getD i []).getD 0 .ah]:=by
  refine qD (by simp) λi Z h2=>?_
  obtain⟨v,X,_,_⟩:=q.row i (by rw[<-q.len];exact Z);simp only[BR,B4,getD_at Z,X];rfl
 have hO:=hM.mem.own 0 _ _ _ rfl;rw[V]at hO;have hv:=hO.vwH (f:=λi=>(m.getD i []).getD 0 .ah) (g:=λi=>HV.psl ((g.op.getD i []).map Mv.c)) (n:=14) (λi hi=>?_)
 .simpa using hv
 have j:i<m.length:=by simpa using hi
 obtain⟨v,X,k2,_⟩:=q.row i (by rw[<-q.len];exact j);simp only[getD_at j,X,getD_at (show i<g.op.length by rw[<-q.len];exact j)];rcases k2 with rfl|⟨h0,rfl⟩
 .exact .data (by simp)
 rw[h0];exact .ah
def w29(t:Sx)(Y:∀r∈t.x.nx,r.length<=70368744177664):∃b,(∀s,R (.call 4 [.agg t.c] s)=.val (.bool b) s)/\(b=true->∃x,t.x=x.i/\Rt t.a x):=by
 obtain⟨Gj,f,D⟩:=w10 t Y;simp only[Sx.c]at f;cases Gj with
 |false=>refine⟨false,λs=>?_,λh=>by cases h⟩;refine Xs ?_;simp[U.Ua,f,aa]
 |true=>
  obtain⟨p,O,hf,T⟩:=D rfl;have m:mN t.x:=⟨by omega,by omega,by omega⟩;by_cases j:aQ t.a=0
  .by_cases I:FH t.x
   .obtain⟨y,q,C,V,X⟩:=I;have u:y.nx.length<=24:=by rw[q]at O;simpa[Fa.i]using O
    have A:(y.nx.map List.length).sum<=120:=by rw[q]at T;simpa[Fa.i,tP]using T
    have Z:=Tb C j (KM p j) u A;obtain⟨v,J⟩:=w96 t.a p.ok j y C Z;have d:=w66 t p.ok m v (ft t.a y 3518437208883).isSome (λ_ _ s=>by rw[q,Fa.XH];exact J s);rw[au j,au ⟨y,q,C,V,X⟩]at d;simp only[Sx.c,iV]at d;cases N:ft t.a y 3518437208883 with
    |none=>rw[N]at d;refine⟨false,λs=>?_,λh=>by cases h⟩;refine Xs ?_;simp only[IL,df,bD]at d;simp[U.Ua,f,d,aa]
    |some g=>rw[N]at d;refine⟨true,λs=>?_,λ_=>⟨y,q,⟨p,j,C,V,X,u,A,⟨g,N⟩⟩⟩⟩;refine Xs ?_;simp only[ah3,bp]at d;simp[U.Ua,f,d,aa]
   have d:=w66 t p.ok m (iV 0) false (λ_ h=>(I h).elim);rw[au j,ar I]at d;simp only[Sx.c,iV]at d;refine⟨false,λs=>?_,λh=>by cases h⟩;refine Xs ?_;simp[U.Ua,f,d,aa]
  have d:=w66 t p.ok m (iV 0) false (λh=>(j h).elim);rw[ar j]at d;simp only[Sx.c,iV]at d;refine⟨false,λs=>?_,λh=>by cases h⟩;refine Xs ?_;simp[U.Ua,f,d,j,aa]
def NJ(a:Ar)(x:Fa):(Sx.mk a x.i).c=ib a x:=by have:=x.XH;simp only[Ax.c,Fa.c,n6]at this;simp only[Sx.c,ib,this.1,this.2.1]
def NK{x:Fa}(f:rj x)(q:Nat):tR (cM x q):=by
 by_cases d:q<x.nx.length
 .rw[show cM x q=x.nx[q] from getD_at d _];exact f _ (cb d)
 have:cM x q=[]:=by unfold cM;rw[KP,qz (by omega)];rfl
 rw[this];intro k h;simp at h
def KZ{x:Fa}(j:rj x):pU x:=by
 intro q e h;unfold bH;cases d:(cM x q).find? (λf=>decide (f.m=e.m))with
 |none=>have:=BQ.1 d e h;simp at this
 |some f=>
  have p:=Ap d;have r:f.m=e.m:=by simpa using KL d
  rw[(NK j q).uniq p h r]
def Rt.some{a:Ar}{x:Fa}(h:Rt a x):x=j8∨¬(x.nx.length=1/\x.fi.getD 0 false=false):=by
 rcases MT h.hx h.ha h.hl with d|d
 .exact .inl d
 refine .inr λ⟨u,j⟩=>?_
 have key:∀i,Lv x i->i<x.nx.length->False:=by
  intro i hl
  induction hl with
  |@fin i m=>
   intro p;have f:i=0:=by omega
   subst f;rw[KP,m]at j;cases j
  |Fy hl q _ r=>intro p;exact r (h.hx.to _ (cE hl) _ q)
 exact key 0 (d.live 0 h.hx.pos) h.hx.pos
def Ox{n m:Nat}(d:n<=24)(f:m<=24):n*m<=1000:=fu (FT d f) (by decide)
def ahR(x:Fa):∀(v:bE) (p i j:Nat),(fm x p i v).1=(fm x p j v).1
 |[],p,i,j=>rfl
 |m::r,p,i,j=>by
  rw[fm,fm]
  split
  .rfl
  exact ahR x r _ _ _
def ahy{x:Fa}(f:bA x):∀(u t:bE) (p i q:Nat),p<x.nx.length->(fm x p i u).1=(q:Int)->(fm x p i (u++t)).1=(fm x q 0 t).1
 |[],t,p,i,q,j,h=>by simp only[fm,tS]at h;rw[bq,h];exact ahR x t _ _ _
 |m::u,t,p,i,q,j,h=>by
  rw[bo,fm];rw[fm]at h;rcases fj f j m with d|⟨r,d,A⟩
  .rw[au d]at h;simp only at h;omega
  rw[d,ar (by omega),gD]at h ⊢;exact ahy f u t r (i+1) q A h
def ag9(x:Fa):∀(u t:bE) (p i:Nat),(fm x p i (u++t)).1≠ -1->(fm x p i u).1≠ -1
 |[],t,p,i,h=>by simp only[fm];omega
 |m::u,t,p,i,h=>by
  rw[bo,fm]at h;rw[fm]
  split
  .rename_i d;rw[au d]at h;exact(h rfl).elim
  rename_i d;rw[ar d]at h;exact ag9 x u t _ _ h
def ahS:∀(v:bE) (k:Wk),(gn k v).2=v.length->(k.w=[]->k.op=[])->((gn k v).1.op.length+k.op.length+v.length)%2=0
 |[],k,h,_=>by simp[gn];omega
 |m::r,k,h,h0=>by
  unfold gn at h ⊢
  split at h
  .rename_i d;rw[au d];simp only[aB]at h ⊢;have f:(dL k m).w=[]->(dL k m).op=[]:=λe=>by rw[MK]at e;simp at e
   have u:=ahS r (dL k m) (by omega) f;have dA:((dL k m).op.length+k.op.length)%2=1:=by
    unfold dL;by_cases j:dS m=true
    .rw[au j];simp;omega
    rw[ar j];have p:k.op≠ []:=by
     by_cases q:k.w=[]
     .exact(j (nR d q).2).elim
     exact vS d q
    have:0<k.op.length:=ym.2 p;simp;omega
   omega
  simp at h
def Rt.par{a:Ar}{x:Fa}(h:Rt a x){u v:bE}{q:Nat}(J:(fm x 0 0 u).1=(q:Int))(N:(fm x 0 0 v).1=(q:Int)):u.length%2=v.length%2:=by
 obtain⟨g,f⟩:=h.run;have r:=(Tb h.hx h.hc (KM h.th h.hc) h.hn h.he).fin g f;have W:=Cc h.hx h.hc f r;have I:=qG.run h.hx 3518437208883 f;have A:g.l.take 3518437208883=g.l:=fD r;have key:∀w:bE,(fm x 0 0 w).1=(q:Int)->∃y∈g.l,y.st=q/\(y.mn.op.length+w.length)%2=0:=by intro w C;obtain⟨y,j,O,D,m⟩:=G3 W w 0 AM (tU a) W.st (y9.start a) rfl (by rw[show AM.st=0 from rfl,C];omega);rw[show AM.st=0 from rfl,C]at m;have T:=ahS w (tU a) D (λ_=>rfl);have d:=ch List.length O.op;rw[bz]at d;refine⟨y,j,by omega,?_⟩;rw[d];simpa[tU]using T
 obtain⟨y,j,V,D⟩:=key u J;obtain⟨z,X,m,Y⟩:=key v N;have p:=I.plc (by rw[A];exact j) (by rw[A];exact X) (by rw[V,m]);have d:=ch List.length p;simp only[nU,bz]at d;omega
def ajg:∀a,a<=24->∀b,b<=24->a*b<200∨(24-a)*(24-b)<200:=by decide+kernel
def ahl{A B:az}{l:List (Nat×Nat)}(f:l.Nodup)(h:∀k∈l,k.1∈A/\k.2∈B):l.length<=A.length*B.length:=by
 have j:l.length<=(A.flatMap λa=>B.map λc=>(a,c)).length:=by refine Tm f (λk d=>?_);simp only[qF,cU];exact⟨k.1,(h k d).1,k.2,(h k d).2,rfl⟩
 have m:∀A:az,(A.flatMap λa=>B.map λc=>(a,c)).length=A.length*B.length:=by
  intro A
  induction A with|nil=>simp|cons n A p=>rw[mU,bZ,p,aB];simp[iR];omega
 rwa[m]at j
def ahI(f:Nat->Bool)(n:Nat):((List.range n).filter f).length+((List.range n).filter λi=> !f i).length=n:=by
 induction n with
 |zero=>rfl
 |succ n h=>rw[yl,ah1,ah1,bZ,bZ];cases d:f n<;>simp[d]<;>omega
def ah4{a:Ar}{x y:Fa}{b:Bool}(hx:Rt a x)(J:Rt a y){N:Nat}(hN:y.nx.length*x.nx.length<=N){z:Sq}(hz:z∈(di x y b N).q):z.w.length<400:=by
 classical
 have Z:=KZ J.ha;have he:=Cf (b:=b) hx.hx J.hx Z hN;have C:=he.ok.ok z hz;apply A3;intro hL;have py:∀i,∃q:Nat,q<y.nx.length/\(fm y 0 0 (z.w.take i)).1=(q:Int):=λi=>by obtain⟨q,D,f⟩:=ui J.hx (z.w.take i) 0 0 J.hx.pos (ag9 y _ (z.w.drop i) 0 0 (by rw[Ep,C.fy];simp only;omega));exact⟨q,D,by rw[f]⟩
 have px:∀i,∃q:Nat,q<x.nx.length/\(fm x 0 0 (z.w.take i)).1=(q:Int):=λi=>by obtain⟨q,D,f⟩:=ui hx.hx (z.w.take i) 0 0 hx.hx.pos (ag9 x _ (z.w.drop i) 0 0 (by rw[Ep,C.fx];simp only;omega));exact⟨q,D,by rw[f]⟩
 obtain⟨fy,m⟩:=Classical.axiomOfChoice py;obtain⟨fx,r⟩:=Classical.axiomOfChoice px;have O:∀i j,i<j->j<=z.w.length->(fy i,fx i)≠(fy j,fx j):=by
  intro i j h7 hj hc;simp only[gj]at hc;have hr:UX x y (z.w.take i++z.w.drop j) z.s z.p:=by
   have one:∀(u:Fa) (T:bA u) (qi qj q:Nat),qi=qj->(fm u 0 0 (z.w.take i)).1=(qi:Int)->(fm u 0 0 (z.w.take j)).1=(qj:Int)->fm u 0 0 z.w=((q:Int),(z.w.length:Int))->fm u 0 0 (z.w.take i++z.w.drop j)=((q:Int),((z.w.take i++z.w.drop j).length:Int)):=by intro u T qi qj q e D f I;have V:=ahy T (z.w.take i) (z.w.drop j) 0 0 qi T.pos D;have h5:=ahy T (z.w.take j) (z.w.drop j) 0 0 qj T.pos f;rw[Ep,I]at h5;rw[e,<-h5]at V;obtain⟨q',_,h6⟩:=ui T (z.w.take i++z.w.drop j) 0 0 T.pos (by rw[V];simp only;omega);rw[h6]at V ⊢;simp only at V;rw[V,bn]
   exact⟨one y J.hx _ _ _ hc.1 (m i).2 (m j).2 C.fy,one x hx.hx _ _ _ hc.2 (r i).2 (r j).2 C.fx⟩
  obtain⟨z',D,f,I⟩:=ahx (b:=b) hx.hx J.hx Z hN _ _ _ _ rfl hr;have h8:z'=z:=by have h9:=he.ok.nd;obtain⟨k1,l1,e1⟩:=eO.1 D;obtain⟨k2,l2,Y⟩:=eO.1 hz;have:=(List.getElem_inj h9).1 (show((di x y b N).q.map Sq.k)[k1]'(by simpa using l1)=((di x y b N).q.map Sq.k)[k2]'(by simpa using l2) by simp only[BR,e1,Y,f]);subst this;rw[<-e1,<-Y]
  rw[h8]at I;simp only[bZ,od,Ej]at I;omega
 let X:Nat->Bool:=λs=>decide (∃v:bE,(fm y 0 0 v).1=(s:Int)/\v.length%2=0)
 let ex:Nat->Bool:=λs=>decide (∃v:bE,(fm x 0 0 v).1=(s:Int)/\v.length%2=0)
 have hlen:∀i,i<=z.w.length->(z.w.take i).length=i:=λi d=>by rw[od];omega
 have hb:∀i,i<=z.w.length->i%2=0->X (fy i)=true/\ex (fx i)=true:=λi d f=>⟨dq ⟨z.w.take i,(m i).2,by rw[hlen i d];exact f⟩,dq ⟨z.w.take i,(r i).2,by rw[hlen i d];exact f⟩⟩
 have hd:∀i,i<=z.w.length->i%2=1->X (fy i)=false/\ex (fx i)=false:=λi d f=>by
  refine⟨cK λ⟨v,I,V⟩=>?_,cK λ⟨v,I,V⟩=>?_⟩
  .have:=J.par (m i).2 I;rw[hlen i d]at this;omega
  have:=hx.par (r i).2 I;rw[hlen i d]at this;omega
 have D:=ahl (A:=(List.range y.nx.length).filter X) (B:=(List.range x.nx.length).filter ex) (l:=(List.range 200).map λi=>(fy (2*i),fx (2*i)))
  (by
   rw[List.Nodup,aiL];refine List.Pairwise.imp_of_mem (λ{i j} d hj h7=>?_) aiM;exact O _ _ (by omega) (by have:=fX.1 hj;omega))
  (λk hk=>by
   obtain⟨i,d,rfl⟩:=cU.1 hk;have d:=fX.1 d;obtain⟨e1,Y⟩:=hb (2*i) (by omega) (by omega);exact⟨tk.2 ⟨fX.2 (m _).1,e1⟩,tk.2 ⟨fX.2 (r _).1,Y⟩⟩)
 have f:=ahl (A:=(List.range y.nx.length).filter λi=> !X i) (B:=(List.range x.nx.length).filter λi=> !ex i) (l:=(List.range 200).map λi=>(fy (2*i+1),fx (2*i+1)))
  (by
   rw[List.Nodup,aiL];refine List.Pairwise.imp_of_mem (λ{i j} d hj h7=>?_) aiM;exact O _ _ (by omega) (by have:=fX.1 hj;omega))
  (λk hk=>by
   obtain⟨i,d,rfl⟩:=cU.1 hk;have d:=fX.1 d;obtain⟨e1,Y⟩:=hd (2*i+1) (by omega) (by omega);exact⟨tk.2 ⟨fX.2 (m _).1,by rw[e1];rfl⟩,tk.2 ⟨fX.2 (r _).1,by rw[Y];rfl⟩⟩)
 rw[bz,B5]at D f;have f1:=ahI X y.nx.length;have f2:=ahI ex x.nx.length;have n1:=J.hn;have n2:=hx.hn;generalize((List.range y.nx.length).filter X).length=A at*;generalize((List.range x.nx.length).filter ex).length=B at*;generalize((List.range y.nx.length).filter λi=> !X i).length=A' at*;generalize((List.range x.nx.length).filter λi=> !ex i).length=B' at*;have I:A'*B'<=(24-A)*(24-B):=FT (by omega) (by omega);rcases ajg A (by omega) B (by omega)with h|h<;>omega
def wdH(q:HV×List Mv):ai:=[q.1]
def Wds(x:Fa)(L:cq)(d:List (HV×List Mv)):Prop:=∀q∈d,Cp L q.1 q.2/\(fm x 0 0 q.2).1≠ -1/\q.2.length<=400
abbrev wsD(W:List bb):HV:=.psl (W.map λr=>[.psl (r.map iC)])
def Wds.mono{x:Fa}{L d:cq}{f:List (HV×List Mv)}(h:Wds x L f)(m:∀w l,Cp L w l->Cp d w l):Wds x d f:=λq j=>⟨m _ _ (h q j).1,(h q j).2⟩
def Cp.lst{L:cq}{w:HV}{l:bE}:Cp (L++[(w,4,l.map Mv.c)]) w l:=.inr ⟨L.length,by simp⟩
def cpW{s:HS}{ao:aW}{A:tO}{L:cq}{K:de}(I:aI s ao (A::L) K){w:HV}{l:bE}(J:Cp L w l)(O:l.length<=100000):
  ∃w' s' p,j0 4 4398046511104 none (some (.sl s.nx 0 0 4)) (some w) (HS.mk (av (some (.cells (cP []) 0 0 s.nx)) s.nx s.h) s.nx.succ (av (some [s.nx]) s.nx s.gr) s.ty)=.v w' s'/\aI s' p (A::(L++[(w',4,l.map Mv.c)])) K:=by
 obtain⟨j,d⟩:=I.FI 4;generalize HS.mk _ _ _ _=T at d ⊢;rcases J with⟨rfl,rfl⟩|⟨i,D⟩
 .exact⟨_,_,j,agY rfl,d⟩
 have C:(A::L++[(HV.sl s.nx 0 0 4,4,([]:aP))])[i+1]?=some (w,4,l.map Mv.c):=by rw[bo,BP,dD (aU.1 D).1];exact D
 have m:=NH (bI:=4398046511104) (d.mem.own _ _ _ _ C) (v:=.sl s.nx 0 0 4) rfl;by_cases q:l=[]
 .subst q;exact⟨_,_,j,by rw[m];exact kQ rfl,d⟩
 obtain⟨w',s2,r,N,V,u⟩:=d.append (L.length+1) (v:=.sl s.nx 0 0 4) (sz:=4) (ak:=[]) (by simp) (new:=l.map Mv.c) (Sz.map (f:=Mv.c) (λx=>rfl) _) (by simpa using q) (bI:=4398046511104) (by simp;omega);rw[bo,ahw _ _ _ _ rfl,bq]at u;exact⟨w',s2,r,by rw[m];exact N,u⟩
section
variable{x:Fa}{W:List bb}
def w79(hx:bA x)(k2:pU x)(hW:∀r∈W,r.length=x.nx.length)(kg:W.length<=100000){mx:Nat}(ki:mx<=200):∀(n:Nat),n<W.length->∀{s:HS} {ao:aW} {L:cq} {O w:HV} {J:List (HV×List Mv)} {l:bE} {p:Nat},
  dV s ao ((O,1,J.map wdH)::L)->Cp L w l->l.length+n<=400->p<x.nx.length->(fm x 0 0 l).1=(p:Int)->Wds x L J->J.length<mx->
  ∃j s' f I d,R (.call 40 [.agg x.c,wsD W,iV n,iV p,w,O,iV mx] s)=.val j s'/\dV s' f ((j,1,d.map wdH)::I)/\Wds x I d/\d.length<=mx/\∀w l,Cp L w l->Cp I w l
 |0,hn,s,ao,L,O,w,J,l,p,hM,hw,hl,hp,hf,D,kj=>by
  have hk:aI s ao ((O,1,J.map wdH)::L) []:=⟨hM,by simp,by simp⟩;obtain⟨w',s1,h9,a1,N⟩:=cpW hk hw (by omega);have kk:cellsOf w'=some [w']:=(N.mem.own (L.length+1) w' 4 (l.map Mv.c) (by simp)).one;obtain⟨v',s3,ha,a3,_,T⟩:=N.mem.append 0 rfl (new:=[[w']]) (λr A=>by simp at A;rw[A];rfl) (by simp) (bI:=5864062014805) (by simp;omega);simp only[aO]at T;have hE:∃Z,ev R U.b79 (bc [.agg x.c,wsD W,iV (0:Nat),iV p,w,O,iV mx] 0) s=.code .ret Z s3/\look Z 14=some v':=by generalize A:ev R U.b79 (bc [.agg x.c,wsD W,iV (0:Nat),iV p,w,O,iV mx] 0) s=r;simp[U.b79,a1,kk,a3]at A;subst A;exact⟨_,rfl,by simp⟩
  obtain⟨Z,hE,hs⟩:=hE;refine⟨v',s3,ha,L++[(w',4,l.map Mv.c)],J++[(w',l)],n79 rfl ⟨.ret,_,s3,hE,.inr rfl,by simp[hs]⟩,by simpa[wdH]using T,λq hq=>?_,by simp;omega,λw l h=>h.more _⟩;rcases l5.1 hq with hq|hq
  .exact D.mono (λw l h=>h.more _) q hq
  rw[cr.1 hq];exact⟨Cp.lst,by simp only;omega,by simp only;omega⟩
 |n+1,hn,s,ao,L,O,w,J,l,p,hM,hw,hl,hp,hf,D,kj=>by
  have ky:=hx.row hp;have kl:¬(n:Int)+1=0:=by omega
  have ht:n<W.length:=by omega
  have X:bT .i64 (n:Int)=n:=cx (by omega) (by omega);have km:=hW _ (cb ht);have key:∃Z j s' f I d,ev R U.b79 (bc [.agg x.c,wsD W,iV (n+1:Nat),iV p,w,O,iV mx] 0) s=.code .ret Z s'/\look Z 14=some j/\dV s' f ((j,1,d.map wdH)::I)/\Wds x I d/\d.length<=mx/\∀w l,Cp L w l->Cp I w l:=by
   generalize A:ev R U.b79 (bc [.agg x.c,wsD W,iV (n+1:Nat),iV p,w,O,iV mx] 0) s=r;simp[U.b79,kl]at A;generalize ho:ev R (.loop U.ahq) _ _=o at A;have hq:∃(Z:En) (j:HV) (s':HS) (f:aW) (I:cq) (d:List (HV×List Mv)),o=.code (.exit 0) Z s'/\look Z 5=some j/\dV s' f ((j,1,d.map wdH)::I)/\Wds x I d/\d.length<=mx/\∀w l,Cp L w l->Cp I w l:=by
    clear A;revert o;refine ajY x.nx[p].length
     (λi e s=>∃(j:HV) (f:aW) (I:cq) (d:List (HV×List Mv)),bB e [(1,wsD W),(2,iV (n+1:Nat)),(3,iV p),(4,w),(5,j),(6,iV mx),(7,.aw x.c),(15,iV i)]/\dV s f ((j,1,d.map wdH)::I)/\Wds x I d/\d.length<=mx/\∀w l,Cp L w l->Cp I w l)
     0 (by omega) ⟨O,ao,L,J,by simp,hM,D,by omega,λ_ _ h=>h⟩ ?_ ?_
    .rintro i e s r hi ⟨O,ao,L,J,Y,hM,D,h6,u⟩ A
     have hy:(i:Int)<x.nx[p].length:=by omega
     have hlen:=hM.len 0 rfl;rw[bz]at hlen;have k3:=br (n:=6000) (show i<6000 by omega) (by omega);simp only[ab,ae]at Y;by_cases hz:J.length<mx
     case neg=>
      have C:¬(J.length:Int)<mx:=by omega
      simp[U.ahq,Y,hp,hy,hlen,C]at A;subst A;exact .inr ⟨by simp,_,_,_,_,_,_,rfl,by simp[Y],hM,D,h6,u⟩
     have C:(J.length:Int)<mx:=by omega
     have k4:=hx.to _ (cb hp) _ (cb hi);have hb:x.nx[p][i].to<W[n].length:=by rw[km];exact k4
     have hk:aI s ao ((O,1,J.map wdH)::L) []:=⟨hM,by simp,by simp⟩;have N:=hk.cL [.int .i64 0,.int .i64 0,.int .u8 0,.int .i64 0,.int .i64 0];generalize k0:HS.mk _ _ _ _=S1 at N;obtain⟨s2,b2,V⟩:=N.put (a:=0) rfl (v:=.agg x.nx[p][i].c) (new:=x.nx[p][i].c) (by simp) rfl;simp only[aO]at V;simp only[Eg.c,aB,aC,bn,Nat.reduceAdd]at b2 k0;have c4:eN (aj s2.h s.nx) 4=some (iV x.nx[p][i].to):=by rw[(V.bm 0 _ _ rfl).1.get 4 (by simp)];rfl
     simp only[iV]at c4;by_cases hg:0<W[n][x.nx[p][i].to]
     case neg=>simp[U.ahq,Y,hp,hi,hy,hlen,C,k0,b2,c4,X,ht,hb,hg,k3]at A;subst A;exact .inl ⟨_,_,rfl,O,ao,L,J,by simp[Y],V.mem,D,h6,u⟩
     have kn:=u _ _ hw;obtain⟨w',s3,ha,a3,k5⟩:=cpW V kn (by omega);obtain⟨kv,k1⟩:=V.FI 4;generalize ko:HS.mk _ _ _ _=S3 at a3 k1;have k6:=(k1.bm 0 _ _ rfl).1.1;have kp:eN (aj S3.h s.nx) 4=some (iV x.nx[p][i].to):=by rw[(k1.bm 0 _ _ rfl).1.get 4 (by simp)];rfl
     obtain⟨wx,s4,kx,a4,_,T⟩:=k5.append (L.length+1) (v:=w') (sz:=4) (ak:=l.map Mv.c) (by simp) (new:=[x.nx[p][i].m.c]) (λr A=>by simp at A;rw[A];rfl) (by simp) (bI:=4398046511104) (by simp;omega);rw[ahw _ _ _ _ rfl,show l.map Mv.c++[x.nx[p][i].m.c]=(l++[x.nx[p][i].m]).map Mv.c by simp]at T;have k7:=(k5.bm 0 _ _ rfl).1.1;have hd:=(V.bm 0 _ _ rfl).1.1;have k8:eN (aj s4.h s.nx) 4=some (iV x.nx[p][i].to):=by rw[(T.bm 0 _ _ rfl).1.get 4 (by simp)];rfl
     simp only[iV]at k8 kp;have k9:x.nx[p]=cM x p:=(getD_at hp _).symm;have kq:=k2 p x.nx[p][i] (by rw[<-k9];exact cb hi);obtain⟨v5,s5,ka,L5,kr,hj,ks,kb,kc,h7⟩:=w79 hx k2 hW kg ki n (by omega) (w:=wx) (l:=l++[x.nx[p][i].m]) (p:=x.nx[p][i].to) T.mem Cp.lst (by simp;omega) k4 (by rw[pT hx _ l 0 0 p (fm x 0 0 l).2 hx.pos (ahv hf rfl),kq]) (D.mono λw l h=>h.more _) hz;simp only[Fa.c,iV,wsD]at hj;simp only[Mv.c]at a4;simp only[Eg.c,aB,aC,bn,Nat.reduceAdd]at k7 hd k6;simp[U.ahq,Y,hp,hi,hy,hlen,C,k0,b2,X,ht,hb,hg,k3,ko,a3,k7,hd,k6,an,a4,k8,hj]at A;subst A;exact .inl ⟨_,_,rfl,v5,ka,L5,kr,by simp[Y],ks,kb,kc,λw l h=>h7 w l ((u w l h).more _)⟩
    rintro e s r ⟨O,ao,L,J,Y,hM,D,h6,u⟩ A
    simp only[ab,ae]at Y;simp[U.ahq,Y,hp]at A;subst A;exact⟨by simp,_,_,_,_,_,_,rfl,by simp[Y],hM,D,h6,u⟩
   obtain⟨e1,kt,s1,h9,L1,ku,rfl,h5,N,kd,ke,h8⟩:=hq;simp[h5]at A;subst A;exact⟨_,kt,s1,h9,L1,ku,rfl,by simp,N,kd,ke,h8⟩
  obtain⟨Z,j,s',f,I,d,hE,hs,h1,h2,h3,h4⟩:=key;exact⟨j,s',f,I,d,n79 rfl ⟨.ret,_,s',hE,.inr rfl,by simp[hs]⟩,h1,h2,h3,h4⟩
end
section
variable{x:Fa}
def w77(D:bA x):∃(b:Bool) (n:Int) (p:Bool),∀s,R (.call 38 [.agg x.c] s)=.val (.cO [.bool b,iV n,.bool p]) s:=by
 have V:=D.n;have q:=D.pos;obtain⟨W,X,Y,f⟩:=w78 (M:=1) (N:=2*x.nx.length) D (by omega);have f:=f s0;rw[show((2*x.nx.length:Nat):Int)=2*(x.nx.length:Int) by omega]at f;simp only[Fa.c,iV]at f;have I:bT .i64 (2*(x.nx.length:Int))=2*x.nx.length:=cx (by omega) (by omega);have key:∃(b:Bool) (n:Int) (p:Bool),pF [.tmp 2,.tmp 3,.tmp 4] (bO R U.b77 (bc [.agg x.c] 0) s0)=some (.cO [.bool b,iV n,.bool p]):=by
  generalize d:bO R U.b77 (bc [.agg x.c] 0) s0=r;simp[U.b77,I,f]at d;generalize ho:bO R (.loop U.ahB) _ _=o at d;have Z:∃(T:En) (b:Bool) (n:Int),o=.code (.exit 0) T s0/\bB T [(1,.aw x.c),(2,.bool b),(3,iV n)]:=by
   clear d;revert o;refine ajX W.length
    (λi e s=>s=s0/\∃(b:Bool) (n:Int),bB e [(1,.aw x.c),(2,.bool b),(3,iV n),(5,wsD W),(6,iV i)])
    0 (by omega) ⟨rfl,false,0,by simp⟩ ?_ ?_
   .rintro i e s r J ⟨O,b,n,j⟩ d
    subst O;have u:(i:Int)<W.length:=by omega
    have A:=br (n:=100000) (show i<100000 by omega) (by omega);have h0:0<W[i].length:=by rw[Y _ (cb J)];exact q
    simp only[ab,ae]at j;by_cases C:(0:Int)<W[i][0]
    .simp[U.ahB,j,J,u,h0,C,A]at d;subst d;exact .inl ⟨_,_,rfl,rfl,true,i,by simp[j]⟩
    simp[U.ahB,j,J,u,h0,C,A]at d;subst d;exact .inl ⟨_,_,rfl,rfl,b,n,by simp[j]⟩
   rintro e s r ⟨O,b,n,j⟩ d
   subst O;simp only[ab,ae]at j;simp[U.ahB,j]at d;subst d;exact⟨by simp,_,b,n,rfl,by simp[j]⟩
  obtain⟨e1,b,n,rfl,m⟩:=Z;simp only[ab,ae]at m;by_cases C:(x.nx.length:Int)<=n
  .simp[m,C]at d;subst d;exact⟨true,0,false,by simp[aa]⟩
  simp[m,C]at d;subst d;exact⟨b,n,true,by simp[aa]⟩
 obtain⟨b,n,p,h⟩:=key;exact⟨b,n,p,λs=>q77 h⟩
def w39(hx:bA x)(hp:pU x){mx:Nat}(hs:mx<=200):
  ∃(d:List bE) (er:Int),(∀w∈d,(fm x 0 0 w).1≠ -1/\w.length<=400)/\d.length<=mx/\∀s,R (.call 14 [.agg x.c,iV mx] s)=.val (.cO [.psl (d.map λw=>[.psl (w.map Mv.c)]),iV er]) s:=by
 have h8:=hx.pos;have A:=w76 x.i hx.ok s0;rw[Fa.XH]at A;obtain⟨b7,n8,b9,h6⟩:=w77 hx;have h6:=h6 s0;obtain⟨W,hz,hW,J⟩:=w78 (M:=1000) (N:=400) hx (by omega);have J:=J s0;rw[show((400:Nat):Int)=400 from rfl]at J;have hb:=w62 mx 0 200 s0;rw[show decide ((0:Int)<=mx/\(mx:Int)<=200)=true by simp;omega]at hb;simp only[Fa.c,iV]at A h6 J hb;have key:∃(d:List bE) (er:Int),(∀w∈d,(fm x 0 0 w).1≠ -1/\w.length<=400)/\d.length<=mx/\pF [.tmp 4,.tmp 5] (bO R U.b39 (bc [.agg x.c,iV mx] 0) s0)=some (.cO [.psl (d.map λw=>[.psl (w.map Mv.c)]),iV er]):=by
  generalize m:bO R U.b39 (bc [.agg x.c,iV mx] 0) s0=r;by_cases ha:FH x.i
  case neg=>rw[ar ha]at A;simp[U.b39,A]at m;subst m;exact⟨[],4,by simp,by simp,by simp;exact aY (.cO (.cons .ah (.cons (.data (by simp)) .nil)))⟩
  rw[au ha]at A;simp[U.b39,A,hb,h6,J]at m;generalize ho:bO R (.loop U.aho) _ _=o at m;have hq:∃(D:En) (s':HS) (I:HV) (ao:aW) (L:cq) (d:List (HV×List Mv)),o=.code (.exit 0) D s'/\bB D [(1,iV mx),(8,iV n8),(9,.bool b9),(10,iV 400),(12,I)]/\dV s' ao ((I,1,d.map wdH)::L)/\Wds x L d/\d.length<=mx:=by
   clear m;revert o;refine ajX 401
    (λi e s=>∃(I:HV) (ao:aW) (L:cq) (d:List (HV×List Mv)),bB e [(1,iV mx),(2,.aw x.c),(8,iV n8),(9,.bool b9),(10,iV 400),(11,wsD W),(12,I),(13,iV i)]/\dV s ao ((I,1,d.map wdH)::L)/\Wds x L d/\d.length<=mx)
    0 (by omega) ⟨.ah,λ_=>none,[],[],by simp,dV.start (by simp),by simp[Wds]⟩ ?_ ?_
   .rintro i e s r hi ⟨I,ao,L,d,O,Z,u,C⟩ m
    have T:(i:Int)<=400:=by omega
    have h7:i<W.length:=by omega
    have hd:=br (n:=100000) (show i<100000 by omega) (by omega);have h0:0<W[i].length:=by rw[hW _ (cb h7)];exact h8
    have hlen:=Z.len 0 rfl;rw[bz]at hlen;simp only[ab,ae]at O;by_cases h:d.length<mx
    case neg=>
     have j:¬(d.length:Int)<mx:=by omega
     simp[U.aho,O,T,hlen,j]at m;subst m;exact .inr ⟨by simp,_,_,I,ao,L,d,rfl,by simp[O],Z,u,C⟩
    have j:(d.length:Int)<mx:=by omega
    by_cases hg:(0:Int)<W[i][0]
    case neg=>simp[U.aho,O,T,h7,h0,hlen,j,hg,hd]at m;subst m;exact .inl ⟨_,_,rfl,I,ao,L,d,by simp[O],Z,u,C⟩
    obtain⟨v5,s5,hf,L5,ht,V,hy,hj,hk,_⟩:=w79 hx hp hW (by omega) hs i h7 (w:=.ah) (l:=[]) (p:=0) Z (.inl ⟨rfl,rfl⟩) (by simp;omega) h8 rfl u h;simp only[Fa.c,iV,wsD]at V;rw[show((0:Nat):Int)=0 from rfl]at V;simp[U.aho,O,T,h7,h0,hlen,j,hg,hd,V]at m;subst m;exact .inl ⟨_,_,rfl,v5,hf,L5,ht,by simp[O],hy,hj,hk⟩
   rintro e s r ⟨I,ao,L,d,O,Z,u,C⟩ m
   simp only[ab,ae]at O;simp[U.aho,O]at m;subst m;exact⟨by simp,_,_,I,ao,L,d,rfl,by simp[O],Z,u,C⟩
  obtain⟨e1,s1,I,ao,L,d,rfl,X,Z,u,C⟩:=hq;have hlen:=Z.len 0 rfl;rw[bz]at hlen;simp only[ab,ae]at X;have h9:∀D,r=.code .ret D s1->look D 4=some .ah->look D 5=some (iV 5)->∃(d:List bE) (er:Int),(∀w∈d,(fm x 0 0 w).1≠ -1/\w.length<=400)/\d.length<=mx/\pF [.tmp 4,.tmp 5] r=some (.cO [.psl (d.map λw=>[.psl (w.map Mv.c)]),iV er]):=by
   rintro D rfl h4 h5
   exact⟨[],5,by simp,by simp,by simp[h4,h5];exact aY (.cO (.cons .ah (.cons (.data (by simp)) .nil)))⟩
  have Y:∀D,r=.code .ret D s1->look D 4=some I->look D 5=some (iV 0)->∃(d:List bE) (er:Int),(∀w∈d,(fm x 0 0 w).1≠ -1/\w.length<=400)/\d.length<=mx/\pF [.tmp 4,.tmp 5] r=some (.cO [.psl (d.map λw=>[.psl (w.map Mv.c)]),iV er]):=by
   rintro D rfl h4 h5
   refine⟨d.map Prod.snd,0,λw hw=>?_,by simpa using C,?_⟩
   .obtain⟨q,hq,rfl⟩:=cU.1 hw;exact(u q hq).2
   simp[h4,h5];refine aY (.cO (.cons ?_ (.cons (.data (by simp)) .nil)));have:=(Z.own 0 _ _ _ rfl).vwH (f:=λq:HV×List Mv=>q.1) (g:=λq=>HV.psl (q.2.map Mv.c)) (n:=14) (λq hq=>?_)
   .simpa[tP]using this
   rcases(u q hq).1 with⟨h1,h2⟩|⟨i,hi⟩
   .rw[h1,h2];exact .ah
   exact(Z.own (i+1) _ _ _ (by simpa using hi)).vw (by simp)
  by_cases h:(d.length:Int)<mx
  .cases b9
   .simp[X,hlen,h]at m;exact h9 _ m.symm (by simp) (by simp)
   by_cases hl:(400:Int)<n8
   .simp[X,hlen,h,hl]at m;exact h9 _ m.symm (by simp) (by simp)
   simp[X,hlen,h,hl]at m;exact Y _ m.symm (by simp) (by simp)
  simp[X,hlen,h]at m;exact Y _ m.symm (by simp) (by simp)
 obtain⟨d,er,h1,h2,h3⟩:=key;exact⟨d,er,h1,h2,λs=>q39 h3⟩
end
def w37{a:Ar}{x:Fa}(f:bA x)(l:bE)(h:l.length<=4611686018427387904)(s:HS):R (.call 10 [.agg (ib a x),.psl (l.map Mv.c)] s)=.val (.bool (decide (0<=(fm x 0 0 l).1))) s:=by refine q37 ?_;have d:=w74 f l h;simp only[Fa.c,iV]at d;simp[U.b37,ib,d,aa]
def w34{a:Ar}{x y:Fa}(ok:fz a)(p:bA x)(q:bA y)(r:pU y)(u:y.nx.length*x.nx.length<=100000)(h:∀s,R (.call 51 [.agg (ib a x)] s)=.val (iV 0) s)(j:∀s,R (.call 51 [.agg (ib a y)] s)=.val (iV 0) s)(b:Bool)(s:HS):
  R (.call 9 [.agg (ib a x),.agg (ib a y),.bool b] s)=.val (.cO (match oD x y b with|none=>[.psl [],iV 7]|some w=>[.psl (w.map Mv.c),iV 0])) s:=by
 refine q34 ?_;have f:=w70 ok h j;have d:=w71 (ax:=a) (ay:=a) p q r u b;simp only[ib,iV]at f d;cases m:oD x y b with|none=>rw[m]at d;simp[U.b34,ib,f,d];exact aY (.cO (.cons .ah (.cons (.data (by simp)) .nil)))|some w=>rw[m]at d;simp[U.b34,ib,f,d,aa]
def Rt.leg{a:Ar}{y:Fa}(d:Rt a y){u:bE}(h:u.length<=400)(j:(fm y 0 0 u).1≠ -1):(Gz a u).2=0:=by obtain⟨g,f⟩:=d.run;have m:=(Tb d.hx d.hc (KM d.th d.hc) d.hn d.he).fin g f;have W:=Cc d.hx d.hc f m;obtain⟨_,_,_,p,_⟩:=G3 W u 0 AM (tU a) W.st (y9.start a) rfl j;exact(Ij d.hc h).2 p
def air{a:Ar}{x y:Fa}{b:Bool}(hx:Rt a x)(d:Rt a y){w:bE}(Z:oD x y b=some w):
  ∃v m,w=v++[m]/\w.length<=400/\(Gz a w).2=0/\(fm y 0 0 w).1≠ -1/\zD m=b/\fm x 0 0 w=(-1,(v.length:Int)):=by
 have r:=KZ d.ha;have O:=Cf (b:=b) hx.hx d.hx r (aV (y.nx.length*x.nx.length));obtain⟨z,h1,e,h2,T,f⟩:=O.so w Z;have u:=ag1 h1;have I:=O.ok.ok z u;have hl:=ah4 hx d (aV _) u;have A:w.length<=400:=by rw[f];simp;omega
 have C:(fm y 0 0 w).1≠ -1:=by rw[f,pT d.hx e.m z.w 0 0 z.s _ d.hx.pos I.fy,r _ e h2];omega
 refine⟨z.w,e.m,f,A,d.leg A C,C,T.2,?_⟩;have D:(fm x 0 0 w).1= -1:=by rw[f,pT hx.hx e.m z.w 0 0 z.p _ hx.hx.pos I.fx,T.1]
 obtain⟨j,q,hq,J,V,X,g4⟩:=G5 hx.hx w 0 0 hx.hx.pos D;rw[bn]at V X;have N:j=z.w.length:=by
  rcases wo j z.w.length with h|h|h
  .have ht:w.take (j+1)=(w.take j)++[w[j]]:=eW J;have Y:=pT hx.hx w[j] (w.take j) 0 0 q _ hx.hx.pos X;rw[g4,<-ht,f,Al (by omega)]at Y;exact(ag9 x (z.w.take (j+1)) (z.w.drop (j+1)) 0 0 (by rw[Ep,I.fx];simp only;omega) Y).elim
  .exact h
  rw[f]at J;simp at J;omega
 rw[<-N,Prod.ext_iff];exact⟨D,V⟩
def ais{a:Ar}{x y:Fa}{b:Bool}(hx:Rt a x)(d:Rt a y){u:bE}(V:(fm y 0 0 u).1≠ -1)(hf:(fm x 0 0 u).1= -1):
  ∃(j:Nat) (N:j<u.length),(fm x 0 0 u).2=(j:Int)/\(zD u[j]=b->∃w,oD x y b=some w/\w.length<=j+1):=by
 have f:=KZ d.ha;obtain⟨j,q,hq,N,X,Y,g4⟩:=G5 hx.hx u 0 0 hx.hx.pos hf;rw[bn]at X Y;refine⟨j,N,X,λhb=>?_⟩;have A:(u.take j).length=j:=by rw[od];omega
 obtain⟨p,hp,C⟩:=ui d.hx (u.take j) 0 0 d.hx.pos (ag9 y _ (u.drop j) 0 0 (by rw[Ep];exact V));have O:bH y p u[j]≠ -1:=by have J:=pT d.hx u[j] (u.take j) 0 0 p _ d.hx.pos C;rw[<-List.take_succ_eq_append_getElem N]at J;rw[<-J];exact ag9 y _ (u.drop (j+1)) 0 0 (by rw[Ep];exact V)
 rcases fj d.hx hp u[j]with h|⟨r,h,_⟩
 .exact(O h).elim
 obtain⟨e,D,T,_⟩:=D1 h;have Z:UX x y (u.take j) p q:=⟨by rw[C,bn],by rw[Y,A]⟩;have I:bH x q e.m= -1/\zD e.m=b:=by rw[T];exact⟨g4,hb⟩
 have J:=(G7 (b:=b) hx.hx d.hx f (aV (y.nx.length*x.nx.length))).2 ⟨_,p,q,Z,e,D,I⟩;obtain⟨w,hw⟩:=ahV.1 J;refine⟨w,hw,?_⟩;have:=aiq hx.hx d.hx f hw Z D I;rw[A]at this;exact this
def ait{a:Ar}{w:bE}(h:(Gz a w).2=0){m:Mv}(f:m∈w):dS m= !decide (m.kind=3):=by obtain⟨_,_,_,d,_⟩:=fR (aim h m f);unfold dS;rcases d with d|d|d<;>simp[d]
section
variable{a:Ar}{x y:Fa}{b:Bool}
def aiu(rx:Rt a x)(f:Rt a y){u:bE}(h:(fm y 0 0 u).1≠ -1)(p:u.length<=400):
  ahn a x u=(-1,false,0)∨∃(j:Nat) (c:Bool),ahn a x u=((j:Int),c,0)/\j<=400/\(c=b->∃w,oD x y b=some w/\w.length<=j+1):=by
 have m:aha a u=0:=by rw[ahh a rx.th.ok];exact f.leg p h
 by_cases d:(fm x 0 0 u).1= -1
 .obtain⟨j,q,r,A⟩:=ais (b:=b) rx f h d;refine .inr ⟨j,zD u[j],?_,by omega,A⟩;unfold ahn;rw[au m,au d,r,gD,getD_at q]
 refine .inl ?_;unfold ahn;rw[au m,ar d]
def w8l(rx:Rt a x)(ry:Rt a y){q:List bE}(V:∀u∈q,(fm y 0 0 u).1≠ -1/\u.length<=400)(hl:q.length<=200){e:En}{o:Out}
  (f:bB e [(2,.bool b),(3,.aw (ib a x)),(7,.bool (!(oD x y b).isSome)),(9,.psl (((oD x y b).getD []).map Mv.c)),(14,.psl (q.map λw=>[.psl (w.map Mv.c)])),(16,iV 0)])(ho:bO R (.loop U.ahz) e s0=o):
  ∃e',o=.code (.exit 0) e' s0:=by
 have X:∀t∈a.ids,t.ps.length<=6:=λt h=>(rx.th.2.2 t h).1
 have m:=w32 ⟨a,x.i⟩ rx.th.1 X rx.hx.ok;rw[NJ]at m;revert o;show∀o,_;refine ajX q.length
  (λi e s=>s=s0/\bB e [(2,.bool b),(3,.aw (ib a x)),(7,.bool (!(oD x y b).isSome)),(9,.psl (((oD x y b).getD []).map Mv.c)),(14,.psl (q.map λw=>[.psl (w.map Mv.c)])),(16,iV i)])
  0 (by omega) ⟨rfl,f⟩ ?_ ?_
 .rintro i e s r T ⟨Y,f⟩ p
  subst Y;have A:(i:Int)<q.length:=by omega
  have C:=br (n:=200) (show i<200 by omega) (by omega);obtain⟨g1,g2⟩:=V _ (cb T);have D:=w15 q[i] (by omega);have d:=w31 rx.th.ok rx.hx rx.Ot q[i] (by omega);have I:=aiu (b:=b) rx ry g1 g2;simp only[ab,ae,ib]at f;simp only[ib,iV]at m d;rcases I with I|⟨j,c,I,h2,hc⟩
  .rw[I]at d;simp only[iV]at d;simp[U.ahz,U.ah6,f,T,A,m,D,d,C]at p;subst p;exact .inl ⟨_,_,rfl,rfl,by simp[f,ib]⟩
  rw[I]at d;simp only[iV]at d;have J:(0:Int)<=j:=by omega
  by_cases N:c=b
  .obtain⟨w,hw,h3⟩:=hc N;rw[hw]at f ⊢;simp only[ah3,gB,mB]at f ⊢;have Z:bT .i64 ((j:Int)+1)=j+1:=cx (by omega) (by omega);have h1:¬(j:Int)+1<w.length:=by omega
   subst N;simp[U.ahz,U.ah6,f,T,A,m,D,d,C,Z,h1,J]at p;subst p;exact .inl ⟨_,_,rfl,rfl,by simp[f,ib]⟩
  have O:(c==b)=false:=by cases c<;>cases b<;>simp_all
  simp[U.ahz,U.ah6,f,T,A,m,D,d,C,O,J]at p;subst p;exact .inl ⟨_,_,rfl,rfl,by simp[f,ib]⟩
 rintro e s r ⟨Y,f⟩ p
 subst Y;simp only[ab,ae,ib]at f;simp[U.ahz,f]at p;subst p;exact⟨by simp,_,rfl⟩
def w8t(rx:Rt a x)(p:Rt a y)(r:∀s,R (.call 4 [.agg (ib a x)] s)=.val (.bool true) s)(u:∀s,R (.call 4 [.agg (ib a y)] s)=.val (.bool true) s)(s:HS):
  R (.call 3 [.agg (ib a x),.agg (ib a y),.bool b] s)=.val (.bool true) s:=by
 refine q8 ?_ rfl (by simp[ib]);have X:=Og;have ok:=rx.th.ok;have hn:=Ox p.hn rx.hn;have ha:a.ids.length<=9:=rx.th.1;have Y:∀t∈a.ids,t.ps.length<=6:=λt h=>(rx.th.2.2 t h).1
 have D:=w30 a a ok;rw[dq rfl]at D;have f:=w32 ⟨a,x.i⟩ ha Y rx.hx.ok;rw[NJ]at f;have j:=w32 ⟨a,y.i⟩ ha Y p.hx.ok;rw[NJ]at j;have A:=w33 ok rx.hx p.hx (KZ p.ha) (by omega) rx.Ot p.Ot b;have C:=w34 ok rx.hx p.hx (KZ p.ha) (by omega) rx.Ot p.Ot b;obtain⟨ws,er,h6,hg,I⟩:=w39 p.hx (KZ p.ha) (mx:=20) (by omega);rw[show((20:Nat):Int)=20 from rfl]at I;have d:=λ{e:En} {o:Out}=>w8l (e:=e) (o:=o) (b:=b) rx p h6 (by omega)
 cases hf:oD x y b with
 |none=>rw[hf]at A C d;simp only[ib,iV,Ar.c,Fa.c,IL,ua]at r u D f j A C I;simp-implicitDefEqProofs[U.b8,U.aiw,ib,r,u,D,f,j,A,C,I];generalize ho:bO R (.loop U.ahz) _ _=o;obtain⟨e',rfl⟩:=d (by simp[iV,ib]) ho;simp[X,aa]
 |some w=>
  obtain⟨v,m,Z,hk,h1,h7,h2,h8⟩:=air rx p hf;have h3:v.length<w.length:=by rw[Z];simp
  have h4:w[v.length]=m:=by simp[Z]
  have hlen:w.length=v.length+1:=by rw[Z];simp
  have J:(w.length:Int)=(v.length:Int)+1:=by omega
  have hp:aha a w=0:=by rw[ahh a ok];exact h1
  have h9:=w15 w (by omega);have N:=w31 ok rx.hx rx.Ot w (by omega);have hj:ahn a x w=((v.length:Int),b,0):=by unfold ahn;rw[au hp,h8,au rfl,gD,getD_at h3,h4,h2]
  rw[hj]at N;have O:=w37 (a:=a) p.hx w (by omega);obtain⟨q,hq,hb⟩:=ui p.hx w 0 0 p.hx.pos h7;rw[hb,dq (by simp only;omega)]at O;have T:=w38 m (ait h1 (by rw[Z];simp));rw[h2]at T;rw[hf]at A C d;have V:¬(400:Int)<w.length:=by omega
  have h5:bT .i64 ((w.length:Int)-1)=v.length:=by rw[J];rw[show(v.length:Int)+1-1=v.length by omega];exact cx (by omega) (by omega)
  have hd:¬w=[]:=by rw[Z];simp
  simp only[ib,iV,Ar.c,Fa.c,ah3,mB]at r u D f j A C I N O;simp only[Mv.c]at T;simp-implicitDefEqProofs[U.b8,U.aiw,ib,r,u,D,f,j,A,C,O,V,h5,h3,h4,hd,T,h9,N,I];generalize ho:bO R (.loop U.ahz) _ _=o;obtain⟨e',rfl⟩:=d (by simp[iV,ib]) ho;simp[X,aa]
end
def ahJ(t u:Sx)(b:Bool)(I:∀r∈t.x.nx,r.length<=70368744177664)(J:∀r∈u.x.nx,r.length<=70368744177664)(s:HS):
  R (.call 3 [.agg t.c,.agg u.c,.bool b] s)=.val (.bool true) s:=by
 have d:=Og;obtain⟨N,h,O⟩:=w29 t I;obtain⟨T,p,V⟩:=w29 u J;have j:=h;have m:=p;simp only[Sx.c]at h p;cases N
 .refine q8 ?_;simp-implicitDefEqProofs[U.b8,h,d,aa]
 cases T
 .refine q8 ?_;simp-implicitDefEqProofs[U.b8,h,p,d,aa]
 obtain⟨x,A,rx⟩:=O rfl;obtain⟨y,C,D⟩:=V rfl;by_cases q:t.a=u.a
 .obtain⟨X,tx⟩:=t;obtain⟨Y,Z⟩:=u;simp only at A C rx D q;subst A C q;rw[NJ]at j m ⊢;rw[NJ];exact w8t rx D j m s
 have f:=w30 t.a u.a rx.th.ok;rw[cK q]at f;simp only[Ar.c]at f;refine q8 ?_;simp-implicitDefEqProofs[U.b8,h,p,f,d,aa]
end Go.Proofs.YtcfbbbjhnaienaaGreatDoor.K.Hm.S
namespace Go.Proofs.YtcfbbbjhnaienaaGreatDoor.K.Hm
open Go Go.RowKit
def K4(b:Nat):¬Live (λ_=>False) s0 (λ_=>none) b:=by
 rintro(d|⟨o,ob,pl,h,f,j⟩)
 .exact d
 cases f
def agd(d:Nat->Option Obj)(P:Program)(W:World):bW (λ_=>False) (CR d P) (λ_=>none) s0 W:=
 ⟨λo pl h=>(by cases h),λo ob h=>(by cases h),λo m ob f pl j h=>(by cases h),λo t p q g h=>(by cases h),λg r h=>(by cases h),λb h=>h.elim,λb h=>h.elim,λo E n h=>(by cases h)⟩
def F4{P:Program}{L:jE}(F:ag5 P L){prog oi:Nat->Option HF}(V:P.follows .mixedOrders=true)(j:∀f F,prog f=some F->pq P f F=true)(d:∀f F,oi f=some F->pq P f F=true)
  {n A f t:Nat}(h0:isTrue (run {L with ve:=none} oi A (.call t [] s0))=true){args:ai}{s':HS}(h:run {L with ve:=some t} prog n (.call f args s0)=.val (.bool true) s'){W:World}
  (X:Lib.TabIs P W "internal/strconv.uint64pow10" .u64 Lib.pow10Tab){vs:List Value}(D:eQ (λ_=>none) (λ_=>False) W args vs):Calls P f vs.toArray W λe T=>e=.returned (.bool true)/\Below W.heap.size W T:=by
 obtain⟨Y,I,C⟩:=F.sound V X;have J:=C oi d none (λt h=>by cases h);obtain⟨s1,Z⟩:∃s',run {L with ve:=none} oi A (.call t [] s0)=.val (.bool true) s':=by
  cases N:run {L with ve:=none} oi A (.call t [] s0)with
  |val v s'=>
   rw[N]at h0;cases v with
   |bool b=>cases b with
    |true=>exact⟨s',rfl⟩
    |false=>cases h0
   |_=>cases h0
  |code=>rw[N]at h0;cases h0
  |bad=>rw[N]at h0;cases h0
 have p:=zs (J A) Z;have C:=C prog j (some t) (λt' h=>by cases h;exact p);obtain⟨_,hc⟩:=(C n).call f args s0 (.bool true) s' h;have q:eQ (λ_=>none) (Live (λ_=>False) s0 (λ_=>none)) W args vs:=D.keep (Bt.le_refl _) (λb _ O=>K4 b O) (cJ.refl _ _);refine(hc (λ_=>False) (λ_=>none) W vs (agd Y P W) (λb o O=>⟨I b o O,K4 b⟩) q).mono ?_
 rintro e T ⟨u,β',rfl,_,r,hu⟩
 cases hu;exact⟨rfl,r.os,r.tape,r.output,r.keeps.size,λk hk=>r.keeps.same k hk (K4 k)⟩
open Go Go.ChangeShapes
section
variable{H:Type}{enc:TypeId×Value->H}{P:Program}{w:World}
abbrev HR0(w:World):=HR (λ_=>none) (λ_=>False) w
abbrev F5(w:World):=eQ (λ_=>none) (λ_=>False) w
abbrev D3(enc:TypeId×Value->H)(P:Program)(w:World):=DataW.trod enc P w 0 (λ_=>true) true
abbrev Zl(P:Program)(t:TypeId)(d:DataW H):Prop:=∀n∈d.weights P t,n<=reachBytes
def pV{e:TypeId}:∀{l:List (DataW H)} {d:DataW H},d∈l->∀n∈d.weights P e,n∈DataW.weightsAll P e l
 |x::l,d,f,n,h=>by
  rw[DataW.weightsAll];rcases bk.1 f with rfl|f
  .exact ph _ h
  exact A0 _ (pV f n h)
def iz:∀{f:List TypeId} {j:List (DataW H)} (i:Nat) {t:TypeId} {d:DataW H},f[i]?=some t->j[i]?=some d->∀n∈d.weights P t,n∈DataW.weightsEach P f j
 |[],_,i,t,d,h,_,_,_=>by simp at h
 |_::_,[],i,t,d,_,h,_,_=>by simp at h
 |t0::f,r::j,0,t,d,m,p,n,q=>by cases m;cases p;rw[DataW.weightsEach];exact ph _ q
 |t0::f,r::j,i+1,t,d,m,p,n,q=>by rw[DataW.weightsEach];exact A0 _ (iz i m p n q)
structure gM(enc:TypeId×Value->H)(P:Program)(w:World)(t:TypeId){α:Type}(c:α->ai)(B:α->Prop):Prop where
 one:∀a,∀v∈c a,v.one=true
 len:∀a,(c a).length=P.cellsOf t
 rd:∀fuel cs x,D3 enc P w fuel t cs=some x->Zl P t x.1->∃a:α,B a/\F5 w (c a) cs
def gM.Oy{t:TypeId}{α β:Type}{c:α->ai}{B:α->Prop}{c':β->ai}{B':β->Prop}(h:gM enc P w t c B)(g:β->α)(d:∀b,c' b=c (g b))(f:α->β)(j:∀a,c' (f a)=c a)(m:∀a,B a->B' (f a)):gM enc P w t c' B':=
 ⟨λb v p=>h.one (g b) v (by rw[<-d];exact p),λb=>by rw[d];exact h.len _,λfuel q x r u=>by
  obtain⟨a,A,C⟩:=h.rd fuel q x r u;exact⟨f a,m a A,by rw[j];exact C⟩⟩
def AO{t:TypeId}{k:IntKind}(d:P.underlying t=some (.int k))(f:P.cellsOf t=1):gM enc P w t (λn:Int=>[.int k n]) (λ_=>True):=
 ⟨λa v j=>by rw[cr.1 j];rfl,λa=>by rw[f];rfl,λfuel m x h _=>by
  obtain⟨n,rfl,_⟩:=DataW.trod_int d h;exact⟨n,trivial,.cons (.int _ _) .nil⟩⟩
def F6{t:TypeId}(d:P.underlying t=some .bool)(f:P.cellsOf t=1):gM enc P w t (λb:Bool=>[.bool b]) (λ_=>True):=
 ⟨λa v j=>by rw[cr.1 j];rfl,λa=>by rw[f];rfl,λfuel m x h _=>by
  obtain⟨b,rfl,_⟩:=DataW.trod_bool d h;exact⟨b,trivial,.cons (.bool _) .nil⟩⟩
def uS{α:Type}{Q:Nat->α->Prop}:∀(n:Nat),(∀i,i<n->∃a,Q i a)->∃l:List α,l.length=n/\∀i (h:i<l.length),Q i l[i]
 |0,_=>⟨[],rfl,λi h=>absurd h (by simp)⟩
 |n+1,h=>by
  obtain⟨l,d,m⟩:=uS n (λi f=>h i (by omega));obtain⟨a,p⟩:=h n (by omega);refine⟨l++[a],by simp[d],λi f=>?_⟩;rw[bZ,dB]at f;by_cases j:i<l.length
  .rw[yy j];exact m i j
  have:i=n:=by omega
  subst this;rw[FO (by omega)];simpa[d]using p
def uk{a:Addr}{n:Nat}{cs:List Value}(h:w.cells? 0 a n=some cs):cs.length=n/\∀j,j<n->w.cell? (a.add j)=cs[j]?:=by unfold World.cells? at h;rw[au (fN _)]at h;exact⟨by simpa using mapM_some_length h,λj d=>mapM_some_get h j j (by simp[d])⟩
def jU{t e:TypeId}(ht:P.underlying t=some (.slice e))(h7:P.cellsOf t=1)(A:0<P.cellsOf e){α:Type}{c:α->ai}{B:α->Prop}(O:gM enc P w e c B):
  gM enc P w t (λl:List α=>[.psl (l.map c)]) (λl=>(∀r∈l,B r)/\l.length*P.bytesOf e<=reachBytes):=by
 refine⟨λa v I=>by rw[cr.1 I];rfl,λa=>by rw[h7];rfl,λfuel cs x h hw=>?_⟩;have nil:(∀r∈([]:List α),B r)/\([]:List α).length*P.bytesOf e<=reachBytes:=⟨by simp,by simp⟩;rcases DataW.trod_slice ht h with⟨rfl,_⟩|⟨a,len,cap,C,X,n,_,rfl,rfl,_,h8,_,hf,Y,_,_⟩
 .exact⟨[],nil,.cons (.psl0 none 0 (λ_=>rfl)) .nil⟩
 by_cases h0:len=0
 .subst h0;exact⟨[],nil,.cons (.psl0 (some a) cap (λh=>by cases h)) .nil⟩
 have Z:(C.length+X.length)*P.bytesOf e<=reachBytes/\∀d∈C,Zl P e d.1:=by simp only[Zl,DataW.weights,ht,bk,l5,bz]at hw;exact⟨hw _ (.inl rfl),λd hd n hn=>hw n (.inr (.inl (pV (Jd hd) n hn)))⟩
 have D:∀i,i<len->∃r:α,B r/\∃q,w.cells? 0 (a.add (i*P.cellsOf e)) (P.cellsOf e)=some q/\F5 w (c r) q:=by intro i f;have hg:=Y i f;rw[aX (by omega)]at hg;obtain⟨q,T,V⟩:=ag3.1 hg;obtain⟨r,hb,O⟩:=O.rd _ _ _ V (Z.2 _ (cb _));exact⟨r,hb,q,T,O⟩
 obtain⟨rows,hlen,m⟩:=uS len D;obtain⟨b,o,spot⟩:=a;have J:spot=none:=by obtain⟨_,q,T,_⟩:=m 0 (by omega);have V:=(uk T).2 0 A;rw[aX (by rw[(uk T).1];exact A)]at V;simpa[Addr.add]using World.cell?_spot V
 subst J;have h6:∀i j,(Addr.add (Addr.add ⟨b,o,none⟩ i) j)=⟨b,o+(i+j),none⟩:=λi j=>by rw[gA,gA];congr 1;omega
 subst hlen;have p:∀i j,i<rows.length->j<P.cellsOf e->∃u,du w b (o+(i*P.cellsOf e+j))=some u/\∀v,(rows.map c)[i]?=some v->∀y,v[j]?=some y->HR0 w y u:=by intro i j f hj;obtain⟨_,q,T,V⟩:=m i f;obtain⟨h3,h4⟩:=uk T;have h5:=h4 j hj;rw[h6,aX (by omega)]at h5;refine⟨_,h5,λv I y hy=>?_⟩;simp[f]at I;subst I;exact V.2 j y _ hy (aX (by omega))
 refine⟨rows,⟨λr hm=>?_,?_⟩,.cons ?_ .nil⟩
 .obtain⟨i,f,rfl⟩:=eO.1 hm;exact(m i f).1
 .exact fu (ji _ (by omega)) Z.1
 have hb:b<w.heap.size:=by obtain⟨u,hu,_⟩:=p 0 0 (by omega) A;exact rM hu
 have h9:=HR.psl (β:=λ_=>none) (N:=λ_=>False) (w:=w) (rows.map c) b o cap (P.cellsOf e) (λi j=>(du w b (o+(i*P.cellsOf e+j))).getD Go.undef) (λh=>h) hb (by simpa using h8)
  (λi row f=>by
   obtain⟨r,_,rfl⟩:=cU.1 (cE f);exact O.len r)
  (λrow D v I=>by
   obtain⟨r,_,rfl⟩:=cU.1 D;exact O.one r v I)
  (λi j f hj=>by
   rw[bz]at f;obtain⟨u,hu,_⟩:=p i j f hj;rw[hu];rfl)
  (λi row j y f hy=>by
   have ha:i<rows.length:=by have:=(aU.1 f).1;simpa using this
   have hj:j<P.cellsOf e:=by obtain⟨r,_,rfl⟩:=cU.1 (cE f);rw[<-O.len r];exact(aU.1 hy).1
   obtain⟨u,hu,I⟩:=p i j ha hj;rw[hu];exact I row f y hy)
 simpa using h9
structure FA(enc:TypeId×Value->H)(P:Program)(w:World)(fs:Array Field)(i o k:Nat){α:Type}(c:α->ai)(B:α->Prop):Prop where
 f:∃f,fs[i]?=some f/\f.offset=o/\P.cellsOf f.type=k/\gM enc P w f.type c B
structure RF(enc:TypeId×Value->H)(P:Program)(w:World)(t:TypeId)(fs:Array Field)(i o:Nat){α:Type}(c:α->ai)(B:α->Prop):Prop where
 one:∀a,∀v∈c a,v.one=true
 len:∀a,o+(c a).length=P.cellsOf t
 rd:∀fuel cs x,D3 enc P w fuel t cs=some x->Zl P t x.1->∃a:α,B a/\F5 w (c a) (cs.drop o)
section
variable{t:TypeId}{fs:Array Field}{i o k:Nat}{α β:Type}{c:α->ai}{B:α->Prop}{c':β->ai}{B':β->Prop}
def fa(k:Nat){f:Field}(d:fs[i]?=some f)(h:f.offset=o)(j:P.cellsOf f.type=k)(m:gM enc P w f.type c B):FA enc P w fs i o k c B:=⟨f,d,h,j,m⟩
def FA.get(A:FA enc P w fs i o k c B)(r:P.underlying t=some (.struct fs)){fuel:Nat}{cs:List Value}{x:DataW H×List MemPlace}(h:D3 enc P w fuel t cs=some x)(C:Zl P t x.1):cs.length=P.cellsOf t/\∃a,B a/\F5 w (c a) ((cs.drop o).take k):=by
 obtain⟨f,j,rfl,rfl,D⟩:=A.f;obtain⟨I,n,_,rfl,h0,p,J⟩:=DataW.trod_struct r h;have u:=J i f j;have q:=(rL.1 j).1;rw[aX (by rw[p];exact q)]at u;refine⟨h0,D.rd n _ _ u λm N=>C m ?_⟩;simp only[DataW.weights,r];refine iz i (t:=f.type) (d:=(I[i]'(by rw[p];exact q)).1) ?_ ?_ m N
 .rw[fV,mA,j];rfl
 rw[fV,aX (by rw[p];exact q)];rfl
def FA.len(d:FA enc P w fs i o k c B)(a:α):(c a).length=k:=by obtain⟨f,_,_,rfl,h⟩:=d.f;exact h.len a
def FA.one(d:FA enc P w fs i o k c B)(a:α):∀v∈c a,v.one=true:=by obtain⟨f,_,_,_,h⟩:=d.f;exact h.one a
def RF.last(d:P.underlying t=some (.struct fs))(h:FA enc P w fs i o k c B)(f:o+k=P.cellsOf t):RF enc P w t fs i o c B:=
 ⟨h.one,λa=>by rw[h.len];exact f,λfuel q x j m=>by
  obtain⟨r,p⟩:=h.get d j m;rwa[fD (by rw[Ej];omega)]at p⟩
def RF.cons(j:P.underlying t=some (.struct fs))(h:FA enc P w fs i o k c B)(r:RF enc P w t fs (i+1) (o+k) c' B'):RF enc P w t fs i o (λp:α×β=>c p.1++c' p.2) (λp=>B p.1/\B' p.2):=
 ⟨λp v m=>(l5.1 m).elim (h.one _ v) (r.one _ v),λp=>by rw[bZ,h.len,<-r.len p.2];omega,λfuel q x d f=>by
  obtain⟨_,a,u,A⟩:=h.get j d f;obtain⟨b,C,D⟩:=r.rd fuel q x d f;refine⟨(a,b),⟨u,C⟩,?_⟩;have:=eQ.append A D;rwa[<-List.drop_drop,Ep]at this⟩
def RF.reads(h:RF enc P w t fs 0 0 c B):gM enc P w t c B:=
 ⟨h.one,λa=>by rw[<-h.len a];omega,λfuel d x f j=>by simpa using h.rd fuel d x f j⟩
end
end
open Go Go.ChangeShapes
section
variable{H:Type}{enc:TypeId×Value->H}{P:Program}{w:World}
open S
def um(x:Ax):Prop:=∀r∈x.nx,r.length<=70368744177664
def ah5{α β:Type}{cp:α->ai}{cw:β->ai}{Bp:α->Prop}{Bw:β->Prop}{h q r:TypeId}{fs T:Array Field}{Zm:Nat}{args:Array Value}{ts:List TypeId}{ds gs:List (DataW H)}{p:List MemPlace}
  (hA:DataW.TrodAll enc P w 0 (λ_=>true) true [h,q,r] args.toList ds p)(hz:(DataW.weightsEach P ([h,q,r]++ts) (ds++gs)).all (· <=reachBytes)=true)
  (V:∀(j:Nat) t v,#[h,q,r][j]?=some t->args[j]?=some v->Value.okWide P w .any Zm t v)
  (X:P.underlying h=some (.struct fs))(C:gM enc P w h cp Bp)(Y:P.underlying q=some (.struct T))(D:gM enc P w q cw Bw)(A:P.underlying r=some .bool):
  ∃(a:α) (m:β) (b:Bool),Bp a/\Bw m/\F5 w [.agg (cp a),.agg (cw m),.bool b] args.toList:=by
 obtain⟨v1,v2,I,d1,d2,d3,p1,p2,p3,rfl,rfl,rfl,d,f,Z⟩:=trodAll_three hA;have o1:=V 0 h v1 rfl rfl;have o2:=V 1 q v2 rfl rfl;have o3:=V 2 r I rfl rfl;unfold Value.okWide at o1 o2 o3;rw[X]at o1;rw[Y]at o2;rw[A]at o3;obtain⟨cs,rfl,_,_⟩:=o1;obtain⟨J,rfl,_,_⟩:=o2;have o3:Cell.okWide P w .any Zm r I:=o3;have n3:I.cells= #[I]:=by cases I with|agg c=>exfalso;unfold Cell.okWide Cell.ok at o3;rw[A]at o3;exact o3|_=>rfl
 have N:∀n∈DataW.weightsEach P ([h,q,r]++ts) ([d1,d2,d3]++gs),n<=reachBytes:=λn O=>by simpa using fG.1 hz n O
 obtain⟨f1,d⟩:=d;obtain⟨f2,f⟩:=f;obtain⟨f3,Z⟩:=Z;have d:D3 enc P w f1 h cs.toList=some (d1,p1):=d;obtain⟨a,hb,ha⟩:=C.rd _ _ _ d (λn O=>N n (iz 0 rfl rfl n O));have f:D3 enc P w f2 q J.toList=some (d2,p2):=f;obtain⟨m,h4,hm⟩:=D.rd _ _ _ f (λn O=>N n (iz 1 rfl rfl n O));obtain⟨b,hv,_⟩:=DataW.trod_bool A Z;rw[n3]at hv;cases hv;exact⟨a,m,b,hb,h4,.cons (.agg _ cs (C.one a) (by simpa using ha.1) (λi v u d f=>ha.2 i v u d (by simpa using f))) (.cons (.agg _ J (D.one m) (by simpa using hm.1) (λi v u d f=>hm.2 i v u d (by simpa using f))) (.cons (.bool _) .nil))⟩
end
end Go.Proofs.YtcfbbbjhnaienaaGreatDoor.K.Hm
namespace Go.Proofs.YtcfbbbjhnaienaaGreatDoor.K.Hm.U
open Go
def f12:=h0 102 0 [0,1,2,3,4,5,6,7,8,10,11,12] [.tmp 0] (S (g [0] [Z 0]) (S (g [1,2,3] [j 14 18,o 15 (.call 19 [.k (.str [48,63,32,50,63,32,50,33,48,32,48,33,49])]),C 16 12 14 15,m 13 16,x 17 13 0,x 18 13 1,x 19 13 2,m 1 17,m 2 18,m 3 19]) (S (g [4,5] [j 21 18,j 22 21,o 23 (.bsl 1 [.k (.str [48,63,32,50,63,32,50,33,49,32,48,33,48])]),C 24 20 22 23,o 25 (.call 7 [.t 21,.t 24,.k (.bool false)]),m 20 25,x 26 20 0,x 27 20 1,m 4 26,m 5 27]) (S (g [6,7] [j 29 21,o 30 (.call 19 [.k (.str [48,63,32,49,63,32,49,46,49,63,32,49,63,32,49,33,48,32,49,46,49,33,49,32,49,33,48,32,48,33,48])]),o 31 (.call 22 [.t 29,.k (.int .i64 1),.t 30]),m 28 31,x 32 28 0,x 33 28 1,m 6 32,m 7 33]) (S (g [8] [j 35 21,o 36 (.call 23 [.t 35,.k (.int .i64 1)]),m 34 36,x 37 34 0,x 38 34 1,o 8 al2,s 4 8 37,m 9 38]) (S (d [10,11,12] [u 0 (j 40 21),w 1 (L 41 8 4) 0 1,r 2 (o 42 (.fbl 1 [.k (.str [48,63,32,49,63,32,49,33,49,32,48,33,48])])),u 3 (C 43 20 41 42),u 5 (o 45 (.call 19 [.k (.str [48,63,32,49,63,32,49,46,49,63,32,49,63,32,49,33,48,32,49,46,49,33,49,32,49,33,48,32,48,33,48])])),r 4 (o 44 (.build [.x (.t 40) 4,.x (.k (.int .i64 1)) 1,.x (.t 43) 6])),u 6 (C 46 24 44 45),r 7 (m 39 46),r 8 (x 47 39 0),r 9 (x 48 39 1),r 10 (x 49 39 2),r 11 (m 10 47),r 12 (m 11 48)] [m 12 49]) (S (d [0] [r 0 (m 50 3),r 1 (i 51 .eql 50 0),r 2 (m 52 51),r 3 (mT 53 1 52),r 4 (iT 54 .eql 53 3 52),r 5 (y 55 52 54),r 6 (m 56 55),r 7 (mT 57 2 56),r 8 (NT 58 57 56),r 9 (y 59 56 58),r 10 (m 60 59),r 11 (mT 61 5 60),r 12 (iT 62 .eql 61 0 60),r 13 (y 63 60 62),r 14 (m 64 63),r 15 (mT 65 4 64),r 16 (NT 66 65 64),r 17 (y 67 64 66),r 18 (m 68 67),r 19 (mT 69 7 68),r 20 (iT 70 .eql 69 0 68),r 21 (y 71 68 70),r 22 (m 72 71),r 23 (mT 73 6 72),w 24 (nT 74 73 72) 0 0,r 25 (iT 75 .eql 74 2 72),r 26 (y 76 72 75),r 27 (m 77 76),u 31 (G 81 (.call 19 [.k (.str [48,63,32,49,63,32,49,33,49,32,48,33,48])]) 77 true),r 28 (mT 78 6 77),r 29 (G 79 (.ia (.t 78) (.k (.int .i64 0)) 1) 77 true),w 30 (lT 80 79 77) 0 1,u 32 (CT 82 25 80 81 77),r 33 (y 83 77 82),r 34 (m 84 83),u 38 (G 88 (.call 19 [.k (.str [48,63,32,48,33,48])]) 84 true),r 35 (mT 85 6 84),r 36 (G 86 (.ia (.t 85) (.k (.int .i64 1)) 1) 84 true),w 37 (lT 87 86 84) 2 3] [CT 89 25 87 88 84,y 90 84 89,m 91 90,mT 92 12 91,iT 93 .eql 92 0 91,y 94 91 93,m 95 94,mT 96 10 95,iT 97 .eql 96 4 95,y 98 95 97,m 99 98,mT 100 11 99,y 101 99 100,m 0 101]) R)))))))
def f40:=h0 4 0 [0] [.cell 0 (some 6)] (S (g [0] [o 0 al6]) (F [] [j 1 21,o 2 (.bsl 1 [.k (.str [48,63,32,50,63,32,50,33,48,32,48,33,48]),.k (.str [48,63,32,50,63,32,50,33,49,32,48,33,49])]),C 3 20 1 2,s 6 0 3]))
def f41:=h0 11 1 [0,2,3] [.tmp 2] (S (g [2] [Q 2]) (S (g [3] [m 6 0,c 7 44 6,m 5 7,x 8 5 0,x 9 5 1,m 3 8,m 4 9]) (F [2] [m 10 3,m 2 10])))
def Zn:=S (A [12] [m 9 6,m 10 1,n 11 10,z 12 .lss 9 11] 12 W (X 0)) (S (T 1 (g [5] [m 15 5,m 16 1,m 17 6,a 18 16 17 1,l 19 18,c 20 19 19,q 21 1 20,p 22 1 5864062014805 15 21,m 5 22])) (t 6 13 14))
def f42:=h0 31 2 [0,1,2,4,5,6,7,12] [.cell 4 (some 6)] (S (g [2,4] [b 2 0,o 4 al6]) (S (g [5] [Q 5]) (S (S (g [6] [K 6 0]) (T 0 (M Zn))) (S (g [7] [m 24 5,c 25 45 24,m 23 25,x 26 23 0,x 27 23 1,o 7 al3,s 2 7 26,m 8 27]) (F [] [L 28 2 4,L 29 7 2,o 30 (.build [.x (.t 28) 4,.x (.t 29) 2]),s 6 4 30])))))
def f43:=h0 10 0 [0] [.cell 0 (some 4)] (S (g [0] [o 0 al2]) (F [] [o 1 (.build [.z [.bool false],.x (.k (.int .i64 2)) 1]),o 2 (.bsl 2 [.t 1]),o 3 (.build [.z [.bool false],.x (.k (.int .i64 1)) 1]),o 4 (.build [.x (.t 2) 1,.x (.t 3) 2]),o 5 (.build [.z [.bool false],.x (.k (.int .i64 2)) 1]),o 6 (.build [.z [.ah],.x (.t 5) 2]),o 7 (.bsl 3 [.t 4,.t 6]),o 8 (.build [.z [.bool false],.x (.k (.int .i64 2)) 1]),o 9 (.build [.x (.t 7) 1,.x (.t 8) 2,.z [.bool false]]),s 4 0 9]))
def Zo:=S (g [24] [z 24 .lss 23 22]) (S (I 24 W (X 0)) (S (T 1 (S (g [10] [a 25 21 23 1,l 26 25,m 10 26]) (g [6] [m 27 6,m 28 10,m 29 2,C 30 48 28 29,q 31 1 30,p 32 1 5864062014805 27 31,m 6 32]))) (g [23] [i 33 .add 23 1,m 23 33])))
def f19:=h0 35 3 [0,1,2,3,6,7,8,10,16,21,22,23,24] [.tmp 6,.tmp 7] (S (g [3,6,7] [b 3 0,Q 6,K 7 0]) (S (S (g [8] [L 11 3 4,m 12 1,m 13 2,J 14 46 11 12 13,m 8 14]) (A [16] [m 15 8,i 16 .neq 15 0] 16 (F [6,7] [m 17 8,Q 6,m 7 17]) W)) (S (S (g [21,22,23] [L 18 3 4,m 19 1,m 20 2,J 21 47 18 19 20,n 22 21,K 23 0]) (T 0 (M Zo))) (F [6,7] [m 34 6,m 6 34,K 7 0]))))
def Zp:=g [8] [f 29 7 1,L 30 29 2,f 31 2 3,l 32 31,m 33 32,fF 34 7 0 33,lF 35 34 33,nF 36 35 33,iF 37 .gtr 36 0 33,Y 38 33 37,o 39 (.build [.z [.ah],.x (.t 30) 2,.x (.t 38) 1]),o 8 al2,s 4 8 39]
def Zq:=S (A [44] [m 40 9,f 41 7 0,l 42 41,n 43 42,z 44 .lss 40 43] 44 W (X 0)) (S (T 1 (d [] [r 0 (f 47 8 0),w 1 (l 48 47) 0 0,r 2 (f 49 7 0),w 3 (l 50 49) 0 0,r 4 (m 51 9),r 5 (a 52 50 51 2),w 6 (L 53 52 2) 0 0,r 7 (o 54 (.build [.z [.ah],.x (.t 53) 2])),r 8 (q 55 3 54)] [p 56 3 3518437208883 48 55,f 57 8 0,s 1 57 56])) (t 9 45 46))
def f26:=h0 59 2 [0,1,2,4,5,6,7,8,9,13,21,44] [.cell 4 (some 4),.tmp 5] (S (g [2,4,5] [b 2 0,o 4 al2,K 5 0]) (S (S (g [6] [L 10 2 4,c 11 42 10,m 6 11]) (A [13] [m 12 6,i 13 .neq 12 0] 13 (F [5] [o 14 (.build [.z [.ah],.z [.bool false,.int .i64 0],.z [.bool false]]),m 15 6,s 4 4 14,m 5 15]) W)) (S (A [21] [m 16 1,f 17 2 0,l 18 17,n 19 18,o 20 (.call 37 [.t 16,.k (.int .i64 1),.t 19]),N 21 20] 21 (F [5] [o 22 (.build [.z [.ah],.z [.bool false,.int .i64 0],.z [.bool false]]),s 4 4 22,K 5 7]) W) (S (g [7] [f 23 2 0,l 24 23,m 25 1,i 26 .sub 25 1,a 27 24 26 3,L 28 27 3,o 7 al4,s 3 7 28]) (S Zp (S (S (g [9] [K 9 0]) (T 0 (M Zq))) (F [5] [L 58 8 4,s 4 4 58,K 5 0])))))))
def Zr:=S (g [44] [z 44 .lss 43 42]) (S (I 44 W (X 0)) (S (T 1 (S (g [13] [a 45 41 43 1,l 46 45,m 13 46]) (S (d [14,15] [r 1 (m 49 13),r 2 (m 50 1),u 3 (C 51 48 49 50),w 0 (L 48 10 2) 0 1,u 4 (C 52 34 48 51),r 5 (m 47 52),r 6 (x 53 47 0),r 7 (x 54 47 1),r 8 (m 14 53)] [m 15 54]) (S (d [70] [r 0 (m 55 14),r 1 (i 56 .eql 55 (-1)),r 2 (m 57 56),r 3 (fT 58 11 0 57),w 4 (lT 59 58 57) 0 0,r 5 (iT 60 .lss 59 0 57),r 6 (mT 61 60 57),r 7 (mF 62 13 61),r 8 (mF 63 15 61),r 9 (aF 64 62 63 1 61),w 10 (lF 65 64 61) 0 0,r 11 (fF 66 11 0 61),w 12 (lF 67 66 61) 0 0] [zF 68 .lss 65 67 61,YT 69 61 68 57,y 70 57 69]) (I 70 (d [] [r 4 (m 75 1),r 5 (m 76 13),r 6 (m 77 15),r 7 (a 78 76 77 1),w 8 (l 79 78) 0 0,r 9 (a 80 75 79 4),w 10 (L 81 80 4) 0 0,u 11 (c 82 35 81),r 0 (m 71 13),r 1 (m 72 15),r 2 (a 73 71 72 1),w 3 (l 74 73) 0 1] [o 83 (.build [.x (.t 74) 1,.x (.t 82) 1]),s 2 11 83]) W))))) (g [43] [i 84 .add 43 1,m 43 84])))
def f13:=h0 89 2 [0,1,2,4,5,6,7,9,10,11,13,14,15,19,29,41,42,43,44,70] [.tmp 4,.tmp 5,.tmp 6] (S (g [2,4,5,6] [b 2 0,K 4 0,Z 5,K 6 0]) (S (S (g [7] [L 16 2 11,c 17 49 16,m 7 17]) (A [19] [m 18 7,i 19 .neq 18 0] 19 (F [4,5,6] [m 20 7,K 4 0,Z 5,m 6 20]) W)) (S (S (g [9] [f 22 2 0,L 23 22 4,m 24 1,C 25 50 23 24,m 21 25,x 26 21 0,x 27 21 1,m 8 26,m 9 27]) (A [29] [m 28 9,i 29 .neq 28 0] 29 (F [4,5,6] [m 30 9,K 4 0,Z 5,m 6 30]) W)) (S (d [10,11] [u 4 (j 35 33),r 0 (f 31 2 5),r 1 (f 32 31 4),w 2 (L 33 32 2) 0 3,r 3 (o 34 (.build [.x (.t 33) 2])),v 5 (o 10 al3),v 6 (o 11 (.alloc [.int .i64 0,.bool false]))] [s 2 10 34,s 2 11 35]) (S (S (g [41,42,43] [f 36 2 0,L 37 36 4,f 38 2 4,l 39 38,m 40 1,J 41 47 37 39 40,n 42 41,K 43 0]) (T 0 (M Zr))) (S (d [4,5,6] [r 0 (f 85 11 0),w 1 (l 86 85) 0 0,r 2 (f 87 11 1),w 3 (l 88 87) 0 0,r 4 (m 4 86)] [m 5 88,K 6 0]) R))))))
def Zt:=S (A [14] [m 11 5,m 12 0,o 13 (.len 1 (.t 12)),z 14 .lss 11 13] 14 W (X 0)) (S (T 1 (A [20] [m 17 0,m 18 5,o 19 (.idx (.t 17) (.t 18)),o 20 (.bin false .eql (.t 19) (.k (.int .u8 32)))] 20 (t 4 21 22) W)) (t 5 15 16))
def Zu:=S (A [32] [m 29 8,m 30 6,n 31 30,z 32 .lss 29 31] 32 W (X 2)) (S (T 3 (S (g [9,10] [m 36 6,m 37 8,a 38 36 37 1,l 39 38,c 40 74 39,m 35 40,x 41 35 0,x 42 35 1,o 9 al0,s 4 9 41,m 10 42]) (S (A [44] [m 43 10,i 44 .neq 43 0] 44 (F [2,3] [m 45 10,Q 2,m 3 45]) W) (g [7] [m 46 7,L 47 9 4,q 48 4 47,p 49 4 4398046511104 46 48,m 7 49])))) (t 8 33 34))
def f80:=h0 51 1 [0,2,3,4,5,6,7,8,9,10,14,20,24,26,32,44] [.tmp 2,.tmp 3] (S (g [2,3] [Q 2,K 3 0]) (S (g [4] [K 4 0]) (S (S (g [5] [K 5 0]) (T 0 (M Zt))) (S (A [24] [m 23 4,i 24 .geq 23 400] 24 (F [2,3] [Q 2,K 3 5]) W) (S (A [26] [m 25 0,o 26 (.bin false .eql (.t 25) (.k (.str [])))] 26 (F [2,3] [Q 2,K 3 0]) W) (S (g [6] [m 27 0,o 28 (.call 73 [.t 27,.k (.str [32])]),m 6 28]) (S (g [7] [Q 7]) (S (S (g [8] [K 8 0]) (T 2 (M Zu))) (F [2,3] [m 50 7,m 2 50,K 3 0])))))))))
def Zv:=S (A [19] [m 16 4,m 17 0,n 18 17,z 19 .lss 16 18] 19 W (X 0)) (S (T 1 (A [27] [m 22 0,m 23 4,a 24 22 23 1,l 25 24,n 26 25,i 27 .gtr 26 400] 27 (F [3] [o 28 (.build [.z [.ah],.z [.ah]]),s 2 2 28,K 3 5]) W)) (t 4 20 21))
def Zw:=S (A [52] [m 45 10,f 46 5 0,l 47 46,m 48 7,a 49 47 48 1,l 50 49,n 51 50,z 52 .lss 45 51] 52 W (X 6)) (S (T 7 (S (d [71] [r 0 (f 55 5 0),w 1 (l 56 55) 0 0,r 2 (m 57 7),r 3 (a 58 56 57 1),w 4 (l 59 58) 0 0,r 5 (m 60 10),r 6 (a 61 59 60 5),r 7 (f 62 61 0),w 8 (L 63 62 4) 0 0,r 9 (m 64 0),r 10 (m 65 6),r 11 (a 66 64 65 1),w 12 (l 67 66) 0 0,r 13 (m 68 8),r 14 (a 69 67 68 4),w 15 (L 70 69 4) 0 0] [o 71 (.eqs ⟨true,[0,0,0,0]⟩ false (.t 63) (.t 70))]) (I 71 (g [9] [f 72 5 0,l 73 72,m 74 7,a 75 73 74 1,l 76 75,m 77 10,a 78 76 77 5,f 79 78 4,l 80 79,m 9 80]) W))) (t 10 53 54))
def Zx:=S (A [42] [m 36 8,m 37 0,m 38 6,a 39 37 38 1,l 40 39,n 41 40,z 42 .lss 36 41] 42 W (X 4)) (S (T 5 (S (g [9] [K 9 (-1)]) (S (S (g [10] [K 10 0]) (T 6 (M Zw))) (S (A [82] [m 81 9,i 82 .lss 81 0] 82 (S (g [9] [f 83 5 0,l 84 83,n 85 84,m 9 85]) (S (d [] [r 3 (f 89 5 0),w 4 (l 90 89) 0 0,r 5 (m 91 7),r 6 (a 92 90 91 1),w 7 (l 93 92) 0 0,r 8 (m 94 0),r 9 (m 95 6),r 10 (a 96 94 95 1),w 11 (l 97 96) 0 0,r 12 (m 98 8),r 13 (a 99 97 98 4),w 14 (L 100 99 4) 0 0,r 15 (m 101 9),r 16 (o 102 (.build [.x (.t 100) 4,.x (.t 101) 1])),r 17 (q 103 5 102),u 18 (p 104 5 3518437208883 93 103),r 0 (f 86 5 0),w 1 (l 87 86) 0 1,r 2 (m 88 7)] [a 105 87 88 1,s 1 105 104]) (d [] [r 0 (f 106 5 0),w 1 (l 107 106) 0 0,r 2 (o 108 (.fbl 1 [.k .ah])),u 3 (p 109 1 5864062014805 107 108),r 4 (f 110 5 1),w 5 (l 111 110) 0 1,r 6 (o 112 (.fbl 1 [.k (.bool false)])),u 7 (p 113 1 140737488355328 111 112),r 8 (f 114 5 0)] [s 1 114 109,f 115 5 1,s 1 115 113]))) W) (g [7] [m 116 9,m 7 116]))))) (t 8 43 44))
def Zy:=S (A [33] [m 30 6,m 31 0,n 32 31,z 33 .lss 30 32] 33 W (X 2)) (S (T 3 (S (g [7] [K 7 0]) (S (S (g [8] [K 8 0]) (T 4 (M Zx))) (g [] [f 117 5 1,l 118 117,m 119 7,a 120 118 119 1,e (.st 1 (.t 120) (.k (.bool true)))])))) (t 6 34 35))
def f81:=h0 127 1 [0,2,3,4,5,6,7,8,9,10,11,14,19,27,33,42,52,71,82,124] [.cell 2 (some 2),.tmp 3] (S (g [2,3] [o 2 al3,K 3 0]) (S (A [14] [m 12 0,n 13 12,i 14 .gtr 13 60] 14 (F [3] [o 15 (.build [.z [.ah],.z [.ah]]),s 2 2 15,K 3 5]) W) (S (S (g [4] [K 4 0]) (T 0 (M Zv))) (S (g [5] [j 29 75,o 5 al3,s 2 5 29]) (S (S (g [6] [K 6 0]) (T 2 (M Zy))) (S (g [11] [L 121 5 2,c 122 65 121,o 11 al3,s 2 11 122]) (S (A [124] [L 123 11 2,c 124 61 123] 124 (F [3] [o 125 (.build [.z [.ah],.z [.ah]]),s 2 2 125,K 3 5]) W) (F [3] [L 126 11 2,s 2 2 126,K 3 0]))))))))
def Zz:=g [26] [m 18 1,i 19 .lss 18 1,m 20 19,mF 21 1 20,fF 22 3 0 20,lF 23 22 20,nF 24 23 20,zF 25 .gtr 21 24 20,Y 26 20 25]
def f56:=h0 27 3 [0,1,2,3,6,8,16,26] [.tmp 6] (S (g [3,6] [b 3 0,K 6 0]) (S (S (g [8] [L 10 3 4,m 11 2,C 12 50 10 11,m 9 12,x 13 9 0,x 14 9 1,m 7 13,m 8 14]) (A [16] [m 15 8,i 16 .neq 15 0] 16 (F [6] [m 17 8,m 6 17]) W)) (S (S Zz (I 26 (F [6] [K 6 7]) W)) (F [6] [K 6 0]))))
def ZA:=g [34] [m 35 12,m 36 35,fT 37 11 1 36,lT 38 37 36,iT 39 .eql 38 0 36,y 40 36 39,m 34 40]
def ZB:=g [50] [f 51 11 1,l 52 51,i 53 .eql 52 0,m 54 53,LT 55 11 4 54,cT 56 77 55 54,y 57 54 56,m 58 57,mT 59 2 58,mT 60 10 58,CT 61 78 59 60 58,NT 62 61 58,y 63 58 62,m 50 63]
def ZC:=S (g [23] [z 23 .lss 22 21]) (S (I 23 W (X 0)) (S (T 1 (S (g [11,10] [m 24 22,a 25 20 22 4,L 26 25 4,o 11 al0,m 10 24,s 4 11 26]) (S (A [30] [f 27 11 0,l 28 27,m 29 1,z 30 .neq 28 29] 30 (X 1) W) (S (g [12] [f 31 11 2,l 32 31,o 33 (.bin false .neq (.t 32) (.k (.int .u8 3))),m 12 33]) (S (T 2 (S ZA (I 34 (S (g [] [m 41 9,m 42 10,m 43 6,n 44 43,e (.mup ⟨false,[0]⟩ (.t 41) (.t 42) (.t 44))]) (S (g [6] [m 45 6,m 46 10,o 47 (.bsl 1 [.t 46]),q 48 1 47,p 49 1 5864062014805 45 48,m 6 49]) (X 1))) (S ZB (I 50 (X 1) W))))) (S (g [] [m 64 9,m 65 10,m 66 9,m 67 7,m 68 10,a 69 67 68 1,l 70 69,o 71 (.lkp ⟨false,[0]⟩ (.t 66) (.t 70) (.int .i64 0) false),e (.mup ⟨false,[0]⟩ (.t 64) (.t 65) (.t 71))]) (d [] [r 4 (m 76 6),r 5 (m 77 9),r 6 (m 78 10),w 7 (o 79 (.lkp ⟨false,[0]⟩ (.t 77) (.t 78) (.int .i64 0) false)) 0 0,r 8 (a 80 76 79 1),w 9 (l 81 80) 0 0,r 10 (m 82 10),r 11 (q 83 1 82),u 12 (p 84 1 17592186044416 81 83),r 0 (m 72 6),r 1 (m 73 9),r 2 (m 74 10),w 3 (o 75 (.lkp ⟨false,[0]⟩ (.t 73) (.t 74) (.int .i64 0) false)) 0 1] [a 85 72 75 1,s 1 85 84]))))))) (g [22] [i 86 .add 22 1,m 22 86])))
def f47:=h0 88 3 [0,1,2,3,6,7,9,10,11,12,20,21,22,23,30,34,50] [.tmp 6] (S (g [3,6] [b 3 0,Q 6]) (S (g [7] [L 14 3 4,m 15 2,C 16 76 14 15,m 13 16,x 17 13 0,x 18 13 1,m 7 17,m 8 18]) (S (g [9] [o 19 .mkm,m 9 19]) (S (S (g [20,21,22] [m 20 2,n 21 20,K 22 0]) (T 0 (M ZC))) (F [6] [m 87 6,m 6 87])))))
def ZD:=S (g [10] [z 10 .lss 9 8]) (S (I 10 W (X 0)) (S (T 1 (S (g [6] [a 11 7 9 1,l 12 11,m 6 12]) (g [4] [m 13 4,m 14 1,m 15 6,a 16 14 15 4,L 17 16 4,c 18 79 17,q 19 4 18,p 20 4 4398046511104 13 19,m 4 20]))) (g [9] [i 21 .add 9 1,m 9 21])))
def f49:=h0 23 2 [0,1,4,6,7,8,9,10] [.tmp 4] (S (g [4] [Q 4]) (S (S (g [7,8,9] [m 7 0,n 8 7,K 9 0]) (T 0 (M ZD))) (F [4] [m 22 4,m 4 22])))
def f44:=h0 36 1 [0,1,2,3,4,5,10,21,25,29] [.tmp 2] (S (g [1,2] [b 1 0,K 2 0]) (S (S (g [3] [f 6 1 0,L 7 6 4,c 8 80 7,m 3 8]) (A [10] [m 9 3,i 10 .neq 9 0] 10 (F [2] [m 11 3,m 2 11]) W)) (S (g [4,5] [f 13 1 0,L 14 13 4,f 15 1 4,l 16 15,C 17 81 14 16,m 12 17,x 18 12 0,x 19 12 1,o 4 al2,s 4 4 18,m 5 19]) (S (A [21] [m 20 5,i 21 .eql 20 0] 21 (g [5] [f 22 1 5,L 23 22 6,c 24 51 23,m 5 24]) W) (S (T 0 (A [25] [m 26 5,i 27 .neq 26 0,m 25 27] 25 (F [2] [m 28 5,m 2 28]) (A [29] [L 30 4 4,f 31 1 5,f 32 31 0,L 33 32 4,C 34 52 30 33,N 35 34,m 29 35] 29 (F [2] [K 2 11]) W))) (F [2] [K 2 0]))))))
def Tw:=S (A [14] [m 8 7,m 9 1,o 10 (.len 1 (.t 9)),z 11 .add 8 10,m 12 0,o 13 (.len 1 (.t 12)),z 14 .leq 11 13] 14 W (X 0)) (S (T 1 (A [25] [m 17 0,m 18 7,m 19 7,m 20 1,o 21 (.len 1 (.t 20)),z 22 .add 19 21,o 23 (.sls (.t 17) (some (.t 18)) (some (.t 22))),m 24 1,z 25 .eql 23 24] 25 (S (g [5] [m 26 5,m 27 0,m 28 6,m 29 7,o 30 (.sls (.t 27) (some (.t 28)) (some (.t 29))),q 31 1 30,p 32 1 8796093022208 26 31,m 5 32]) (g [6,7] [m 33 7,m 34 1,o 35 (.len 1 (.t 34)),z 36 .add 33 35,m 37 7,m 38 1,o 39 (.len 1 (.t 38)),z 40 .add 37 39,i 41 .sub 40 1,m 6 36,m 7 41])) W)) (t 7 15 16))
def age:=h0 48 2 [0,1,4,5,6,7,14,25] [.tmp 4] (S (g [4] [Q 4]) (S (g [5] [Q 5]) (S (g [6] [K 6 0]) (S (S (g [7] [K 7 0]) (T 0 (M Tw))) (F [4] [m 42 5,m 43 0,m 44 6,o 45 (.sls (.t 43) (some (.t 44)) none),q 46 1 45,p 47 1 8796093022208 42 46,m 4 47])))))
def Tx:=g [28] [m 21 5,o 22 (.len 1 (.t 21)),i 23 .gtr 22 0,m 24 23,mT 25 5 24,G 26 (.idx (.t 25) (.k (.int .i64 0))) 24 true,G 27 (.bin false .eql (.t 26) (.k (.int .u8 46))) 24 true,y 28 24 27]
def Tz:=g [76] [m 70 9,i 71 .neq 70 0,m 72 71,mF 73 8 72,mF 74 0 72,zF 75 .neq 73 74 72,Y 76 72 75]
def agf:=h0 79 1 [0,2,3,4,5,6,7,8,9,28,42,45,46,49,52,63,76] [.cell 2 (some 4),.tmp 3] (S (g [2,3] [o 2 al0,K 3 0]) (S (g [4] [o 4 al0]) (S (g [5] [m 10 0,m 5 10]) (S (g [6,7] [m 12 5,c 13 97 12,m 11 13,x 14 11 0,x 15 11 1,m 6 14,m 7 15]) (S (d [5] [r 0 (m 16 6),r 4 (f 20 4 0),u 5 (s 1 20 16),r 1 (m 17 5),r 2 (m 18 7),r 3 (o 19 (.sls (.t 17) (some (.t 18)) none))] [m 5 19]) (S (S Tx (I 28 (S (g [6,7] [m 30 5,o 31 (.sls (.t 30) (some (.k (.int .i64 1))) none),c 32 97 31,m 29 32,x 33 29 0,x 34 29 1,m 6 33,m 7 34]) (d [5] [r 0 (m 35 6),r 5 (f 40 4 1),u 6 (s 1 40 35),r 1 (m 36 5),r 2 (m 37 7),r 3 (o 38 (.bin false .add (.k (.int .i64 1)) (.t 37))),r 4 (o 39 (.sls (.t 36) (some (.t 38)) none))] [m 5 39])) W)) (S (A [42] [m 41 5,o 42 (.bin false .eql (.t 41) (.k (.str [])))] 42 (F [3] [o 43 (.build [.z [.int .i64 0],.z [.int .i64 0],.z [.int .u8 0],.z [.int .i64 0]]),s 4 2 43,K 3 4]) W) (S (S (g [45] [m 44 5,o 45 (.idx (.t 44) (.k (.int .i64 0)))]) (T 0 (A [46] [o 47 (.bin false .eql (.t 45) (.k (.int .u8 63))),m 46 47] 46 (g [] [f 48 4 2,e (.st 1 (.t 48) (.k (.int .u8 1)))]) (A [49] [o 50 (.bin false .eql (.t 45) (.k (.int .u8 61))),m 49 50] 49 (g [] [f 51 4 2,e (.st 1 (.t 51) (.k (.int .u8 2)))]) (A [52] [o 53 (.bin false .eql (.t 45) (.k (.int .u8 33))),m 52 53] 52 (g [] [f 54 4 2,e (.st 1 (.t 54) (.k (.int .u8 3)))]) W))))) (S (g [] [m 56 5,o 57 (.sls (.t 56) (some (.k (.int .i64 1))) none),c 58 97 57,m 55 58,x 59 55 0,x 60 55 1,f 61 4 3,s 1 61 59]) (S (A [63] [m 62 5,o 63 (.bin false .eql (.t 62) (.k (.str [33,42])))] 63 (g [] [f 64 4 3,e (.st 1 (.t 64) (.k (.int .i64 (-1))))]) W) (S (S (g [8,9] [L 66 4 4,c 67 98 66,m 65 67,x 68 65 0,x 69 65 1,m 8 68,m 9 69]) (S Tz (I 76 (F [3] [o 77 (.build [.z [.int .i64 0],.z [.int .i64 0],.z [.int .u8 0],.z [.int .i64 0]]),s 4 2 77,K 3 4]) W))) (F [3] [L 78 4 4,s 4 2 78,K 3 0]))))))))))))
def f87:=h0 11 2 [0,1,2,4,5] [.tmp 4,.tmp 5] (S (g [2,4,5] [b 2 0,Q 4,K 5 0]) (F [4,5] [L 6 2 4,m 7 1,o 8 (.call 99 [.t 6,.t 7,.k (.fn 100 [] [])]),x 9 8 0,x 10 8 1,m 4 9,m 5 10]))
def ZE:=g [2] [f 3 1 2,l 4 3,o 5 (.bin false .eql (.t 4) (.k (.int .u8 3))),m 6 5,fT 7 1 3 6,lT 8 7 6,iT 9 .eql 8 (-1) 6,y 10 6 9,m 2 10]
def f88:=h0 11 1 [0,1,2] [.tmp 2] (S (g [1,2] [b 1 0,Z 2]) (S ZE R))
def ZF:=g [4] [m 5 1,i 6 .gtr 5 0,m 7 6,mT 8 0 7,mT 9 1 7,iT 10 .sub 9 1 7,aT 11 8 10 4 7,LT 12 11 4 7,cT 13 77 12 7,y 14 7 13,m 15 14,mT 16 0 15,mT 17 1 15,iT 18 .sub 17 1 15,aT 19 16 18 4 15,fT 20 19 1 15,lT 21 20 15,iT 22 .gtr 21 0 15,y 23 15 22,m 4 23]
def f89:=h0 24 2 [0,1,4] [.tmp 4] (S (g [4] [Z 4]) (S ZF R))
def f91:=h0 8 1 [0,1,2] [.cell 2 (some 4)] (S (g [1,2] [o 1 (.box (.t 0)),o 2 al0]) (S (g [] [f 3 1 1,l 4 3,f 5 1 0,s 1 5 4,f 6 1 1,e (.st 1 (.t 6) (.k (.int .i64 0)))]) (F [] [L 7 1 4,s 4 2 7])))
def ZG:=g [30] [m 25 9,N 26 25,m 27 26,mF 28 1 27,iF 29 .eql 28 0 27,Y 30 27 29]
def f83:=h0 46 2 [0,1,2,4,5,6,7,8,9,16,30] [.cell 4 (some 4),.tmp 5] (S (g [2,4,5] [b 2 0,o 4 al2,K 5 0]) (S (g [6,7] [L 11 2 4,c 12 106 11,m 10 12,x 13 10 0,x 14 10 1,o 6 al2,s 4 6 13,m 7 14]) (S (A [16] [m 15 7,i 16 .neq 15 0] 16 (F [5] [o 17 (.build [.z [.ah],.z [.bool false,.int .i64 0],.z [.bool false]]),m 18 7,s 4 4 17,m 5 18]) W) (S (g [8,9] [L 20 6 4,m 21 1,o 22 (.call 107 [.t 20,.t 21,.k (.int .i64 0)]),m 19 22,x 23 19 0,x 24 19 1,o 8 al5,s 5 8 23,m 9 24]) (S (S ZG (I 30 (F [5] [o 31 (.build [.z [.ah],.z [.bool false,.int .i64 0],.z [.bool false]]),s 4 4 31,K 5 7]) W)) (S (d [5] [r 0 (f 32 6 0),r 1 (f 33 32 0),w 2 (l 34 33) 0 0,r 3 (m 35 1),r 4 (i 36 .sub 35 1),r 5 (a 37 34 36 3),r 6 (f 38 37 0),w 7 (l 39 38) 0 0,u 8 (o 40 (.call 108 [.t 39,.k (.fn 109 [] [])])),r 9 (f 41 8 2),w 10 (L 42 41 2) 0 1,r 11 (f 43 8 4),w 12 (l 44 43) 0 1] [o 45 (.build [.x (.t 40) 1,.x (.t 42) 2,.x (.t 44) 1]),s 4 4 45,K 5 0]) R))))))
def TA:=g [25] [m 6 5,m 7 0,o 8 (.len 1 (.t 7)),z 9 .lss 6 8,m 10 9,mT 11 5 10,iT 12 .lss 11 19 10,y 13 10 12,m 14 13,mT 15 0 14,mT 16 5 14,G 17 (.idx (.t 15) (.t 16)) 14 true,G 18 (.bin false .geq (.t 17) (.k (.int .u8 48))) 14 true,y 19 14 18,m 20 19,mT 21 0 20,mT 22 5 20,G 23 (.idx (.t 21) (.t 22)) 20 true,G 24 (.bin false .leq (.t 23) (.k (.int .u8 57))) 20 true,y 25 20 24]
def TB:=S (S TA (I 25 W (X 0))) (T 1 (S (g [4] [m 26 4,o 27 (.bin false .mul (.k (.int .i64 10)) (.t 26)),m 28 0,m 29 5,o 30 (.idx (.t 28) (.t 29)),o 31 (.bin false .sub (.t 30) (.k (.int .u8 48))),o 32 (.cnv .i64 (.t 31)),z 33 .add 27 32,m 4 33]) (t 5 34 35)))
def agh:=h0 38 1 [0,2,3,4,5,25] [.tmp 2,.tmp 3] (S (g [2,3] [K 2 0,K 3 0]) (S (g [4,5] [K 4 0,K 5 0]) (S (T 0 (M TB)) (F [2,3] [m 36 4,m 37 5,m 2 36,m 3 37]))))
def TC:=g [4] [f 5 1 0,l 6 5,i 7 .geq 6 0,m 8 7,fT 9 1 1 8,lT 10 9 8,iT 11 .geq 10 0 8,y 12 8 11,m 4 12]
def TD:=g [4] [m 17 4,m 18 17,fT 19 1 3 18,lT 20 19 18,iT 21 .eql 20 0 18,y 22 18 21,m 4 22]
def TE:=g [4] [m 25 4,m 26 25,fT 27 1 3 26,lT 28 27 26,iT 29 .geq 28 0 26,y 30 26 29,m 4 30]
def TF:=g [4] [m 33 4,m 34 33,fT 35 1 3 34,lT 36 35 34,iT 37 .geq 36 (-1) 34,y 38 34 37,m 4 38]
def agi:=h0 43 1 [0,1,2,3,4,14,15,23,31,40] [.tmp 2,.tmp 3] (S (g [1,2,3] [b 1 0,o 2 (.mv (.k (.str []))),K 3 0]) (S TC (S (S (g [14] [f 13 1 2,l 14 13]) (T 0 (A [15] [o 16 (.bin false .eql (.t 14) (.k (.int .u8 1))),m 15 16] 15 TD (A [23] [o 24 (.bin false .eql (.t 14) (.k (.int .u8 2))),m 23 24] 23 TE (A [31] [o 32 (.bin false .eql (.t 14) (.k (.int .u8 3))),m 31 32] 31 TF (g [4] [Z 4])))))) (S (A [40] [m 39 4,N 40 39] 40 (F [2,3] [o 2 (.mv (.k (.str []))),K 3 4]) W) (F [2,3] [L 41 1 4,c 42 119 41,m 2 42,K 3 0])))))
def agj:=h0 42 3 [0,1,2,3,6,7,8,9,16,21,38] [.tmp 6,.tmp 7] (S (g [3,6,7] [b 3 0,Q 6,K 7 0]) (S (g [8,7] [L 11 3 4,m 12 1,C 13 82 11 12,m 10 13,x 14 10 0,x 15 10 1,m 8 14,m 7 15]) (S (T 0 (A [16] [m 17 7,i 18 .neq 17 0,m 16 18] 16 (F [6,7] [m 19 6,m 20 7,m 6 19,m 7 20]) (A [21] [m 22 8,k 23 22,f 24 23 4,l 25 24,n 26 25,m 27 1,n 28 27,z 29 .lss 26 28,m 21 29] 21 (F [6,7] [m 30 6,m 6 30,K 7 13]) W))) (S (S (g [6,7] [m 32 2,m 33 8,o 34 (.dyn (.t 32) [.t 33]),m 31 34,x 35 31 0,x 36 31 1,m 6 35,m 7 36]) (A [38] [m 37 7,i 38 .neq 37 0] 38 (S (g [9] [Q 9]) (F [6,7] [m 39 9,m 40 7,m 6 39,m 7 40])) W)) (F [6,7] [m 41 6,m 6 41,K 7 0])))))
def agk:=h0 8 1 [0,2,3] [.tmp 2,.tmp 3] (S (g [2,3] [Q 2,K 3 0]) (F [2,3] [m 4 0,k 5 4,f 6 5 6,l 7 6,m 2 7,K 3 0]))
def TG:=S (g [10] [z 10 .lss 9 8]) (S (I 10 W (X 0)) (S (T 1 (S (g [6] [a 11 7 9 2,L 12 11 2,o 6 al8,s 2 6 12]) (g [4] [m 13 4,m 14 1,L 15 6 2,o 16 (.dyn (.t 14) [.t 15]),q 17 3 16,p 18 3 3518437208883 13 17,m 4 18]))) (g [9] [i 19 .add 9 1,m 9 19])))
def agl:=h0 21 2 [0,1,4,6,7,8,9,10] [.tmp 4] (S (g [4] [Q 4]) (S (S (g [7,8,9] [m 7 0,n 8 7,K 9 0]) (T 0 (M TG))) (F [4] [m 20 4,m 4 20])))
def agm:=h0 5 1 [0,1,2] [.cell 2 (some 3)] (S (g [1,2] [b 1 0,o 2 al4]) (F [] [L 3 1 2,o 4 (.build [.z [.ah],.x (.t 3) 2]),s 3 2 4]))
def ago:=h0 44 1 [0,1,2,3,9,16,22,32] [.tmp 2] (S (g [1,2] [b 1 0,o 2 (.mv (.k (.str [])))]) (S (g [3] [f 4 1 0,l 5 4,c 6 141 5,m 3 6]) (S (A [9] [f 7 1 1,l 8 7,i 9 .gtr 8 0] 9 (g [3] [m 10 3,f 11 1 1,l 12 11,c 13 141 12,o 14 (.bin false .add (.k (.str [46])) (.t 13)),z 15 .add 10 14,m 3 15]) W) (S (T 0 (A [16] [f 17 1 2,l 18 17,o 19 (.bin false .eql (.t 18) (.k (.int .u8 1))),m 16 19] 16 (F [2] [m 20 3,o 21 (.bin false .add (.t 20) (.k (.str [63]))),m 2 21]) (A [22] [f 23 1 2,l 24 23,o 25 (.bin false .eql (.t 24) (.k (.int .u8 2))),m 22 25] 22 (F [2] [m 26 3,o 27 (.bin false .add (.t 26) (.k (.str [61]))),f 28 1 3,l 29 28,c 30 141 29,z 31 .add 27 30,m 2 31]) (A [32] [f 33 1 3,l 34 33,i 35 .eql 34 (-1),m 32 35] 32 (F [2] [m 36 3,o 37 (.bin false .add (.t 36) (.k (.str [33,42]))),m 2 37]) W)))) (F [2] [m 38 3,o 39 (.bin false .add (.t 38) (.k (.str [33]))),f 40 1 3,l 41 40,c 42 141 41,z 43 .add 39 42,m 2 43])))))
def agr:=h0 30 1 [0,2,3,4,8,15,24] [.tmp 2] (S (g [2] [o 2 (.mv (.k (.str [])))]) (S (g [3] [m 5 0,i 6 .rem 5 10,m 3 6]) (S (A [8] [m 7 3,i 8 .lss 7 0] 8 (g [3] [m 9 3,o 10 (.un .neg (.t 9)),m 3 10]) W) (S (g [4] [m 11 3,o 12 (.bin false .add (.k (.int .i64 48)) (.t 11)),o 13 (.cnv .i32 (.t 12)),o 14 (.cis (.t 13)),m 4 14]) (S (T 0 (A [15] [m 16 0,i 17 .quo 16 10,i 18 .neq 17 0,m 15 18] 15 (F [2] [m 19 0,i 20 .quo 19 10,c 21 141 20,m 22 4,z 23 .add 21 22,m 2 23]) (A [24] [m 25 0,i 26 .lss 25 0,m 24 26] 24 (F [2] [m 27 4,o 28 (.bin false .add (.k (.str [45])) (.t 27)),m 2 28]) W))) (F [2] [m 29 4,m 2 29]))))))
end Go.Proofs.YtcfbbbjhnaienaaGreatDoor.K.Hm.U
namespace Go.Proofs.YtcfbbbjhnaienaaGreatDoor.K.Hm.P
open Go Hm U
def Dh:Tr HF:=B (B (B (B (B H (E f47 (D f91) H)) (E f26 H (B H (D ago)))) (B (E f41 (B H (D agj)) H) H)) (B (B (B (B H (D agh)) (E f44 (D f83) H)) (B (B (D age) H) H)) (B (D f43) (B (E f81 (E f88 (D agr) H) (D agm)) H)))) (B (B (B (B H (D f49)) (D f13)) (B (E f42 (B H (D agk)) H) (B (E f80 (D f87) (D agl)) H))) (E f12 (B (E f40 (B H (D agi)) H) (B (B (D agf) H) H)) (B (D f19) (B (E f56 (D f89) H) H))))
def prog(k:Nat):Option HF:=fI Dh k
end Go.Proofs.YtcfbbbjhnaienaaGreatDoor.K.Hm.P
