/- PactBlame returns true for every pact and word, part 5. -/
import Derived.Test.YtepamfbheocmhaaGreatDoorCad
import Derived.Test.YtepamfbheocmhaaGreatDoorCac
import Derived.KernelRfl
import Derived.Test.YtepamfbheocmhaaGreatDoorCaa
set_option linter.all false
open Nat renaming add_zero->gH,mul_assoc->TC,mul_le_mul_left->TD,mul_le_mul->TJ,min_le_right->TM
open Option renaming map_some->lO,getD_some->hU
open List renaming getElem?_cons_succ->Bp,set_cons_succ->cd,set_cons_zero->aQ,length_cons->az,length_nil->aE,getElem?_cons_zero->xS,count_cons->Tn,count_eq_countP->To,countP_map->Tp,cons_append->bx,nil_append->bA,length_singleton->dx,idxOf_le_length->Tt,getElem_idxOf->Tv,find?_cons->ti,sum_cons->Fm,length_flatMap->TK,countP_pos_iff->TN,set_append_right->TP
open Int renaming ofNat_eq_natCast->mW
open Bool renaming or_false->TG
set_option maxRecDepth 10000
noncomputable section
namespace Go.Proofs.YtepamfbheocmhaaGreatDoor.K.Hm.S
open Go
structure BK(x:Fa)(i k:Nat)(fr:eh):Prop where
 len:fr.length=x.nx.length
 sz:∀l∈fr,l.length<=i*6000+k
 snd:∀(q:Nat) (l:ay),fr[q]?=some l->∀p∈l,∃es,x.nx[p]?=some es/\∃e∈es,e.to=q
 cmp:∀(i' k':Nat),(i'<i∨i'=i/\k'<k)->∀l,x.nx[i']?=some l->∀e:Eg,l[k']?=some e->∃l',fr[e.to]?=some l'/\i'∈l'
def BK.start(x:Fa):BK x 0 0 (List.replicate x.nx.length []):=by
 refine⟨by simp,λl c=>by rw[zP c];simp,λq l b p d=>?_,λk r h=>by omega⟩;rw[yc]at b
 split at b
 .cases b;cases d
 cases b
def BK.step{x:Fa}{i k:Nat}{fr:eh}(h:BK x i k fr){l:bq}{e:Eg}(B:x.nx[i]?=some l)(C:l[k]?=some e){l':ay}(c:fr[e.to]?=some l'):BK x i (k+1) (fr.set e.to (l'++[i])):=by
 obtain⟨r,_⟩:=aS.1 c;refine⟨by simp[h.len],λz d=>?_,λq z A p D=>?_,λE I P z d J t=>?_⟩
 .rcases xH d with u|u
  .have:=h.sz z u;omega
  have:=h.sz l' (cG c);rw[u];simp;omega
 .rw[gP]at A;by_cases b:e.to=q
  .rw[ar b,ar r]at A;cases A;rcases cP.1 D with u|u
   .exact h.snd q l' (b▸c) p u
   rw[dq.1 u];exact⟨l,B,e,cG C,b⟩
  rw[au b]at A;exact h.snd q z A p D
 rw[gP];by_cases w:E=i/\I=k
 .obtain⟨rfl,rfl⟩:=w;rw[B]at d;cases d;rw[C]at t;cases t;rw[ar rfl,ar r];exact⟨_,rfl,by simp⟩
 obtain⟨V,M,O⟩:=h.cmp E I (by omega) z d J t;by_cases b:e.to=J.to
 .rw[ar b,ar r];rw[b,M]at c;cases c;exact⟨_,rfl,by simp[O]⟩
 rw[au b];exact⟨V,M,O⟩
def BK.row{x:Fa}{i:Nat}{fr:eh}{l:bq}(r:x.nx[i]?=some l)(t:l.length<=6000)(h:BK x i l.length fr):BK x (i+1) 0 fr:=by
 have k:∀c∈fr,c.length<=(i+1)*6000+0:=λc b=>by rw[gH,jE];exact fz (h.sz c b) (Ke t _)
 refine⟨h.len,k,h.snd,λq u w c b z d=>h.cmp q u ?_ c b z d⟩;by_cases A:q=i
 .subst A;rw[r]at b;cases b;exact .inr ⟨rfl,(aS.1 d).1⟩
 omega
def HW(l:ay):Nat×List aj:=(1,l.map nC)
section
variable{x:Fa}
def YQ(Y:cf x){i:Nat}(Z:i<x.nx.length){e:En}{s:HS}{o:Out}{o3:Ky}{v20 v21 v22:HV}{av:aZ}{aA:cE}{fr:eh}
  (d:bH e [(1,.aw x.c),(3,.sl o3 0 x.nx.length 1),(4,iV i),(20,v20),(21,v21),(22,v22),(27,.psl (x.nx[i].map Eg.c)),(28,iV x.nx[i].length),(29,iV 0)])
  (E:aG s av ((.sl o3 0 x.nx.length 1,1,aA.map gw)::aA) [])(u:aA.map (·.2)=fr.map HW)(t:BK x i 0 fr)(ho:bJ R (.loop U.wM) e s=o):
  ∃(e':En) (s':HS) (av:aZ) (aA:cE) (fr:eh),o=.code (.exit 2) e' s'/\bH e' [(1,.aw x.c),(3,.sl o3 0 x.nx.length 1),(20,v20),(21,v21),(22,v22)]/\
   aG s' av ((.sl o3 0 x.nx.length 1,1,aA.map gw)::aA) []/\aA.map (·.2)=fr.map HW/\BK x (i+1) 0 fr:=by
 have hn:=Y.n;have I:=aR Z;have h2:=Y.row Z;refine ba ho x.nx[i].length
  (λk e s=>∃(av:aZ) (aA:cE) (fr:eh),bH e [(1,.aw x.c),(3,.sl o3 0 x.nx.length 1),(4,iV i),(20,v20),(21,v21),(22,v22),(27,.psl (x.nx[i].map Eg.c)),(28,iV x.nx[i].length),(29,iV k)]/\
   aG s av ((.sl o3 0 x.nx.length 1,1,aA.map gw)::aA) []/\aA.map (·.2)=fr.map HW/\BK x i k fr)
  (λo=>∃(e':En) (s':HS) (av:aZ) (aA:cE) (fr:eh),o=.code (.exit 2) e' s'/\bH e' [(1,.aw x.c),(3,.sl o3 0 x.nx.length 1),(20,v20),(21,v21),(22,v22)]/\
   aG s' av ((.sl o3 0 x.nx.length 1,1,aA.map gw)::aA) []/\aA.map (·.2)=fr.map HW/\BK x (i+1) 0 fr)
  0 (by omega) ⟨av,aA,fr,d,E,u,t⟩
  (λk e s r hk ⟨av,aA,fr,d,E,u,t⟩ J=>by
   have h3:(k:Int)<x.nx[i].length:=by omega
   have M:=aR hk;have z:=Y.to _ (cp Z) _ (cp hk);generalize he:x.nx[i][k]=ed at*;have h7:aA.length=x.nx.length:=by have:=cC List.length u;simp only[bG]at this;rw[this,t.len]
   have b:aA[ed.to]?=some (aA[ed.to]'(by omega)):=aR (by omega);obtain⟨D,A⟩:∃D,fr[ed.to]?=some D:=⟨_,aR (by rw[t.len];exact z)⟩;obtain⟨w,hw⟩:∃w,aA[ed.to]'(by omega)=(w,HW D):=by have h1:=cC (λl=>l[ed.to]?) u;simp only[fR,b,A,lO,bL]at h1;exact⟨_,Prod.ext rfl h1⟩
   have q:=E.ds ed.c;have B:=(q.bD 0 _ _ rfl).1.1;generalize O:HS.mk _ _ _ _=S1 at q B;have g6:eG (ak S1.h o3) ed.to=some w:=by rw[(q.mem.own 0 _ _ _ rfl).cell ed.to (by simp;omega)];simp[hw,gw]
   rw[hw]at b;obtain⟨v',s2,P,a2,c2,C⟩:=q.append (ed.to+1) (by rw[Bp];exact b) (new:=[[iV i]]) (Sz.cons rfl Sz.nil) (by simp) (bw:=17592186044416) (by have:=t.sz D (cG A);simp;omega);simp only[cd]at C;have V:=(C.bD 0 _ _ rfl).1.1;obtain⟨o1,s3,b1,b2,X⟩:=C.iY 0 rfl ed.to (by simp;omega) c2;simp[z]at b1;obtain rfl:=b1;simp only[aQ,iu]at X b2;have h6:(ed.to:Int)<x.nx.length:=by omega
   have h4:=bo (n:=6000) (show k<6000 by omega) (by omega);simp only[ab,ae]at d;simp only[Eg.c,az,aE,bF,Nat.reduceAdd,iV]at B V O a2;have h5:(x.nx[i].map Eg.c)[k]?=some ed.c:=by rw[fR,M];rfl
   simp only[Eg.c]at h5;simp[U.wM,d,hk,h3,he,O,B,V,ai,an,g6,a2,b2,z,h4]at J;subst J;refine .inl ⟨_,_,rfl,P,aA.set ed.to (v',1,D.map nC++[[iV i]]),fr.set ed.to (D++[i]),by simp[d],?_,?_,t.step I M A⟩
   .rw[mA];have:=X;exact⟨this.mem,by simp,by simp⟩
   rw[mA,mA,u];simp[HW,nC])
  (λe s r ⟨av,aA,fr,d,E,u,t⟩ J=>by
   simp only[ab,ae]at d;simp[U.wM,d]at J;subst J;exact⟨by simp,_,_,av,aA,fr,rfl,by simp[d],E,u,t.row I h2⟩)
end
def YR{α:Type}(A:List α)(a b:α):(A++[a,b])[A.length]?=some a:=by simp
def Tm{α:Type}(A:List α)(a b:α):(A++[a,b])[A.length+1]?=some b:=by simp
def agB{α:Type}(A:List α)(a b c:α):(A++[a,b]).set A.length c=A++[c,b]:=by simp
def Nf{α:Type}(A:List α)(a b c:α):(A++[a,b]).set (A.length+1) c=A++[a,c]:=by simp
def tY:∀(u:cb) (q:Nat),u[q]?=some false->(u.set q true).count false+1=u.count false
 |[],q,h=>by simp at h
 |b::u,0,h=>by simp only[xS,bL]at h;subst h;simp
 |b::u,q+1,h=>by have:=tY u q (by simpa using h);rw[cd,Tn,Tn];omega
structure BL(x:Fa)(u:cb)(td:ay)(w:aC):Prop where
 len:u.length=x.nx.length
 snd:∀i:Nat,u[i]?=some true->Lv x i
 fin:∀i:Nat,x.fi[i]?=some true->u[i]?=some true
 tu:∀p∈td,u[p]?=some true
 cls:∀(i:Nat) l,x.nx[i]?=some l->∀e∈l,u[e.to]?=some true->e.to∈td∨u[i]?=some true∨w i
def BL.done{x:Fa}{u:cb}(h:BL x u [] λ_=>False):mz x u:=by
 refine⟨h.len,λi=>⟨h.snd i,λc=>?_⟩⟩
 induction c with
 |fin d=>exact h.fin _ d
 |HN k q _ r=>
  rcases h.cls _ _ k _ q r with b|b|b
  .cases b
  .exact b
  exact b.elim
def BL.pop{x:Fa}{u:cb}{td:ay}{p:Nat}(h:BL x u (td++[p]) λ_=>False){fr:eh}(w:BK x x.nx.length 0 fr){l':ay}(z:fr[p]?=some l'):BL x u td λi=>∃j,0<=j/\l'[j]?=some i:=by
 refine⟨h.len,h.snd,h.fin,λq A=>h.tu q (by simp[A]),λi l c e r B=>?_⟩;rcases h.cls i l c e r B with b|b|b
 .rcases cP.1 b with d|d
  .exact .inl d
  obtain⟨k,C⟩:=tO.1 r;obtain⟨I,t,D⟩:=w.cmp i k (.inl (aS.1 c).1) l c e C;rw[dq.1 d,z]at t;cases t;obtain⟨j,E⟩:=tO.1 D;exact .inr (.inr ⟨j,fm _,E⟩)
 .exact .inr (.inl b)
 exact b.elim
def BL.old{x:Fa}{u:cb}{td:ay}{l':ay}{j q:Nat}(h:BL x u td λi=>∃b,j<=b/\l'[b]?=some i)(r:l'[j]?=some q)(t:u[q]?=some true):BL x u td λi=>∃b,j+1<=b/\l'[b]?=some i:=by
 refine⟨h.len,h.snd,h.fin,h.tu,λi l w e z A=>?_⟩;rcases h.cls i l w e z A with c|c|⟨b,c,d⟩
 .exact .inl c
 .exact .inr (.inl c)
 by_cases k:b=j
 .subst k;rw[r]at d;cases d;exact .inr (.inl t)
 exact .inr (.inr ⟨b,by omega,d⟩)
def BL.new{x:Fa}{u:cb}{td:ay}{l':ay}{j q:Nat}(h:BL x u td λi=>∃d,j<=d/\l'[d]?=some i)(C:l'[j]?=some q)(D:u[q]?=some false)(w:Lv x q):BL x (u.set q true) (td++[q]) λi=>∃d,j+1<=d/\l'[d]?=some i:=by
 obtain⟨z,_⟩:=aS.1 D;have b:∀i:Nat,(u.set q true)[i]?=some true↔i=q∨u[i]?=some true:=by
  intro i;rw[gP];by_cases k:q=i
  .subst k;simp[z]
  rw[au k];exact⟨.inr,λh=>h.resolve_left (λh=>k h.symm)⟩
 refine⟨by simp[h.len],λi r=>?_,λi r=>(b i).2 (.inr (h.fin i r)),λp E=>?_,λi l r e I J=>?_⟩
 .rcases(b i).1 r with rfl|c
  .exact w
  exact h.snd i c
 .rcases cP.1 E with c|c
  .exact(b p).2 (.inr (h.tu p c))
  exact(b p).2 (.inl (dq.1 c))
 rcases(b _).1 J with c|c
 .exact .inl (by simp[c])
 rcases h.cls i l r e I c with t|t|⟨d,t,A⟩
 .exact .inl (by simp[t])
 .exact .inr (.inl ((b i).2 (.inr t)))
 by_cases B:d=j
 .subst B;rw[C]at A;cases A;exact .inr (.inl ((b _).2 (.inl rfl)))
 exact .inr (.inr ⟨d,by omega,A⟩)
section
variable{x:Fa}
def YS(J:cf x){e:En}{s:HS}{o:Out}{o3:Ky}{av:aZ}{aA:cE}{fr:eh}
  (b:bH e [(1,.aw x.c),(3,.sl o3 0 x.nx.length 1),(20,.psl (x.nx.map nW)),(21,iV x.nx.length),(22,iV 0)])
  (t:aG s av ((.sl o3 0 x.nx.length 1,1,aA.map gw)::aA) [])(u:aA.map (·.2)=fr.map HW)(w:BK x 0 0 fr)(A:bJ R (.loop U.wN) e s=o):
  ∃(e':En) (s':HS) (av:aZ) (aA:cE) (fr:eh),o=.code (.exit 0) e' s'/\bH e' [(1,.aw x.c),(3,.sl o3 0 x.nx.length 1)]/\
   aG s' av ((.sl o3 0 x.nx.length 1,1,aA.map gw)::aA) []/\aA.map (·.2)=fr.map HW/\BK x x.nx.length 0 fr:=by
 have O:=J.n;refine ba A x.nx.length
  (λi e s=>∃(av:aZ) (aA:cE) (fr:eh),bH e [(1,.aw x.c),(3,.sl o3 0 x.nx.length 1),(20,.psl (x.nx.map nW)),(21,iV x.nx.length),(22,iV i)]/\
   aG s av ((.sl o3 0 x.nx.length 1,1,aA.map gw)::aA) []/\aA.map (·.2)=fr.map HW/\BK x i 0 fr)
  (λo=>∃(e':En) (s':HS) (av:aZ) (aA:cE) (fr:eh),o=.code (.exit 0) e' s'/\bH e' [(1,.aw x.c),(3,.sl o3 0 x.nx.length 1)]/\
   aG s' av ((.sl o3 0 x.nx.length 1,1,aA.map gw)::aA) []/\aA.map (·.2)=fr.map HW/\BK x x.nx.length 0 fr)
  0 (by omega) ⟨av,aA,fr,b,t,u,w⟩
  (λi e s r M ⟨av,aA,fr,b,t,u,w⟩ k=>by
   have B:(i:Int)<x.nx.length:=by omega
   simp only[ab,ae]at b;simp[U.wN,b,M,B]at k;generalize A:bJ R (.loop U.wM) _ _=o at k;obtain⟨e',s',z,d,C,rfl,q,D,E,I⟩:=YQ J M (v20:=.psl (x.nx.map nW)) (v21:=iV x.nx.length) (v22:=iV i) (by simp[b]) t u w A;clear A;simp only[ab,ae]at q;simp[q,bo (n:=400) (show i<400 by omega) (by omega)]at k;subst k;exact .inl ⟨_,_,rfl,z,d,C,by simp[q],D,E,I⟩)
  (λe s r ⟨av,aA,fr,b,t,u,w⟩ k=>by
   simp only[ab,ae]at b;simp[U.wN,b]at k;subst k;exact⟨by simp,_,_,av,aA,fr,rfl,by simp[b],t,u,w⟩)
def YU{A:cE}{u:cb}(O:u.length<=400){e:En}{s:HS}{o:Out}{v3:HV}{o8:Ky}{av:aZ}
  (c:bH e [(3,v3),(8,.sl o8 0 u.length 1),(9,.ah),(50,.sl o8 0 u.length 1),(51,iV u.length),(52,iV 0)])
  (d:aG s av (A++[(.sl o8 0 u.length 1,1,u.map bC),(.ah,1,[])]) [])(E:bJ R (.loop U.sR) e s=o):
  ∃(e':En) (s':HS) (av:aZ) (v9:HV),o=.code (.exit 4) e' s'/\bH e' [(3,v3),(8,.sl o8 0 u.length 1),(9,v9)]/\
   aG s' av (A++[(.sl o8 0 u.length 1,1,u.map bC),(v9,1,(((List.range u.length).filter λi=>u.getD i false)).map nC)]) []:=by
 refine ba E u.length
  (λi e s=>∃(av:aZ) (v9:HV),bH e [(3,v3),(8,.sl o8 0 u.length 1),(9,v9),(50,.sl o8 0 u.length 1),(51,iV u.length),(52,iV i)]/\
   aG s av (A++[(.sl o8 0 u.length 1,1,u.map bC),(v9,1,(((List.range i).filter λi=>u.getD i false)).map nC)]) [])
  (λo=>∃(e':En) (s':HS) (av:aZ) (v9:HV),o=.code (.exit 4) e' s'/\bH e' [(3,v3),(8,.sl o8 0 u.length 1),(9,v9)]/\
   aG s' av (A++[(.sl o8 0 u.length 1,1,u.map bC),(v9,1,(((List.range u.length).filter λi=>u.getD i false)).map nC)]) [])
  0 (by omega) ⟨av,.ah,c,d⟩
  (λi e s r z ⟨av,v9,c,d⟩ k=>by
   have q:(i:Int)<u.length:=by omega
   have C:=bo (n:=400) (show i<400 by omega) (by omega);have B:=kV (d.mem.own A.length _ _ _ (YR _ _ _)) (aR z);simp only[ab,ae]at c;have b:((List.range (i+1)).filter λi=>u.getD i false)=((List.range i).filter λi=>u.getD i false)++(if u[i]then [i]else []):=by rw[ET,List.filter_append,List.filter_cons,getD_at z];cases u[i]<;>rfl
   cases D:u[i]
   .rw[D]at B b;simp[U.sR,c,z,q,B,C]at k;subst k;refine .inl ⟨_,_,rfl,av,v9,by simp[c],?_⟩;rw[b];simpa using d
   rw[D]at B b;have I:((List.range i).filter λi=>u.getD i false).length<=i:=by have:=Kf (λi=>u.getD i false) (List.range i);simpa using this
   obtain⟨J,s2,t,M,P,w⟩:=d.append (A.length+1) (Tm _ _ _) (new:=[[iV i]]) (Sz.cons rfl Sz.nil) (by simp) (bw:=17592186044416) (by simp only[bG,az,aE];omega);rw[Nf]at w;simp[U.sR,c,z,q,B,C,M]at k;subst k;refine .inl ⟨_,_,rfl,t,J,by simp[c],?_⟩;rw[b];simpa[nC]using w)
  (λe s r ⟨av,v9,c,d⟩ k=>by
   simp only[ab,ae]at c;simp[U.sR,c]at k;subst k;exact⟨by simp,_,_,av,v9,rfl,by simp[c],d⟩)
def YV(hx:cf x){A:cE}{a:Nat}{ow:HV}{l':ay}(hA:A[a]?=some (ow,1,l'.map nC))(h5:l'.length<=2400000)(Z:∀q∈l',q<x.nx.length)(h3:∀q∈l',Lv x q){u:cb}{td:ay}{N:Nat}(C:td.length+u.count false=N)(h6:N<=400)
  {e:En}{s:HS}{o:Out}{v3 v9:HV}{o8:Ky}{av:aZ}(c:BL x u td λi=>∃B,0<=B/\l'[B]?=some i)
  (b:bH e [(3,v3),(8,.sl o8 0 x.nx.length 1),(9,v9),(80,ow),(81,iV l'.length),(82,iV 0)])
  (k:aG s av (A++[(.sl o8 0 x.nx.length 1,1,u.map bC),(v9,1,td.map nC)]) [])(ho:bJ R (.loop U.sS) e s=o):
  ∃(e':En) (s':HS) (av:aZ) (v9:HV) (u:cb) (td:ay),o=.code (.exit 8) e' s'/\bH e' [(3,v3),(8,.sl o8 0 x.nx.length 1),(9,v9)]/\td.length+u.count false=N/\(BL x u td λ_=>False)/\
   aG s' av (A++[(.sl o8 0 x.nx.length 1,1,u.map bC),(v9,1,td.map nC)]) []:=by
 have hn:=hx.n;have h4:=(aS.1 hA).1;refine ba ho l'.length
  (λj e s=>∃(av:aZ) (v9:HV) (u:cb) (td:ay),bH e [(3,v3),(8,.sl o8 0 x.nx.length 1),(9,v9),(80,ow),(81,iV l'.length),(82,iV j)]/\td.length+u.count false=N/\(BL x u td λi=>∃B,j<=B/\l'[B]?=some i)/\
   aG s av (A++[(.sl o8 0 x.nx.length 1,1,u.map bC),(v9,1,td.map nC)]) [])
  (λo=>∃(e':En) (s':HS) (av:aZ) (v9:HV) (u:cb) (td:ay),o=.code (.exit 8) e' s'/\bH e' [(3,v3),(8,.sl o8 0 x.nx.length 1),(9,v9)]/\td.length+u.count false=N/\(BL x u td λ_=>False)/\
   aG s' av (A++[(.sl o8 0 x.nx.length 1,1,u.map bC),(v9,1,td.map nC)]) [])
  0 (by omega) ⟨av,v9,u,td,b,C,c,k⟩
  (λj e s r t ⟨av,v9,u,td,b,C,c,k⟩ w=>by
   have D:(j:Int)<l'.length:=by omega
   have E:=aR t;have hw:=bo (n:=2400000) (show j<2400000 by omega) (by omega);have hq:=Z _ (cp t);have I:=h3 _ (cp t);have z:=k.mem.own a ow 1 (l'.map nC) (by rw[ea h4];exact hA);obtain⟨o9,rfl⟩:=z.gw (by intro h;rw[Fe]at h;rw[h]at t;simp at t);rw[bG]at b z;have g0:=gX z t;generalize l'[j]=q at*;have h7:=c.len;have d:q<u.length:=by omega
   have h8:(q:Int)<x.nx.length:=by omega
   have V:=kV (k.mem.own A.length _ _ _ (YR _ _ _)) (aR d);simp only[ab,ae]at b;cases X:u[q]
   .rw[X]at V;obtain⟨o1,s1,b1,b2,J⟩:=k.iY A.length (YR _ _ _) q (by simpa using d) (x:=.bool true) rfl;simp[hq]at b1;obtain rfl:=b1;rw[agB]at J;simp only[iu]at b2;obtain⟨v',s2,M,a2,c2,O⟩:=J.append (A.length+1) (Tm _ _ _) (new:=[[iV q]]) (Sz.cons rfl Sz.nil) (by simp) (bw:=17592186044416) (by simp only[bG,az,aE];omega);rw[Nf]at O;have P:u[q]?=some false:=by rw[aR d,X]
    simp[U.sS,b,t,D,g0,V,hq,b2,a2,hw]at w;subst w;refine .inl ⟨_,_,rfl,M,v',u.set q true,td++[q],by simp[b],?_,c.new E P I,?_⟩
    .have:=tY u q P;simp only[cA,az,aE];omega
    rw[mA,fB];exact O
   rw[X]at V;simp[U.sS,b,t,D,g0,V,hq,hw]at w;subst w;exact .inl ⟨_,_,rfl,av,v9,u,td,by simp[b],C,c.old E (by rw[aR d,X]),k⟩)
  (λe s r ⟨av,v9,u,td,b,C,c,k⟩ w=>by
   simp only[ab,ae]at b;simp[U.sS,b]at w;subst w;refine⟨by simp,_,_,av,v9,u,td,rfl,by simp[b],C,⟨c.len,c.snd,c.fin,c.tu,λi l hi e he hu=>?_⟩,k⟩;rcases c.cls i l hi e he hu with Y|Y|⟨B,Y,h2⟩
   .exact .inl Y
   .exact .inr (.inl Y)
   have:=(aS.1 h2).1;omega)
def YW(hx:cf x){A:cE}{o3:Ky}{aA:cE}{fr:eh}(Y:A[0]?=some (.sl o3 0 x.nx.length 1,1,aA.map gw))(hb:∀q:Nat,A[q+1]?=aA[q]?)(hI:aA.map (·.2)=fr.map HW)(X:BK x x.nx.length 0 fr)
  {u:cb}{td:ay}(hN:td.length+u.count false<=400){e:En}{s:HS}{o:Out}{v9:HV}{o8:Ky}{av:aZ}(k:BL x u td λ_=>False)
  (c:bH e [(3,.sl o3 0 x.nx.length 1),(8,.sl o8 0 x.nx.length 1),(9,v9)])
  (d:aG s av (A++[(.sl o8 0 x.nx.length 1,1,u.map bC),(v9,1,td.map nC)]) [])(ho:bJ R (.loop U.sU) e s=o):
  ∃(e':En) (s':HS) (av:aZ) (v9:HV) (u:cb),o=.code (.exit 6) e' s'/\bH e' [(8,.sl o8 0 x.nx.length 1)]/\mz x u/\
   aG s' av (A++[(.sl o8 0 x.nx.length 1,1,u.map bC),(v9,1,[])]) []:=by
 have hn:=hx.n;have hs:aA.length=x.nx.length:=by have:=cC List.length hI;simp only[bG]at this;rw[this,X.len]
 have z:∀(e:En) (s:HS) (r:Out) (av:aZ) (v9:HV) (u:cb),bH e [(3,.sl o3 0 x.nx.length 1),(8,.sl o8 0 x.nx.length 1),(9,v9)]->(BL x u [] λ_=>False)->
   aG s av (A++[(.sl o8 0 x.nx.length 1,1,u.map bC),(v9,1,[])]) []->bJ R U.sU e s=r->gk r/\∃(e':En) (s':HS) (av:aZ) (v9:HV) (u:cb),r=.code (.exit 6) e' s'/\bH e' [(8,.sl o8 0 x.nx.length 1)]/\mz x u/\
   aG s' av (A++[(.sl o8 0 x.nx.length 1,1,u.map bC),(v9,1,[])]) []:=by
  intro e s r av v9 u c k d C;have hlen:=d.mem.len (A.length+1) (Tm _ _ _) s;simp only[ab,ae]at c;simp only[aE]at hlen;simp[U.sU,c,hlen]at C;subst C;exact⟨by simp,_,_,av,v9,u,rfl,by simp[c],k.done,d⟩
 refine ba ho (td.length+u.count false)
  (λi e s=>∃(av:aZ) (v9:HV) (E:cb) (b:ay),bH e [(3,.sl o3 0 x.nx.length 1),(8,.sl o8 0 x.nx.length 1),(9,v9)]/\b.length+E.count false+i=td.length+u.count false/\(BL x E b λ_=>False)/\
   aG s av (A++[(.sl o8 0 x.nx.length 1,1,E.map bC),(v9,1,b.map nC)]) [])
  (λo=>∃(e':En) (s':HS) (av:aZ) (v9:HV) (u:cb),o=.code (.exit 6) e' s'/\bH e' [(8,.sl o8 0 x.nx.length 1)]/\mz x u/\
   aG s' av (A++[(.sl o8 0 x.nx.length 1,1,u.map bC),(v9,1,[])]) [])
  0 (by omega) ⟨av,v9,u,td,c,by omega,k,d⟩
  (λi e s r hi ⟨av,v9,E,b,c,D,k,d⟩ C=>by
   rcases mu b with h0|⟨t,p,h0⟩
   .subst h0;exact .inr (z e s r av v9 E c k d C)
   rw[xM]at h0;subst h0;have Z:=k.tu p (by simp);have h4:p<x.nx.length:=by have:=(aS.1 Z).1;have:=k.len;omega
   have hp:(p:Int)<x.nx.length:=by omega
   have hlen:=d.mem.len (A.length+1) (Tm _ _ _) s;have M:=d.mem.own (A.length+1) _ _ _ (Tm _ _ _);obtain⟨o9,rfl⟩:=M.gw (by simp);rw[bG]at c M;have g9:=gX M (i:=t.length) (by simp);obtain⟨ht,h9,O⟩:=d.cut (A.length+1) (Tm _ _ _) t.length (by simp) (by simp);rw[Nf]at O;simp at h9;obtain rfl:=h9;rw[show((t++[p]).map nC).take t.length=t.map nC by simp]at O;obtain⟨P,B⟩:∃P,fr[p]?=some P:=⟨_,aR (by rw[X.len];exact h4)⟩;have I:aA[p]?=some (aA[p]'(by omega)):=aR (by omega);obtain⟨w,hw⟩:∃w,aA[p]'(by omega)=(w,HW P):=by have J:=cC (λl=>l[p]?) hI;simp only[fR,I,B,lO,bL]at J;exact⟨_,Prod.ext rfl J⟩
   have V:A[p+1]?=some (w,1,P.map nC):=by rw[hb,I,hw];rfl
   have g6:eG (ak s.h o3) p=some w:=by have J:=d.mem.own 0 _ _ _ (by rw[ea (by have:=(aS.1 Y).1;omega)];exact Y);rw[J.cell p (by simp;omega)];simp[hw,gw]
   have h5:=d.mem.len (p+1) (by rw[ea (by have:=(aS.1 V).1;omega)];exact V) s;simp only[bG,cA,az,aE]at hlen h5 c g9;have h6:bQ .i64 (t.length:Int)=t.length:=bT (by omega) (by simp at D;omega);have h7:(0:Int)<(t.length:Int)+1:=by omega
   have hd:(t++[p])[t.length]'(by simp)=p:=by simp
   rw[hd]at g9;simp only[ab,ae]at c;have e1:((t.length+(0+1):Nat):Int)=(t.length:Int)+1:=by omega
   simp only[e1]at hlen;simp[U.sU,c,hlen,h7,h6,g9,h4,g6,h5]at C;generalize ho:bJ R (.loop U.sS) _ _=o at C;have hf:=k.pop X B;obtain⟨e',s',h8,hg,u2,hj,rfl,ha,hy,hk,hl⟩:=YV hx (v3:=.sl o3 0 x.nx.length 1) V (by
     have:=X.sz P (cG B);exact fz this (by rw[gH];exact fz (jD _ hn) (by decide)))
    (λq hq=>by obtain⟨es,J,_⟩:=X.snd p P B q hq;exact(aS.1 J).1)
    (λq hq=>by obtain⟨es,J,e1,h2,h3⟩:=X.snd p P B q hq;exact .HN J h2 (h3▸k.snd p Z)) (N:=t.length+E.count false) rfl (by simp at D;omega) hf (by simp[c]) O ho
   clear ho;simp only[ab,ae]at ha;simp at C;subst C;exact .inl ⟨_,_,rfl,h8,hg,u2,hj,by simp[ha],by simp at D;omega,hk,hl⟩)
  (λe s r ⟨av,v9,E,b,c,D,k,d⟩ C=>by
   have h0:b=[]:=iJ (by omega);subst h0;exact z e s r av v9 E c k d C)
def agC(x:Fa)(I:cf x):∃u,mz x u/\fL U.f195 R [.agg x.c]=true/\∀s,R (.call 169 [.agg x.c] s)=.val (.psl (u.map bC)) s:=by
 have hn:=I.n;have d:=I.nf;have hg:=I.pos;generalize z:bJ R U.RD (bb [.agg x.c] 0) s0=r
 suffices h:∃u,mz x u/\n5 [.tmp 2] r=some (.psl (u.map bC))/\Tl [.tmp 2] r=true by obtain⟨u,Z,h,hf⟩:=h;rw[<-z]at h hf;exact⟨u,Z,by rw[pz];exact hf,λs=>aeK h⟩
 have h0:aG s0 (λ_=>none) [] []:=⟨dR.start (by simp),by simp,by simp⟩;obtain⟨s1,m1,h7,h8⟩:=lH (s:=s0) (n:=x.nx.length) (bw:=5864062014805) (by omega) .ah;obtain⟨c1,ha⟩:=h0.join h8 h7 (λk hk=>by subst hk;exact aW _);have J:aG s1 c1 ((.sl s0.nx 0 x.nx.length 1,1,(List.replicate x.nx.length ((.ah,1,[]):xI)).map gw)::List.replicate x.nx.length (.ah,1,[])) []:=by
  rw[List.map_replicate];have key:∀(n:Nat) (L:cE),aG s1 c1 L []->aG s1 c1 (L++List.replicate n (.ah,1,[])) []:=by
   intro n
   induction n with|zero=>intro L h;simpa using h|succ n ih=>intro L h;have:=ih _ (h.push 1);rwa[Bk]at this
  exact key x.nx.length _ ha
 simp[U.RD,m1]at z;generalize B:bJ R (.loop U.wN) _ _=o at z;obtain⟨e2,s2,c2,aA,fr,rfl,C,hb,hI,hF⟩:=YS I (o3:=s0.nx) (by simp) J (by simp[HW]) (BK.start x) B;clear B;have hj:aA.length=x.nx.length:=by have:=cC List.length hI;simp only[bG]at this;rw[this,hF.len]
 obtain⟨b,t,D⟩:∃b t,x.fi=b::t:=by cases hf:x.fi with|nil=>have h9:=cC List.length hf;simp only[aE]at h9;omega|cons b t=>exact⟨b,t,rfl⟩
 obtain⟨v8,s3,c3,a3,k3,w⟩:=YP hb b t (by rw[D]at d;simp at d;omega);have w:=w.push 1;rw[<-D]at w;have M:x.fi.map bC=[.bool b]::t.map bC:=by rw[D];rfl
 simp only[ab,ae]at C;obtain⟨o8,rfl⟩:=(w.mem.own (aA.length+1) v8 1 (x.fi.map bC) (by simp)).gw (by rw[M];simp);rw[bG,<-d]at w a3;simp[C,M,a3]at z;generalize B:bJ R (.loop U.sR) _ _=o at z;obtain⟨e4,s4,c4,v9,rfl,E,O⟩:=YU (A:=(.sl s0.nx 0 x.nx.length 1,1,aA.map gw)::aA) (u:=x.fi) (v3:=.sl s0.nx 0 x.nx.length 1) (o8:=o8) (by omega) (by rw[<-d];simp[C]) (by rw[<-d];simpa using w) B;clear B;rw[<-d]at E O;simp only[ab,ae]at E;simp at z;generalize B:bJ R (.loop U.sU) _ _=o at z;have P:((List.range x.nx.length).filter λi=>x.fi.getD i false).length+x.fi.count false<=400:=by
  have Z:=Kf (λi=>x.fi.getD i false) (List.range x.nx.length);have h2:∀(l:cb),((List.range l.length).filter λi=>l.getD i false).length+l.count false<=l.length:=by
   intro l;have h3:((List.range l.length).filter λi=>l.getD i false).length=l.count true:=by
    have h4:l=(List.range l.length).map λi=>l.getD i false:=qi (by simp) λi h5 h6=>by simp[h5]
    conv=>rhs;rw[h4]
    rw[To,Tp,Tq]
    congr 1
    refine List.filter_congr λi _=>?_
    show l.getD i false=(l.getD i false==true);cases l.getD i false<;>rfl
   have h4:∀l:cb,l.count true+l.count false=l.length:=by
    intro l
    induction l with
    |nil=>rfl
    |cons b l ih=>cases b<;>simp<;>omega
   rw[h3,h4];exact aW _
  have:=h2 x.fi;rw[<-d]at this;omega
 have hJ:BL x x.fi ((List.range x.nx.length).filter λi=>x.fi.getD i false) λ_=>False:=by
  refine⟨d.symm,λi hi=>.fin hi,λi hi=>hi,λp hp=>?_,λi l hi e he hu=>?_⟩
  .rw[sB,gd]at hp;rw[aR (by omega),<-hp.2,getD_at (by omega)]
  left;obtain⟨Z,h2⟩:=aS.1 hu;rw[sB,gd];exact⟨by omega,by rw[getD_at Z];exact h2⟩
 obtain⟨e5,s5,c5,hl,u,rfl,V,hd,X⟩:=YW I (A:=(.sl s0.nx 0 x.nx.length 1,1,aA.map gw)::aA) (o3:=s0.nx) (aA:=aA) rfl (λq=>rfl) hI hF P hJ (by simp[E]) O B;clear B;simp only[ab,ae]at V;have Y:=X.mem.own _ _ _ _ (YR _ _ _);have hv:=(X.mem.own _ _ _ _ (YR _ _ _)).vw (n:=14) (by exact cq (λx=>by simp[dX]) _);simp[V]at z;subst z;refine⟨u,hd,?_,rW (v:=.sl o8 0 x.nx.length 1) (s':=s5) (by simp) (pX Y (Gq u))⟩;simp;exact aH hv
end
def agD(s:HS):R (.call 170 [] s)=.val (.agg lD.c) s:=by refine aeM ?_;simp[U.WJ,s0,ai,an,ao];exact aH (Vw.agg (.cons (Vw.sl (l:=[.ah]) (l':=[.psl []]) rfl (.cons .ah .nil) (λ_=>rfl) (λh=>by cases h)) (.cons (Vw.sl (l:=[.bool false]) (l':=[.bool false]) rfl (.data (by simp)) (λ_=>rfl) (λh=>by cases h)) .nil)))
def agE(u:cb)(e:Eg)(h:e.to<u.length)(s:HS):R (.call 172 [.agg e.c,.aw [.psl (u.map bC)]] s)=.val (.bool (!u.getD e.to false)) s:=by
 refine aeO ?_;have b:(e.to:Int)<u.length:=by omega
 rw[getD_at h];simp[U.WK,aa,h]
def YX(u:cb)(l:bq)(P:l.length<=6000)(C:∀e∈l,e.to<u.length)(s:HS):R (.call 187 [.psl (l.map Eg.c),.fn 172 [] [.aw [.psl (u.map bC)]]] s)=.val (iV (yZ (λe:Eg=> !u.getD e.to false) l)) s:=by
 refine X2 ?_ rfl (by simp[dX]);simp[U.RY];generalize B:bJ R (.loop U.nu) _ _=o;have D:=jJ B l.length (λi=>∀h:i<l.length,(!u.getD l[i].to false)=false) (λi=>[(0,.psl (l.map Eg.c)),(1,.fn 172 [] [.aw [.psl (u.map bC)]]),(7,iV l.length),(8,iV i)]) [] 0 (λi o=>∃A,o=.code .ret A s0/\look A 4=some (iV i)) (by simp)
  (λi e r d k q=>by
   have t:(i:Int)<l.length:=by omega
   have b:=agE u l[i] (C _ (cp d));simp only[Eg.c]at b;simp only[ab,ae]at k;cases w:(!u.getD l[i].to false)
   .rw[w]at b;simp[U.nu,k,d,t,b,bo (n:=6000) (show i<6000 by omega) (by omega)]at q;subst q;exact .inl ⟨λ_=>w,_,rfl,by simp[k]⟩
   rw[w]at b;simp[U.nu,k,d,t,b]at q;subst q;exact .inr ⟨λh=>(by rw[h d]at w;cases w),by simp,_,rfl,by simp⟩)
  (λe r k q=>by
   simp only[ab,ae]at k;simp[U.nu,k]at q;subst q;exact⟨_,rfl,by simp⟩)
 clear B;rcases D with⟨i,d,E,I,A,rfl,J⟩|⟨z,A,rfl,_⟩
 .have M:(!u.getD l[i].to false)=true:=by
   cases h:(!u.getD l[i].to false)
   .exact absurd (λ_=>h) I
   rfl
  rw[vj d (λj O=>E j O (by omega)) M];simp[J,aa]
 rw[mG (λi d=>z i d d)];simp[aa]
def YY(u:cb)(l:bq)(w:l.length<=6000)(q:∀e∈l,u[e.to]?=some true){s:HS}{o3 g:Ky}(z:ak s.h o3=some (.cells (cM [.psl (u.map bC)]) 0 1 g)):
  R (.call 171 [.psl (l.map Eg.c),.fn 172 [] [.ptr o3 0]] s)=.val (.psl (l.map Eg.c)) s:=by
 have b:=YX u l w (λe A=>(aS.1 (q e A)).1);rw[mG (λi B=>by
  obtain⟨C,D⟩:=aS.1 (q _ (cp B));rw[getD_at C,D];rfl)]at b
 have E:R (.call 187 [.psl (l.map Eg.c),.fn 172 [] [.ptr o3 0]] s)=.val (iV (-1)) s:=ae6 (by simp[cj,bV]) (.cons (.data (by simp)) (.cons (Vw.fn .nil (.cons (Vw.ptr z rfl (.data (by simp[dX]))) .nil)) .nil)) (by simp[dX]) rfl b;have d:∃k,ev R U.Mu (bb [.psl (l.map Eg.c),.fn 172 [] [.ptr o3 0]] 0) s=.code .ret k s/\look k 4=some (.psl (l.map Eg.c)):=by generalize t:ev R U.Mu (bb [.psl (l.map Eg.c),.fn 172 [] [.ptr o3 0]] 0) s=r;simp[U.Mu,E]at t;subst t;exact⟨_,rfl,by simp⟩
 obtain⟨k,d,I⟩:=d;exact aeN rfl ⟨.ret,_,s,d,.inr rfl,by simp[I]⟩
def YZ(l:bq)(b:l.length<=100000)(s:HS):R (.call 177 [.psl (l.map Eg.c)] s)=.val (.psl (l.map Eg.c)) s:=by have:=agA (l.map Eg.i) (by simpa using b) s;rw[sv]at this;exact this
def agF(x:Fa)(hx:cf x){s:HS}{av:aZ}{L:cE}{K:dv}(h:aG s av L K):∃vN vF s' d K',R (.call 141 [.agg x.c] s)=.val (.agg [vN,vF]) s'/\cellsOf vN=some [vN]/\cellsOf vF=some [vF]/\
  aG s' d (L++[(vF,1,x.fi.map bC),(vN,1,x.nx.map nW)]) (K'++K):=by
 have hn:=hx.n;have E:=hx.nf;have h6:=hx.pos;obtain⟨b,t,B⟩:∃b t,x.fi=b::t:=by cases hf:x.fi with|nil=>have h9:=cC List.length hf;simp only[aE]at h9;omega|cons b t=>exact⟨b,t,rfl⟩
 have h3:x.fi.map bC=[.bool b]::t.map bC:=by rw[B];rfl
 have I:=h.ds [.ah,.ah];generalize J:HS.mk _ _ _ _=S1 at I;obtain⟨vF,s2,c2,a2,k2,M⟩:=YP I b t (by rw[B]at E;simp at E;omega);rw[<-B]at M;have O:=M.ds [.ah,.ah];generalize P:HS.mk _ _ _ _=S3 at O;obtain⟨s4,b4,k⟩:=O.put (a:=0) rfl (v:=.agg [.ah,vF]) (new:=[.ah,vF]) (by simp[cellsOf]) rfl;have k:=k.push 1;simp only[aQ]at k;rw[show L++[(vF,1,x.fi.map bC)]++[((.ah,1,[]):xI)]=L++[(vF,1,x.fi.map bC),(.ah,1,[])] by simp]at k;simp only[az,aE,bF,Nat.reduceAdd]at J P b4;have hE:∃w s' vN d,ev R U.Mj (bb [.agg x.c] 0) s=.code .ret w s'/\look w 2=some (.ptr s.nx 0)/\cellsOf vN=some [vN]/\
   aG s' d (L++[(vF,1,x.fi.map bC),(vN,1,x.nx.map nW)]) ((s2.nx,[vN,vF])::(s.nx,[vN,vF])::K):=by
  generalize z:ev R U.Mj (bb [.agg x.c] 0) s=r;simp[U.Mj,J,h3,a2,k2,P,b4]at z;generalize ho:ev R (.loop U.A4) _ _=o at z;have C:∃(w:En) (s':HS) (av:aZ) (vN:HV),o=.code (.exit 0) w s'/\bH w [(2,.ptr s.nx 0),(3,.ptr s2.nx 0)]/\cellsOf vN=some [vN]/\
    aG s' av (L++[(vF,1,x.fi.map bC),(vN,1,x.nx.map nW)]) ((s2.nx,[vN,vF])::(s.nx,[.ah,.ah])::K):=by
   refine eU ho x.nx.length
    (λi e s'=>∃(av:aZ) (vN:HV),bH e [(2,.ptr s.nx 0),(3,.ptr s2.nx 0),(11,.psl (x.nx.map nW)),(12,iV x.nx.length),(13,iV i)]/\cellsOf vN=some [vN]/\
     aG s' av (L++[(vF,1,x.fi.map bC),(vN,1,(x.nx.take i).map nW)]) ((s2.nx,[vN,vF])::(s.nx,[.ah,.ah])::K))
    (λo=>∃(w:En) (s':HS) (av:aZ) (vN:HV),o=.code (.exit 0) w s'/\bH w [(2,.ptr s.nx 0),(3,.ptr s2.nx 0)]/\cellsOf vN=some [vN]/\
     aG s' av (L++[(vF,1,x.fi.map bC),(vN,1,x.nx.map nW)]) ((s2.nx,[vN,vF])::(s.nx,[.ah,.ah])::K))
    0 (by omega) ⟨c2,.ah,by simp,rfl,k⟩
    (λi e s' r hi ⟨av,vN,q,D,u⟩ z=>by
     have h4:(i:Int)<x.nx.length:=by omega
     have h8:=hx.row hi;have V:=YZ x.nx[i] (by omega);have A:=(u.bD 0 s2.nx _ rfl).1.1;obtain⟨h5,s5,X,a5,k5,Y⟩:=u.append (L.length+1) (Tm _ _ _) (new:=[[.psl (x.nx[i].map Eg.c)]]) (Sz.cons rfl Sz.nil) (by simp) (bw:=5864062014805) (by simp;omega);rw[Nf]at Y;obtain⟨s6,b6,Z⟩:=Y.xV (a:=0) rfl 0 (by simp) k5;simp only[aQ]at Z;have h7:(x.nx.map nW)[i]?=some [.psl (x.nx[i].map Eg.c)]:=by rw[fR,aR hi];rfl
     simp only[az,aE,bF,Nat.reduceAdd]at A;simp only[ab,ae]at q;simp[U.A4,q,hi,h4,V,A,a5,b6,bo (n:=400) (show i<400 by omega) (by omega)]at z;subst z;refine .inl ⟨_,_,rfl,X,h5,by simp[q],k5,?_⟩;rw[fC hi,fB];exact Z)
    (λe s' r ⟨av,vN,q,D,u⟩ z=>by
     simp only[ab,ae]at q;simp[U.A4,q]at z;subst z;rw[my]at u;exact⟨by simp,_,_,av,vN,rfl,by simp[q],D,u⟩)
  obtain⟨w,s',d,vN,rfl,q,D,u⟩:=C;have A:=(u.bD 0 s2.nx _ rfl).1.1;obtain⟨s7,b7,h1⟩:=u.put (a:=1) rfl (v:=.agg [vN,vF]) (new:=[vN,vF]) (by simp[cellsOf]) rfl;simp only[aQ,cd]at h1;simp only[az,aE,bF,Nat.reduceAdd]at A b7;simp only[ab,ae]at q;simp[q,A,ao,b7]at z;subst z;exact⟨_,s7,vN,d,rfl,by simp[q],D,h1⟩
 obtain⟨w,s',vN,d,hE,h2,D,u⟩:=hE;have A:=(u.bD 1 s.nx _ rfl).1.1;refine⟨vN,vF,s',d,[(s2.nx,[vN,vF]),(s.nx,[vN,vF])],aem rfl ⟨.ret,_,s',hE,.inr rfl,?_⟩,D,k2,u⟩;simp only[az,aE,bF,Nat.reduceAdd]at A;simp[h2,A,ao]
def Kg(l:ay):Nat:=l.foldl (λa d=>a*10+(d-48)) 0
def HX(l:ay)(d:Nat):Kg (l++[d])=Kg l*10+(d-48):=by simp[Kg]
def qR:∀(f n:Nat),n<10^f->Kg (dI f n)=n
 |0,n,h=>by simp at h;subst h;rfl
 |f+1,n,h=>by
  rw[dI];cases b:Nat.blt n 10
  .have c:=qR f (n/10) (by rw[Nat.pow_succ]at h;omega);have k:¬n<10:=by intro d;rw[ch.2 d]at b;cases b
   simp only[cond_false];rw[HX,c];omega
  simp only[cond_true];simp[Kg]
def jn:∀(f n:Nat),∀d∈dI f n,48<=d/\d<58
 |0,n,d,h=>by cases h
 |f+1,n,d,h=>by
  rw[dI]at h;cases b:Nat.blt n 10
  .rw[b,cond_false]at h;rcases cP.1 h with h|h
   .exact jn f _ d h
   rw[dq.1 h];omega
  rw[b,cond_true]at h;have:n<10:=ch.1 b;rw[dq.1 h];omega
def qS:∀(f n:Nat),(dI f n).length<=f
 |0,n=>aW _
 |f+1,n=>by have:=qS f (n/10);rw[dI];cases Nat.blt n 10<;>simp<;>omega
def fX(n:Int):Prop:= -9223372036854775808<=n/\n<9223372036854775808
def Y0:9223372036854775808<10^25:=by decide
def Dl{a b:Int}(k:fX a)(q:fX b)(h:itoa a=itoa b):a=b:=by
 have u:=Y0;have r:∀(n m:Nat),n<=9223372036854775808->m<=9223372036854775808->dI 25 n=dI 25 m->n=m:=by intro n m w z t;rw[<-qR 25 n (by omega),<-qR 25 m (by omega),t]
 unfold fX at k q;cases a with
 |ofNat n=>
  cases b with
  |ofNat m=>simp only[mW]at k q;rw[r n m (by omega) (by omega) h]
  |negSucc m=>
   exfalso;have d:dI 25 n=45::dI 25 (m+1):=h;have c:(45:Nat)∈dI 25 n:=by rw[d];exact dm
   have:=jn _ _ _ c;omega
 |negSucc n=>
  cases b with
  |ofNat m=>
   exfalso;have d:45::dI 25 (n+1)=dI 25 m:=h;have c:(45:Nat)∈dI 25 m:=by rw[<-d];exact dm
   have:=jn _ _ _ c;omega
  |negSucc m=>
   have c:dI 25 (n+1)=dI 25 (m+1):=by injection h
   have:=r (n+1) (m+1) (by omega) (by omega) c;rw[show n=m by omega]
def vk(a:Int):∀d∈itoa a,d≠32:=by
 intro d b;cases a with
 |ofNat n=>have:=jn _ _ _ b;omega
 |negSucc n=>
  rcases bk.1 b with h|h
  .omega
  have:=jn _ _ _ h;omega
def yd(a:Int):(itoa a).length<=26:=by cases a with|ofNat n=>have:=qS 25 n;show(dI 25 n).length<=26;omega|negSucc n=>have:=qS 25 (n+1);show(dI 25 (n+1)).length+1<=26;omega
def eW(l:aY):ay:=l.flatMap λn=>32::itoa n
def vl:∀{a b r k:ay},(∀d∈a,d≠32)->(∀d∈b,d≠32)->(r=[]∨∃t,r=32::t)->(k=[]∨∃t,k=32::t)->a++r=b++k->a=b/\r=k
 |[],[],r,k,_,_,_,_,h=>⟨rfl,h⟩
 |[],d::b,r,k,_,w,z,_,h=>by
  rcases z with rfl|⟨t,rfl⟩
  .cases h
  injection h with u A
  exact(w d (by simp) u.symm).elim
 |d::a,[],r,k,B,_,_,q,h=>by
  rcases q with rfl|⟨t,rfl⟩
  .cases h
  injection h with u A
  exact(B d (by simp) u).elim
 |d::a,c::b,r,k,B,w,z,q,h=>by
  injection h with u A
  obtain⟨D,E⟩:=vl (λx C=>B x (by simp[C])) (λx C=>w x (by simp[C])) z q A;exact⟨by rw[u,D],E⟩
def nI(l:aY):eW l=[]∨∃t,eW l=32::t:=by cases l with|nil=>exact .inl rfl|cons a l=>exact .inr ⟨_,rfl⟩
def zX:∀{l l':aY},(∀n∈l,fX n)->(∀n∈l',fX n)->eW l=eW l'->l=l'
 |[],[],_,_,_=>rfl
 |[],b::l',_,_,h=>by cases h
 |a::l,[],_,_,h=>by cases h
 |a::l,b::l',k,c,h=>by
  have q:itoa a++eW l=itoa b++eW l':=by have r:32::(itoa a++eW l)=32::(itoa b++eW l'):=h;injection r
  obtain⟨t,u⟩:=vl (vk a) (vk b) (nI l) (nI l') q;rw[Dl (k a (by simp)) (c b (by simp)) t,zX (λn d=>k n (by simp[d])) (λn d=>c n (by simp[d])) u]
def eI(cls:aY)(e:Eg):aY:=[e.m.id,e.m.arg,e.m.kind,e.m.n,cls.getD e.to 0]
def rY(b:Bool):ay:=if b then [116,114,117,101]else [102,97,108,115,101]
def eR(x:Fa)(cls:aY)(p:Nat):ay:=rY (x.fi.getD p false)++(x.nx.getD p []).flatMap λe=>eW (eI cls e)
def j9(cls:aY)(l:bq):(l.flatMap λe=>eW (eI cls e))=eW (l.flatMap (eI cls)):=by induction l with|nil=>rfl|cons e l b=>rw[mB,b,mB];simp[eW,tb]
def Dm(cls:aY):∀{l l':bq},l.flatMap (eI cls)=l'.flatMap (eI cls)->l.map (λe=>(e.m,cls.getD e.to 0))=l'.map (λe=>(e.m,cls.getD e.to 0))
 |[],[],_=>rfl
 |[],b::l',h=>by simp[eI]at h
 |a::l,[],h=>by simp[eI]at h
 |a::l,b::l',h=>by
  rw[mB,mB]at h;simp only[eI,bx,bA,qp]at h;obtain⟨k,q,r,t,c,d⟩:=h;rw[cx,cx,Dm cls (l:=l) (l':=l') d,c];have:a.m=b.m:=by
   obtain⟨⟨_,_,_,_⟩,_⟩:=a;obtain⟨⟨_,_,_,_⟩,_⟩:=b
   simp_all
  rw[this]
def Ff(x:Fa):Prop:=∀l∈x.nx,∀e∈l,fX e.m.id/\fX e.m.arg/\(0<=e.m.kind/\e.m.kind<256)/\fX e.m.n
def Dn{x:Fa}(q:Ff x){cls:aY}(t:∀c∈cls,fX c){p:Nat}:∀n∈(x.nx.getD p []).flatMap (eI cls),fX n:=by
 intro n d;obtain⟨e,k,d⟩:=qT.1 d;have b:x.nx.getD p []∈x.nx:=by
  rw[eD]at k ⊢;cases h:x.nx[p]?with
  |none=>rw[h]at k;cases k
  |some r=>exact cG h
 obtain⟨u,w,C,z⟩:=q _ b e k;have A:fX (cls.getD e.to 0):=by rw[eD];cases h:cls[e.to]?with|none=>unfold fX;simp|some c=>exact t c (cG h)
 have B:fX e.m.kind:=by unfold fX;omega
 simp only[eI,bk,BI,BJ]at d;rcases d with rfl|rfl|rfl|rfl|rfl
 .exact u
 .exact w
 .exact B
 .exact z
 exact A
def Dp{x:Fa}(k:Ff x){cls:aY}(r:∀c∈cls,fX c){p q:Nat}(h:eR x cls p=eR x cls q):
  x.fi.getD p false=x.fi.getD q false/\(x.nx.getD p []).map (λe=>(e.m,cls.getD e.to 0))=(x.nx.getD q []).map (λe=>(e.m,cls.getD e.to 0)):=by
 unfold eR at h;rw[j9,j9]at h;have t:∀b,∀d∈rY b,d≠32:=by intro b;cases b<;>decide
 obtain⟨u,w⟩:=vl (t _) (t _) (nI _) (nI _) h;refine⟨?_,Dm cls (zX (Dn k r) (Dn k r) w)⟩;cases z:x.fi.getD p false<;>cases A:x.fi.getD q false<;>rw[z,A]at u<;>first|rfl|(exact absurd u (by decide))
def Fg{s s':HS}{sz bw t dP:Nat}{x D:HV}{new:aj}(h:s.append sz bw none x new dP=.v D s')(P:dP≠0)(V:∀o a b c,x=.sl o a b c->∃m,ak s.ty o=some (t,m)):
  ∃T,s.append sz bw (some t) x new dP=.v D ⟨s'.h,s'.nx,s'.gr,T⟩/\(∃a b c,D=.sl s.nx a b c)/\ak T s.nx=some (t,0)/\∀k,k≠s.nx->ak T k=ak s.ty k:=by
 have M:∀k,k≠s.nx->ak (ax (some (t,0)) s.nx s.ty) k=ak s.ty k:=λk X=>by rw[af,au X]
 have u:Nat.beq dP 0=false:=by
  cases C:Nat.beq dP 0
  .rfl
  exact(P (bh.1 C)).elim
 unfold HS.append at h ⊢;cases x with
 |ah=>
  simp only[u,cond_false]at h ⊢;cases C:Nat.ble dP bw
  .rw[C]at h;cases h
  rw[C]at h;cases h;exact⟨_,rfl,⟨_,_,_,rfl⟩,by rw[show DQ (some t) s=ax (some (t,0)) s.nx s.ty from rfl,af,ar rfl],M⟩
 |sl o d len w=>
  obtain⟨m,Y⟩:=V o d len w rfl;have z:lJ (some t) o s=ax (some (t,0)) s.nx s.ty:=by show(match ak s.ty o with|some (Z,_)=>bif Nat.beq Z t then ax (some (t,0)) s.nx s.ty else s.ty|none=>s.ty)=_;rw[Y];simp
  simp only[u,cond_false]at h ⊢;rw[z];cases A:Nat.beq sz w
  .simp[A]at h
  simp only[A,nV,cond_false]at h ⊢;cases r:ak s.h o with
  |none=>rw[r]at h;cases h
  |some b=>
   cases b with
   |cells tt lo hi g=>
    simp only[r]at h ⊢;cases O:ak s.gr g with
    |none=>rw[O]at h;cases h
    |some ms=>
     simp only[O]at h ⊢;generalize bI _ _ _ _ _=q at h ⊢;cases E:ak q.1 o with
     |none=>rw[E]at h;cases h
     |some b2=>
      cases b2 with
      |cells t2 I J g2=>
       simp only[E]at h ⊢;cases B:(iW o q.2&&Nat.ble I d&&Nat.ble (d+len*sz) J&&Nat.ble (len+dP) bw)
       .rw[B]at h;cases h
       rw[B]at h;cases h;exact⟨_,rfl,⟨_,_,_,rfl⟩,by rw[af,ar rfl],M⟩
      |_=>rw[E]at h;cases h
   |_=>rw[r]at h;cases h
 |_=>cases h
section
variable{s:HS}{av:aZ}{L:cE}{K:dv}
def aG.ty(h:aG s av L K)(T:Tr (Nat×Nat)):aG ⟨s.h,s.nx,s.gr,T⟩ av L K:=⟨⟨h.mem.bd,h.mem.top,h.mem.own⟩,h.bD,h.nd⟩
def aG.Y1(h:aG s av L K)(i:Nat){v:HV}{sz:Nat}{aq:aO}(r:L[i]?=some (v,sz,aq)){new:aO}(u:Sz sz new)(h0:new≠ []){bw:Nat}(B:aq.length+new.length<=bw)(t:Nat)(E:∀o a b c,v=.sl o a b c->∃m,ak s.ty o=some (t,m)):
  ∃q s' d,s.append sz bw (some t) v (aB new) new.length=.v q s'/\cellsOf q=some [q]/\aG s' d (L.set i (q,sz,aq++new)) K/\(∀o a b c,q=.sl o a b c->∃m,ak s'.ty o=some (t,m))/\(∀k,k.toNat<s.nx.toNat->ak s'.ty k=ak s.ty k)/\s.nx.toNat<=s'.nx.toNat:=by
 obtain⟨q,s',w,I,Y,J⟩:=h.mem.vi i r u h0 B;obtain⟨z,A,d,C,Z,M⟩:=h.append i r u h0 B;rw[w]at C;obtain⟨rfl,rfl⟩:q=z/\s'=A:=by cases C;exact⟨rfl,rfl⟩
 rw[mr (h.mem.own i _ _ _ r).iz h0 u]at w;obtain⟨T,O,⟨a,b,c,P⟩,V,X⟩:=Fg (t:=t) w (by simpa using h0) E;refine⟨q,_,d,O,I,M.ty T,λo a' b' c' D=>?_,λk hk=>?_,J.1⟩
 .rw[P]at D;cases D;exact⟨0,V⟩
 exact X k (λe=>by subst e;omega)
end
def uC(n:Nat):aj:=[.int .u8 n]
def vm:∀l:ay,aB (l.map uC)=fG l
 |[]=>rfl
 |n::l=>by rw[cx,cV,vm l];rfl
def ye:∀l:ay,(∀n∈l,n<256)->bytesOf (fG l)=some l
 |[],_=>rfl
 |n::l,h=>by show(bif Nat.blt n 256 then(match bytesOf (fG l)with|some l=>some (n::l)|none=>none)else none)=_;rw[ye l (λm b=>h m (by simp[b])),ch.2 (h n (by simp))];rfl
@[simp]def Y2{e:En}{s:HS}{t:Nat}{a b:HV}:cU (.alb t [a,b]) e s=.v (.ptr s.nx 0) {h:=ax (some (.cells (cM [a,b]) 0 2 s.nx)) s.nx s.h,nx:=s.nx.succ,gr:=ax (some [s.nx]) s.nx s.gr,ty:=ax (some (t,2)) s.nx s.ty}:=rfl
def Y3(bw:Nat)(c:bE)(x y:bO)(s:HS):cR:=match x,y with
  |some a,some b=>bif iz a then(match b with
   |.str l=>bif Nat.beq (aM l) 0 then .v a s else s.append 1 bw c a (fG l) (aM l)
   |_=>.bad)else .bad
  |_,_=>.bad
@[simp]def aaX{e:En}{s:HS}{bw:Nat}{b:bE}{x y:X}:cU (.aps bw b x y) e s=Y3 bw b (bp x e) (bp y e) s:=rfl
def Y4{s:HS}{o:Ky}(h:ak s.ty o=some (188,2))(b:s.cell o 0=some (.ptr o 0)):R (.call 126 [.ptr o 0] s)=.val .undef s:=by refine dr ?_ trivial;show tD LU [.ptr o 0] s=_;unfold tD;simp only[h,b];rw[(Ky.beq_iff o o).2 rfl];rfl
def Y5{s s':HS}{o:Ky}(h:ak s.ty o=some (188,2))(b:s.cell o 0=some .dO)(c:s.store o 0 [.ptr o 0]=some s'):R (.call 126 [.ptr o 0] s)=.val .undef s':=by refine dr ?_ trivial;show tD LU [.ptr o 0] s=_;unfold tD;simp only[h,b,c];rfl
def agG(n:Int)(h:fX n)(s:HS):R (.call 208 [iV n,iV 10] s)=.val (.str (itoa n)) s:=by refine dr ?_ trivial;show vy [iV n,iV 10] s=_;unfold fX at h;cases n with|ofNat n=>show(bif Nat.blt n 9223372036854775808&&Nat.beq 10 10 then Out.val (.str (dI 25 n)) s else .bad 25)=_;rw[ch.2 (by simp only[mW]at h;omega)];rfl|negSucc n=>show(bif Nat.blt n 9223372036854775808&&Nat.beq 10 10 then Out.val (.str (45::dI 25 (Nat.succ n))) s else .bad 25)=_;rw[ch.2 (by omega)];rfl
def agH(n:Int)(h:fX n)(s:HS):R (.call 200 [iV n] s)=.val (.str (itoa n)) s:=by refine aff ?_;have:=agG n h;simp[U.WV,this,aa]
def Y6(n:Int)(h:fX n)(s:HS):R (.call 192 [iV n] s)=.val (.str (itoa n)) s:=by refine afa ?_;have:=agH n h;simp[U.WQ,this,aa]
def agI(b:Bool)(s:HS):R (.call 199 [.bool b] s)=.val (.str (rY b)) s:=by
 refine afe ?_;have c:∀s,R (.call 207 [.bool b] s)=.val (.str (rY b)) s:=λs=>by refine afk ?_;cases b<;>simp[U.WZ,aa,rY]
 simp[U.WU,c,aa]
structure nJ(s:HS)(o:Ky)(p v:HV):Prop where
 ty:ak s.ty o=some (188,2)
 pp:p=.dO∨p=.ptr o 0
 tv:∀o' a b c,v=.sl o' a b c->∃m,ak s.ty o'=some (5,m)
section
variable{s:HS}{av:aZ}{L:cE}{K:dv}
def aG.Ng(h:aG s av L K){a:Nat}{o:Ky}{c:aj}(b:K[a]?=some (o,c))(k:Nat)(q:k<c.length){x:HV}(r:cellsOf x=some [x]):∃s',pR 1 (some (.ptr o k)) (some x) s=.v .undef s'/\aG s' av L (K.set a (o,c.set k x))/\s'.ty=s.ty/\s'.nx=s.nx:=by obtain⟨s',t,u,d,w⟩:=(h.bD a o c b).1.set k q x r;exact⟨s',t,h.cell b u d,d.2.1,w⟩
def Ts{a:Nat}{o:Ky}{p v:HV}(d:aG s av L K)(k:K[a]?=some (o,[p,v]))(q:nJ s o p v):∃s',R (.call 126 [.ptr o 0] s)=.val .undef s'/\aG s' av L (K.set a (o,[.ptr o 0,v]))/\s'.ty=s.ty/\s'.nx=s.nx:=by
 have w:=(d.bD a o _ k).1.1;have c:s.cell o 0=some p:=by rw[Ba,w];simp
 rcases q.pp with rfl|rfl
 .obtain⟨s',b,z,A,B⟩:=d.Ng k 0 (by simp) (x:=.ptr o 0) rfl;rw[iO]at b;have r:s.store o 0 [.ptr o 0]=some s':=by
   cases u:s.store o 0 [.ptr o 0]with
   |none=>rw[show cellsOf (.ptr o 0)=some [HV.ptr o 0] from rfl]at b;simp only[dG,dx,bj,u]at b;cases b
   |some s2=>rw[show cellsOf (.ptr o 0)=some [HV.ptr o 0] from rfl]at b;simp only[dG,dx,bj,u]at b;cases b;rfl
  exact⟨s',Y5 q.ty c r,z,A,B⟩
 refine⟨s,Y4 q.ty c,?_,rfl,rfl⟩;have t:=(aS.1 k);rw[<-t.2,xX];exact d
def Kh{i:Nat}{v:HV}{l:ay}(u:aG s av L K)(w:L[i]?=some (v,1,l.map uC))(A:∀o a b c,v=.sl o a b c->∃m,ak s.ty o=some (5,m))(t:ay)(C:l.length+t.length<=140737488355328):
  ∃q s' d,Y3 140737488355328 (some 5) (some v) (some (.str t)) s=.v q s'/\cellsOf q=some [q]/\aG s' d (L.set i (q,1,(l++t).map uC)) K/\(∀o a b c,q=.sl o a b c->∃m,ak s'.ty o=some (5,m))/\(∀k,k.toNat<s.nx.toNat->ak s'.ty k=ak s.ty k)/\s.nx.toNat<=s'.nx.toNat:=by
 have r:=(u.mem.own i _ _ _ w).iz;cases t with
 |nil=>
  refine⟨v,s,av,?_,(u.mem.own i _ _ _ w).one,?_,A,λ_ _=>rfl,aW _⟩
  .show(bif iz v then(bif Nat.beq (aM ([]:ay)) 0 then cR.v v s else _)else .bad)=_;rw[r];rfl
  have z:=(aS.1 w);rw[BB,<-z.2,xX];exact u
 |cons b t=>obtain⟨q,s',d,B,D,E,I,J,M⟩:=u.Y1 i w (new:=(b::t).map uC) (Sz.map (f:=uC) (λx=>rfl) _) (by simp) (bw:=140737488355328) (by simpa using C) 5 A;refine⟨q,s',d,?_,D,by rw[fB];exact E,I,J,M⟩;show(bif iz v then(bif Nat.beq (aM (b::t)) 0 then cR.v v s else s.append 1 140737488355328 (some 5) v (fG (b::t)) (aM (b::t)))else .bad)=_;rw[r];show s.append 1 140737488355328 (some 5) v (fG (b::t)) (aM (b::t))=_;rw[cH];rw[vm,bG]at B;exact B
def Y7{a i:Nat}{o:Ky}{p v:HV}{l:ay}(I:aG s av L K)(z:K[a]?=some (o,[p,v]))(V:L[i]?=some (v,1,l.map uC))(A:nJ s o p v)(t:ay)(X:l.length+t.length<=140737488355328):
  ∃c s' d,R (.call 181 [.ptr o 0,.str t] s)=.val (.bM [iV t.length,.fQ]) s'/\aG s' d (L.set i (c,1,(l++t).map uC)) (K.set a (o,[.ptr o 0,c]))/\nJ s' o (.ptr o 0) c:=by
 obtain⟨s1,Y,k,J,Z⟩:=Ts I z A;have B:=(aS.1 z).1;have C:=(I.bD a o _ z).1.2.2;have q:(K.set a (o,[.ptr o 0,v]))[a]?=some (o,[.ptr o 0,v]):=by rw[gn B]
 have M:=(k.bD a o _ q).1.1;obtain⟨c,s2,u,h2,k2,D,tv,tf,n2⟩:=Kh k V (by rw[J];exact A.tv) t X;obtain⟨s3,h3,b,O,n3⟩:=D.Ng q 1 (by simp) k2;rw[BM]at b;simp only[cd,aQ]at b;simp only[az,aE,bF,Nat.reduceAdd]at M;have E:∃w,ev R U.EF (bb [.ptr o 0,.str t] 0) s=.code .ret w s3/\look w 4=some (iV t.length)/\look w 5=some .fQ:=by generalize P:ev R U.EF (bb [.ptr o 0,.str t] 0) s=r;simp[U.EF,Y,M,h2,h3]at P;subst P;exact⟨_,rfl,by simp⟩
 obtain⟨w,E,h4,h5⟩:=E;refine⟨c,s3,u,X0 rfl ⟨.ret,_,s3,E,.inr rfl,by simp[h4,h5]⟩,b,⟨?_,.inr rfl,by rw[O];exact tv⟩⟩;rw[O,tf o (by rw[Z];exact C),J];exact A.ty
def agJ{a i:Nat}{o:Ky}{p v:HV}{l:ay}(J:aG s av L K)(w:K[a]?=some (o,[p,v]))(M:L[i]?=some (v,1,l.map uC))(z:nJ s o p v)(b:Nat)(Y:l.length+1<=140737488355328):
  ∃k s' q,R (.call 103 [.ptr o 0,.int .u8 b] s)=.val .fQ s'/\aG s' q (L.set i (k,1,(l++[b]).map uC)) (K.set a (o,[.ptr o 0,k]))/\nJ s' o (.ptr o 0) k:=by
 obtain⟨Z,h1,c,O,n1⟩:=Ts J w z;have A:=(aS.1 w).1;have B:=(J.bD a o _ w).1.2.2;have t:(K.set a (o,[.ptr o 0,v]))[a]?=some (o,[.ptr o 0,v]):=by rw[gn A]
 have P:=(c.bD a o _ t).1.1;obtain⟨k,s2,u,h2,k2,C,tv,tf,n2⟩:=c.Y1 i M (new:=[uC b]) (Sz.cons rfl Sz.nil) (by simp) (bw:=140737488355328) (by simpa using Y) 5 (by rw[O];exact z.tv);have D:lS 1 140737488355328 (some 5) (some v) (some (.psl [[.int .u8 b]])) Z=.v k s2:=by rw[mr (sz:=1) (aq:=[[HV.int .u8 b]]) (c.mem.own i _ _ _ M).iz (by simp) (Sz.cons rfl Sz.nil)];exact h2
 obtain⟨s3,h3,d,V,n3⟩:=C.Ng t 1 (by simp) k2;rw[BM]at d;simp only[cd,aQ]at d;simp only[az,aE,bF,Nat.reduceAdd]at P;have E:∃I,ev R U.LS (bb [.ptr o 0,.int .u8 b] 0) s=.code .ret I s3/\look I 4=some .fQ:=by generalize X:ev R U.LS (bb [.ptr o 0,.int .u8 b] 0) s=r;simp[U.LS,h1,P,D,h3]at X;subst X;exact⟨_,rfl,by simp⟩
 obtain⟨I,E,h4⟩:=E;refine⟨k,s3,u,adS rfl ⟨.ret,_,s3,E,.inr rfl,by simp[h4]⟩,by rw[fB];exact d,⟨?_,.inr rfl,by rw[V];exact tv⟩⟩;rw[V,tf o (by rw[n1];exact B),O];exact z.ty
end
def Y8(k:IntKind)(v:bO)(s:HS):cR:=bN v (λv=>v.asInt (λ_ n=>.v (.int k (bQ k n)) s) .bad) .bad
@[simp]def aaY{e:En}{s:HS}{k:IntKind}{x:X}:cU (.cnv k x) e s=Y8 k (bp x e) s:=rfl
@[simp]def Y9{s:HS}{k b:IntKind}{n:Int}:Y8 k (some (.int b n)) s=.v (.int k (bQ k n)) s:=rfl
def mH:∀l:aY,(eW l).length<=27*l.length
 |[]=>by simp[eW]
 |a::l=>by
  have c:=mH l;have d:=yd a;have b:(eW (a::l)).length=1+(itoa a).length+(eW l).length:=by show(32::itoa a++eW l).length=_;simp;omega
  rw[b,az];omega
def Fh(l:aY)(a:Int):eW (l++[a])=eW l++32::itoa a:=by simp[eW]
def Ki(l:aY):∀n∈eW l,n<256:=by
 intro n b;obtain⟨a,_,b⟩:=qT.1 b;rcases bk.1 b with rfl|b
 .omega
 cases a with
 |ofNat k=>have:=jn _ _ _ b;omega
 |negSucc k=>
  rcases bk.1 b with rfl|b
  .omega
  have:=jn _ _ _ b;omega
def Nh(x:Fa)(cls:aY)(p:Nat):∀n∈eR x cls p,n<256:=by
 intro n c;unfold eR at c;rw[j9]at c;rcases cP.1 c with c|c
 .exact(show∀b,∀n∈rY b,n<256 by intro b;cases b<;>decide) _ n c
 exact Ki _ n c
section
variable{s:HS}{av:aZ}{L:cE}{K:dv}
def aG.Kj(h:aG s av L K){sz:Nat}{t:aO}(d:Sz sz t):∃b,aG {h:=ax (some (.cells (cM (aB t)) 0 (aB t).length s.nx)) s.nx s.h,nx:=s.nx.succ,gr:=ax (some [s.nx]) s.nx s.gr,ty:=s.ty} b (L++[(.sl s.nx 0 t.length sz,sz,t)]) K:=by
 have q:=Ky.aV s.nx;refine h.join (cX.alloc _ _) (F:=λk=>k=s.nx) ⟨d,λk c=>by subst c;simp only;omega,.inr ⟨s.nx,cM (aB t),(aB t).length,s.nx,[],rfl,?_,by rw[cI d];exact aW _,by simp,?_,by simp,by simp,rfl⟩⟩ (λk c=>by subst c;exact aW _)
 .simp only;rw[af,ar rfl]
 simp only;rw[af,ar rfl]
def aG.Gr{k:Ky×List HV}(h:aG s av L (k::K)):aG s av L K:=
 ⟨h.mem,λa o c q=>h.bD (a+1) o c q,λa b o c d q r=>by have:=h.nd (a+1) (b+1) o c d q r;omega⟩
def aG.pop{x:xI}(h:aG s av (L++[x]) K):∃d,aG s d L K:=by
 classical
 refine⟨λk=>if av k=some L.length then none else av k,⟨λk i b=>?_,λk i b=>?_,λi v sz aq t=>?_⟩,λa o c u=>⟨(h.bD a o c u).1,by rw[(h.bD a o c u).2];simp⟩,h.nd⟩
 .split at b
  .cases b
  exact h.mem.bd k i b
 .split at b
  .cases b
  rename_i q;have:=h.mem.top k i b;simp at this;have:i≠L.length:=λe=>q (by rw[b,e])
  omega
 have r:=(aS.1 t).1;have w:=h.mem.own i v sz aq (by rw[ea r];exact t);have:(λk=>(if av k=some L.length then none else av k)=some i)=λk=>av k=some i:=by
  funext k
  by_cases b:av k=some L.length
  .rw[ar b,b];simp;omega
  rw[au b]
 rw[this];exact w
def agK{a i:Nat}{o:Ky}{p v:HV}{l:ay}(q:aG s av L K)(w:K[a]?=some (o,[p,v]))(z:L[i]?=some (v,1,l.map uC))(A:nJ s o p v)(h0:l≠ [])(B:l.length<=4611686018427387904)(C:∀n∈l,n<256):
  ∃s',R (.call 104 [.ptr o 0] s)=.val (.str l) s':=by
 have D:=(q.bD a o _ w).1.1;have k:=q.mem.own i _ _ _ z;obtain⟨r,rfl⟩:=k.gw (by intro h;exact h0 (Fe.1 h));obtain⟨m,E⟩:=A.tv _ _ _ _ rfl;have b:=k.cells.2;rcases k.2.2 with⟨h,_⟩|⟨O,t,I,g,c,J,u,P,V,M,_⟩
 .cases h
 cases J;refine⟨{h:=fh s.h (r::c),nx:=s.nx,gr:=s.gr,ty:=s.ty},dr ?_ trivial⟩;show lN LU [.ptr o 0] s=_;unfold lN;have d:s.load o 1 none=some (.sl r 0 (l.map uC).length 1):=by show s.cell o 1=_;rw[Ba,D];simp
 have hlen:0<l.length:=xK.2 h0;rw[bG]at d b;rw[iu,vm,u]at b;simp only[d,E,ib,b,ye l C,u,M];rw[show Nat.beq 5 LU.H9=true from rfl,ch.2 hlen,show Nat.ble l.length 4611686018427387904=true from zc B];rfl
end
def Za{rZ:aY}(h5:rZ.length=5)(O:∀n∈rZ,fX n){l:ay}(hl:l.length<=1000000){e:En}{s:HS}{o:Out}{b o9 o47:Ky}{A:aj}{pp v v1 v2 v3 v23 v24 v25:HV}{av:aZ}
  (c:bH e [(1,v1),(2,v2),(3,v3),(7,.ptr b 0),(23,v23),(24,v24),(25,v25),(47,.sl o47 0 5 1),(48,iV 5),(49,iV 0)])
  (d:aG s av [(v,1,l.map uC),(.sl o47 0 5 1,1,rZ.map iC)] [(o9,A),(b,[pp,v])])(q:nJ s b pp v)(P:bJ R (.loop U.wU) e s=o):
  ∃(e':En) (s':HS) (av:aZ) (pp v:HV),o=.code (.exit 2) e' s'/\bH e' [(1,v1),(2,v2),(3,v3),(7,.ptr b 0),(23,v23),(24,v24),(25,v25)]/\
   aG s' av [(v,1,(l++eW rZ).map uC),(.sl o47 0 5 1,1,rZ.map iC)] [(o9,A),(b,[pp,v])]/\nJ s' b pp v:=by
 refine ba P 5
  (λj e s=>∃(av:aZ) (pp v:HV),bH e [(1,v1),(2,v2),(3,v3),(7,.ptr b 0),(23,v23),(24,v24),(25,v25),(47,.sl o47 0 5 1),(48,iV 5),(49,iV j)]/\
   aG s av [(v,1,(l++eW (rZ.take j)).map uC),(.sl o47 0 5 1,1,rZ.map iC)] [(o9,A),(b,[pp,v])]/\nJ s b pp v)
  (λo=>∃(e':En) (s':HS) (av:aZ) (pp v:HV),o=.code (.exit 2) e' s'/\bH e' [(1,v1),(2,v2),(3,v3),(7,.ptr b 0),(23,v23),(24,v24),(25,v25)]/\
   aG s' av [(v,1,(l++eW rZ).map uC),(.sl o47 0 5 1,1,rZ.map iC)] [(o9,A),(b,[pp,v])]/\nJ s' b pp v)
  0 (by omega) ⟨av,pp,v,c,by simpa[eW]using d,q⟩
  (λj e s r M ⟨av,pp,v,c,d,q⟩ t=>by
   have B:(j:Int)<5:=by omega
   have k:j<rZ.length:=by omega
   have C:=aR k;have V:=d.mem.own 1 _ _ _ rfl;have X:=vh V C;have Y:=O _ (cp k);have u:=Y6 _ Y;have D:=mH (rZ.take j);have Z:=yd rZ[j];rw[oA]at D;obtain⟨va,s1,c1,E,w,I⟩:=agJ (a:=1) (i:=0) d rfl rfl q 32 (by rw[cA];omega);simp only[aQ,cd]at w;have E:R (.call 103 [.ptr b 0,.int .u8 32] s)=.val .fQ s1:=E;obtain⟨vb,s2,c2,h2,z,J⟩:=Y7 (a:=1) (i:=0) w rfl rfl I (itoa rZ[j]) (by simp only[cA,az,aE];omega);simp only[aQ,cd]at z;have hw:=bo (n:=5) M (by omega);simp only[ab,ae]at c;simp[U.wU,c,M,B,X,E,u,h2,hw]at t;subst t;refine .inl ⟨_,_,rfl,c2,_,vb,by simp[c],?_,J⟩;rw[fC k,Fh];simpa using z)
  (λe s r ⟨av,pp,v,c,d,q⟩ t=>by
   simp only[ab,ae]at c;simp[U.wU,c]at t;subst t;rw[iH (by omega)]at d;exact⟨by simp,_,_,av,pp,v,rfl,by simp[c],d,q⟩)
def Zb{x:Fa}(hx:cf x)(hs:Ff x){cls:aY}(hj:cls.length=x.nx.length)(h1:∀c∈cls,fX c){p:Nat}(Y:p<x.nx.length){e:En}{s:HS}{o:Out}{b:Ky}{pp v:HV}{av:aZ}
  (u:bH e [(1,iV p),(2,.psl (cls.map iC)),(3,.aw x.c),(7,.ptr b 0),(23,.psl (x.nx[p].map Eg.c)),(24,iV x.nx[p].length),(25,iV 0)])
  (J:aG s av [(v,1,(rY (x.fi.getD p false)).map uC)] [(b,[pp,v])])(A:nJ s b pp v)(Z:bJ R (.loop U.wV) e s=o):
  ∃(e':En) (s':HS) (av:aZ) (pp v:HV),o=.code (.exit 0) e' s'/\bH e' [(7,.ptr b 0)]/\
   aG s' av [(v,1,(eR x cls p).map uC)] [(b,[pp,v])]/\nJ s' b pp v:=by
 have hl:=hx.row Y;have hq:(rY (x.fi.getD p false)).length<=5:=by cases x.fi.getD p false<;>decide
 have hlen:∀k,k<=x.nx[p].length->((x.nx[p].take k).flatMap (eI cls)).length=5*k:=by
  intro k
  induction k with|zero=>intro _;simp|succ k ih=>intro M;rw[fC (show k<x.nx[p].length by omega),tb,cA,ih (by omega)];simp[eI];omega
 refine ba Z x.nx[p].length
  (λk e s=>∃(av:aZ) (pp v:HV),bH e [(1,iV p),(2,.psl (cls.map iC)),(3,.aw x.c),(7,.ptr b 0),(23,.psl (x.nx[p].map Eg.c)),(24,iV x.nx[p].length),(25,iV k)]/\
   aG s av [(v,1,(rY (x.fi.getD p false)++eW ((x.nx[p].take k).flatMap (eI cls))).map uC)] [(b,[pp,v])]/\nJ s b pp v)
  (λo=>∃(e':En) (s':HS) (av:aZ) (pp v:HV),o=.code (.exit 0) e' s'/\bH e' [(7,.ptr b 0)]/\
   aG s' av [(v,1,(eR x cls p).map uC)] [(b,[pp,v])]/\nJ s' b pp v)
  0 (by omega) ⟨av,pp,v,u,by simpa[eW]using J,A⟩
  (λk e s r M ⟨av,pp,v,u,J,A⟩ B=>by
   have h2:(k:Int)<x.nx[p].length:=by omega
   have h3:=aR M;have ht:=hx.to _ (cp Y) _ (cp M);obtain⟨q1,q2,q3,q4⟩:=hs _ (cp Y) _ (cp M);have h4:(x.nx[p].map Eg.c)[k]?=some (x.nx[p][k]).c:=by rw[fR,h3];rfl
   generalize he:x.nx[p][k]=ed at*;have h5:=mH ((x.nx[p].take k).flatMap (eI cls));rw[hlen k (by omega)]at h5;have d:ed.to<cls.length:=by omega
   have hg:(ed.to:Int)<cls.length:=by omega
   have hy:=aR d;have h6:bQ .i64 ed.m.kind=ed.m.kind:=bT (by omega) (by omega);have C:=J.ds ed.c;have D:=(C.bD 0 _ _ rfl).1.1;have w:nJ {h:=ax (some (.cells (cM ed.c) 0 ed.c.length s.nx)) s.nx s.h,nx:=s.nx.succ,gr:=ax (some [s.nx]) s.nx s.gr,ty:=s.ty} b pp v:=⟨A.ty,A.pp,A.tv⟩;generalize O:HS.mk _ _ _ _=z at C D w;obtain⟨c2,q⟩:=C.Kj (sz:=1) (t:=(eI cls ed).map iC) (Sz.map (f:=iC) (λ_=>rfl) _);have E:=(q.bD 0 _ _ rfl).1.1;have h7:aB ((eI cls ed).map iC)=[iV ed.m.id,iV ed.m.arg,iV ed.m.kind,iV ed.m.n,iV cls[ed.to]]:=by simp only[eI,cx,mZ,cV,ml,getD_at d];rfl
   rw[h7]at q E;have P:nJ {h:=ax (some (.cells (cM [iV ed.m.id,iV ed.m.arg,iV ed.m.kind,iV ed.m.n,iV cls[ed.to]]) 0 [iV ed.m.id,iV ed.m.arg,iV ed.m.kind,iV ed.m.n,iV cls[ed.to]].length z.nx)) z.nx z.h,nx:=z.nx.succ,gr:=ax (some [z.nx]) z.nx z.gr,ty:=z.ty} b pp v:=⟨w.ty,w.pp,w.tv⟩;generalize V:HS.mk _ _ _ _=S2 at q E P;simp only[bx,bA]at q;simp only[Eg.c,az,aE,bF,Nat.reduceAdd,iV]at D E O V h4;simp only[ab,ae]at u;simp[U.wV,u,M,h2,he,O,D,ai,an,d,h6,V]at B;generalize Z:bJ R (.loop U.wU) _ _=o at B;have h8:∀n∈eI cls ed,fX n:=by
    have X:fX ed.m.kind:=by unfold fX;omega
    intro n hn;simp only[eI,bk,BI,BJ,getD_at d]at hn;rcases hn with rfl|rfl|rfl|rfl|rfl
    .exact q1
    .exact q2
    .exact X
    .exact q4
    exact h1 _ (cp d)
   obtain⟨e2,s3,c3,h9,v3,rfl,I,ha,hb⟩:=Za (rZ:=eI cls ed) rfl h8 (l:=rY (x.fi.getD p false)++eW ((x.nx[p].take k).flatMap (eI cls))) (o9:=s.nx) (o47:=z.nx) (v1:=iV p) (v2:=.psl (cls.map iC)) (v3:=.aw x.c) (v23:=.psl (x.nx[p].map Eg.c)) (v24:=iV x.nx[p].length) (v25:=iV k) (by rw[cA];omega) (by simp[u]) (by simpa[eI]using q) P Z;clear Z;have hw:=bo (n:=6000) (show k<6000 by omega) (by omega);simp only[ab,ae]at I;simp[I,hw]at B;subst B;obtain⟨c4,hd⟩:=aG.pop (L:=[(v3,1,_)]) ha;refine .inl ⟨_,_,rfl,c4,h9,v3,by simp[I],?_,hb⟩;have hf:=hd.Gr;rw[fC M,tb,he];simpa[eW,tb]using hf)
  (λe s r ⟨av,pp,v,u,J,A⟩ B=>by
   simp only[ab,ae]at u;simp[U.wV,u]at B;subst B;refine⟨by simp,_,_,av,pp,v,rfl,by simp[u],?_,A⟩;unfold eR;rw[j9,getD_at Y];rw[my]at J;exact J)
def Zc{x:Fa}(w:cf x)(V:Ff x){cls:aY}(z:cls.length=x.nx.length)(A:∀c∈cls,fX c){p:Nat}(u:p<x.nx.length)(s:HS):R (.call 191 [.agg x.c,iV p,.psl (cls.map iC)] s)=.val (.str (eR x cls p)) s:=by
 refine ae9 ?_;have X:=w.nf;have Y:(p:Int)<x.nx.length:=by omega
 have d:p<x.fi.length:=by omega
 have J:(p:Int)<x.fi.length:=by omega
 have k:=agI (x.fi[p]);have h0:aG s0 (λ_=>none) [] []:=⟨dR.start (by simp),by simp,by simp⟩;have q:=(((h0.ds [.dO,.ah]).ty (ax (some (188,2)) s0.nx s0.ty)).push 1);have B:nJ (HS.mk (ax (some (.cells (cM [.dO,.ah]) 0 2 s0.nx)) s0.nx s0.h) s0.nx.succ (ax (some [s0.nx]) s0.nx s0.gr) (ax (some (188,2)) s0.nx s0.ty)) s0.nx .dO .ah:=⟨by simp only;rw[af,ar rfl],.inl rfl,λo a b c h=>by cases h⟩;simp only[bA,az,aE,bF,Nat.reduceAdd]at q;obtain⟨Z,s1,c1,M,r,C⟩:=Y7 (a:=0) (i:=0) (l:=[]) q rfl rfl B (rY x.fi[p]) (by cases x.fi[p]<;>decide);simp only[aQ,bA]at r;simp[U.WN,u,d,k,M];generalize O:bJ R (.loop U.wV) _ _=o;obtain⟨e2,s2,c2,pp,v,rfl,P,D,E⟩:=Zb w V z A u (pp:=.ptr s0.nx 0) (v:=Z) (by simp) (by rw[getD_at d];exact r) C O;clear O;have I:eR x cls p≠ []:=by unfold eR;cases x.fi.getD p false<;>simp[rY]
 have hlen:(eR x cls p).length<=4611686018427387904:=by
  have h4:=w.row u;unfold eR;rw[j9,getD_at u,cA];have M:=mH (x.nx[p].flatMap (eI cls));have h2:(x.nx[p].flatMap (eI cls)).length=5*x.nx[p].length:=by
   generalize x.nx[p]=l
   induction l with|nil=>rfl|cons a l ih=>rw[mB,cA,ih];simp[eI];omega
  have h3:(rY (x.fi.getD p false)).length<=5:=by cases x.fi.getD p false<;>decide
  omega
 obtain⟨s3,t⟩:=agK (a:=0) (i:=0) D rfl rfl E I hlen (Nh x cls p);simp only[ab,ae]at P;simp[P,t,aa]
def kY{α:Type}(f:α->HV):List α->Nat->List (HV×HV)
 |[],_=>[]
 |k::r,i=>(f k,iV i)::kY f r (i+1)
def Dq{α:Type}(f:α->HV)(k:α):∀(l:List α) (i:Nat),kY f (l++[k]) i=kY f l i++[(f k,iV (i+l.length:Nat))]
 |[],i=>by simp[kY]
 |x::r,i=>by have h:=Dq f k r (i+1);simp only[bx,kY,az];rw[h,show i+1+r.length=i+(r.length+1) by omega]
def Gs{α:Type}(f:α->HV):∀(l:List α) (i:Nat),(kY f l i).length=l.length
 |[],_=>rfl
 |k::r,i=>by simp[kY,Gs f r]
abbrev KS:Kd:=⟨false,[2]⟩
def Gt(a b:ay):ql KS (.str a) (.str b)=some (decide (a=b)):=by show some (pY a b)=_;rw[rG]
section
variable{α:Type}[DecidableEq α][BEq α][LawfulBEq α]{f:α->HV}{K:Kd}
def Kk(c:∀a b,ql K (f a) (f b)=some (decide (a=b)))(t:α):∀(l:List α) (i n:Nat),∃m,dM K (kY f l i) (f t) n=some (m,if t∈l then some (iV (i+l.idxOf t:Nat))else none)
 |[],i,n=>⟨n,by simp[kY,dM]⟩
 |x::r,i,n=>by
  rw[kY,dM,c];by_cases h:t=x
  .subst h;exact⟨n,by simp⟩
  rw[ef h];obtain⟨m,k⟩:=Kk c t r (i+1) (n+1);refine⟨m,?_⟩;simp only[k,bk,h,false_or];have d:(x==t)=false:=by simpa using λe=>h e.symm
  rw[List.idxOf_cons,d,cond_false]
  split
  .rw[show i+1+r.idxOf t=i+(r.idxOf t+1) by omega]
  rfl
variable{s:HS}{o:Ky}{l:List α}
def lkK(c:∀a b,ql K (f a) (f b)=some (decide (a=b)))(d:∀a,p9 K (f a)=true)(h:ak s.h o=some (.mp (kY f l 0)))(t:α):
  Yn K (some (.mp o)) (some (f t)) (iV 0) true s=.v (.bM [iV (if t∈l then(l.idxOf t:Nat)else 0:Nat),.bool (decide (t∈l))]) s:=by
 obtain⟨m,k⟩:=Kk c t l 0 0;show(bif p9 K (f t)then(match ak s.h o with
   |some (.mp es)=>(match dM K es (f t) 0 with
    |some (_,some v)=>cR.v (.bM [v,.bool true]) s
    |some (_,none)=>.v (.bM [iV 0,.bool false]) s
    |none=>.bad)
   |_=>.bad)else .bad)=_
 rw[d,h];simp only[k,cond_true];by_cases q:t∈l<;>simp[q]
def muK(c:∀a b,ql K (f a) (f b)=some (decide (a=b)))(d:∀a,p9 K (f a)=true)(h:ak s.h o=some (.mp (kY f l 0))){t:α}(k:t ∉ l):
  SK K (some (.mp o)) (some (f t)) (some (iV l.length)) s=.v .undef (s.aK o (.mp (kY f (l++[t]) 0))):=by
 obtain⟨m,q⟩:=Kk c t l 0 0;show(bif p9 K (f t)then(match ak s.h o with
   |some (.mp es)=>(match dM K es (f t) 0 with
    |some (i,some _)=>cR.v .undef (s.aK o (.mp (lL es i (iV l.length))))
    |some (_,none)=>.v .undef (s.aK o (.mp (es++[(f t,iV l.length)])))
    |none=>.bad)
   |_=>.bad)else .bad)=_
 rw[d,h];simp only[q,cond_true,k,bn];rw[Dq,bF]
def Zd(h:ak s.h o=some (.mp (kY f l 0))):xh 2 (some (.mp o)) s=.v (iV l.length) s:=by show bN (match ak s.h o with|some (.mp es)=>some (aM es)|_=>none) (λn=>cR.v (.int .i64 (.ofNat n)) s) .bad=_;rw[h];simp only[dG,cH,Gs];rfl
end
structure dF(s:HS)(av:aZ)(L:cE)(K:dv)(o:Ky)(es:List (HV×HV)):Prop where
 k:aG s av L K
 mp:ak s.h o=some (.mp es)
 lt:o.toNat<s.nx.toNat
 co:av o=none
section
variable{s:HS}{av:aZ}{L:cE}{K:dv}{o:Ky}{es:List (HV×HV)}
def dF.append(h:dF s av L K o es)(i:Nat){v:HV}{sz:Nat}{aq:aO}(w:L[i]?=some (v,sz,aq)){new:aO}(z:Sz sz new)(h0:new≠ []){bw:Nat}(A:aq.length+new.length<=bw):
  ∃b s' d,lS sz bw none (some v) (some (.psl new)) s=.v b s'/\cellsOf b=some [b]/\dF s' d (L.set i (b,sz,aq++new)) K o es:=by
 obtain⟨b,s',B,C,D,q⟩:=h.k.mem.vi i w z h0 A;have r:=h.lt;refine⟨b,s',_,B,C,⟨D,λa p c E=>?_,h.k.nd⟩,?_,dZ h.lt q.1,by rw[au λe=>by subst e;omega];exact h.co⟩
 .obtain⟨t,u⟩:=h.k.bD a p c E;have r:=t.2.2;exact⟨t.frame q (by rw[u];simp),by rw[au λe=>by subst e;omega];exact u⟩
 rw[q.2.2.1 o h.lt (by show¬av o=some i;rw[h.co];simp)];exact h.mp
def dF.iY(h:dF s av L K o es)(i:Nat){v:HV}{aq:aO}(q:L[i]?=some (v,1,aq))(j:Nat)(r:j<aq.length){x:HV}(t:cellsOf x=some [x]):
  ∃b s',EN (some v) (some (.int .i64 (j:Int))) 1 s=.v (.ptr b (j*1)) s/\pR 1 (some (.ptr b (j*1))) (some x) s=.v .undef s'/\dF s' av (L.set i (v,1,aq.set j [x])) K o es:=by
 obtain⟨b,s',u,w,E,B,C⟩:=(h.k.mem.own i v 1 aq q).iY j r x t;obtain⟨c,d,z,A,D⟩:=h.k.iY i q j r t;rw[u]at z;obtain rfl:b=c:=by cases z;rfl
 rw[w]at A;obtain rfl:s'=d:=by cases A;rfl
 exact⟨b,s',u,w,D,by rw[B.2.2.1 o h.lt (by show¬av o=some i;rw[h.co];simp)];exact h.mp,by rw[C];exact h.lt,h.co⟩
def dF.ne(h:dF s av L K o es){a:Nat}{p:Ky}{c:aj}(b:K[a]?=some (p,c)):o≠p:=by intro e;subst e;have:=(h.k.bD a o c b).1.1;rw[h.mp]at this;cases this
def dF.xV(h:dF s av L K o es){a:Nat}{p:Ky}{c:aj}(b:K[a]?=some (p,c))(k:Nat)(q:k<c.length){x:HV}(r:cellsOf x=some [x]):∃s',pR 1 (some (.ptr p k)) (some x) s=.v .undef s'/\dF s' av L (K.set a (p,c.set k x)) o es:=by obtain⟨s',t,u,d,w⟩:=(h.k.bD a p c b).1.set k q x r;exact⟨s',t,h.k.cell b u d,by rw[d.2.2.1 o h.lt (h.ne b)];exact h.mp,by rw[w];exact h.lt,h.co⟩
def dF.ds(h:dF s av L K o es)(c:aj):dF {h:=ax (some (.cells (cM c) 0 c.length s.nx)) s.nx s.h,nx:=s.nx.succ,gr:=ax (some [s.nx]) s.nx s.gr,ty:=s.ty} av L ((s.nx,c)::K) o es:=by have b:=Ky.aV s.nx;have:=h.lt;refine⟨h.k.ds c,?_,by simp only;omega,h.co⟩;simp only;rw[af,au λe=>by subst e;omega];exact h.mp
def dF.put(h:dF s av L K o es)(b:List (HV×HV)):dF (s.aK o (.mp b)) av L K o b:=by have q:cX (λk=>k=o) s (s.aK o (.mp b)):=cX.aK rfl;refine⟨⟨⟨λk i d=>dZ (h.k.mem.bd k i d) q.1,h.k.mem.top,λi v sz aq t=>(h.k.mem.own i v sz aq t).frame q (λk d e=>?_)⟩,λa p c r=>⟨(h.k.bD a p c r).1.frame q (λe=>h.ne r e.symm),(h.k.bD a p c r).2⟩,h.k.nd⟩,by rw[dJ,ar rfl],dZ h.lt q.1,h.co⟩;have d:av k=some i:=d;subst e;rw[h.co]at d;cases d
def aG.mkm(h:aG s av L K):dF {h:=ax (some (.mp [])) s.nx s.h,nx:=s.nx.succ,gr:=s.gr,ty:=s.ty} av L K s.nx []:=by have b:=Ky.aV s.nx;have c:cX (λ_=>False) s {h:=ax (some (.mp [])) s.nx s.h,nx:=s.nx.succ,gr:=s.gr,ty:=s.ty}:=⟨by simp only;omega,rfl,λp d _=>by simp only;rw[af,au λe=>by subst e;omega],λp d _=>rfl⟩;refine⟨h.frame c,by simp only;rw[af,ar rfl],by simp only;omega,?_⟩;cases k:av s.nx with|none=>rfl|some i=>have:=h.mem.bd _ _ k;omega
def dF.tail{k:Ky×List HV}(h:dF s av L (k::K) o es):dF s av L K o es:=⟨h.k.Gr,h.mp,h.lt,h.co⟩
end
def B1(ss:eh)(t:ay):eh:=if t∈ss then ss else ss++[t]
def Ze{s:HS}{o:Ky}{ss:eh}(k:ak s.h o=some (.mp (kY HV.str ss 0)))(C:ss.length<=1000000)(t:ay):
  ∃s',R (.call 190 [.mp o,.str t] s)=.val (iV (ss.idxOf t)) s'/\s'=if t∈ss then s else s.aK o (.mp (kY HV.str (B1 ss t) 0)):=by
 have c:=lkK (K:=KS) Gt (λ_=>rfl) k t;have q:∃u s',ev R U.Jy (bb [.mp o,.str t] 0) s=.code .ret u s'/\look u 4=some (iV (ss.idxOf t))/\s'=if t∈ss then s else s.aK o (.mp (kY HV.str (B1 ss t) 0)):=by
  generalize d:ev R U.Jy (bb [.mp o,.str t] 0) s=r;by_cases b:t∈ss
  .simp only[b,bj,eO,iV]at c;simp[U.Jy,c]at d;subst d;exact⟨_,_,rfl,by simp[b]⟩
  have w:=muK (K:=KS) Gt (λ_=>rfl) k b;have z:=Zd k;simp only[b,bn,kJ,iV]at c;simp only[iV]at w z;simp[U.Jy,c,w,z]at d;subst d;refine⟨_,_,rfl,?_,by simp[b,B1]⟩;rw[Kl b];simp
 obtain⟨u,s',q,A,B⟩:=q;exact⟨s',ae8 rfl ⟨.ret,_,s',q,.inr rfl,by simp[A]⟩,B⟩
def Fi{n:Int}:cellsOf (iV n)=some [iV n]:=rfl
def Gu{s s':HS}{o:Ky}{k:Nat}{n:Int}(h:pR 1 (some (.ptr o k)) (some (iV n)) s=.v .undef s'):jX s (ak s.h o) o k [iV n]=some s':=by
 rw[iO,Fi]at h;simp only[dG,dx,bj,kR]at h;cases b:jX s (ak s.h o) o k [iV n]with
 |none=>rw[b]at h;cases h
 |some s2=>rw[b]at h;cases h;rfl
def pC{s:HS}{a b:ay}(h:a.length+b.length<=9223372036854775807):ny false .add (some (.str a)) (some (.str b)) s=.v (.str (a++b)) s:=by show rv s (gD (Nat.ble (Nat.add (aM a) (aM b)) 9223372036854775807) (some (.str (a++b))) none)=_;rw[cH,cH,show Nat.ble (Nat.add a.length b.length) 9223372036854775807=true from zc h];rfl
def Gv{α β γ:Type}{f:α->β}{g:α->γ}:∀{l l':List α},l.map f=l'.map f->(∀a∈l,∀b∈l',f a=f b->g a=g b)->l.map g=l'.map g
 |[],[],_,_=>rfl
 |[],b::l',h,_=>by cases h
 |a::l,[],h,_=>by cases h
 |a::l,b::l',h,c=>by
  rw[cx,cx]at h;injection h with d k
  rw[cx,cx,c a (by simp) b (by simp) d,Gv k λx q y r=>c x (by simp[q]) y (by simp[r])]
structure r6(x:Fa)(cls:aY)(P:aC):Prop where
 len:cls.length=x.nx.length
 sm:∀c∈cls,-1<=c/\c<=400
 eq:∀p q:Nat,P p->P q->cls.getD p 0=cls.getD q 0->x.fi.getD p false=x.fi.getD q false/\(x.nx.getD p []).map (λe=>(e.m,cls.getD e.to 0))=(x.nx.getD q []).map (λe=>(e.m,cls.getD e.to 0))
def tx(x:Fa)(b:aY)(p:Nat):ay:=itoa (b.getD p 0)++[32]++eR x b p
def Km{x:Fa}(t:Ff x){b:aY}(k:∀c∈b,fX c){p q:Nat}(h:tx x b p=tx x b q):b.getD p 0=b.getD q 0/\
  x.fi.getD p false=x.fi.getD q false/\(x.nx.getD p []).map (λe=>(e.m,b.getD e.to 0))=(x.nx.getD q []).map (λe=>(e.m,b.getD e.to 0)):=by
 have r:∀p,fX (b.getD p 0):=by intro p;rw[eD];cases h:b[p]?with|none=>unfold fX;simp|some c=>exact k c (cG h)
 unfold tx at h;rw[Bk,Bk]at h;obtain⟨u,d⟩:=vl (vk _) (vk _) (.inr ⟨_,rfl⟩) (.inr ⟨_,rfl⟩) h;have w:eR x b p=eR x b q:=by have d:32::eR x b p=32::eR x b q:=d;injection d
 exact⟨Dl (r p) (r q) u,Dp t k w⟩
structure K6(T:Nat->ay)(n i:Nat)(ss:eh)(fs:ay)(nt:aY):Prop where
 len:nt.length=n
 le:ss.length<=i
 fl:fs.length=ss.length
 fb:∀k,(h:k<fs.length)->fs[k]<i/\nt[fs[k]]?=some (k:Int)
 cl:∀j,j<i->∃k:Nat,nt[j]?=some (k:Int)/\ss[k]?=some (T j)
 sm:∀c∈nt,0<=c/\c<=n
def K6.step{T:Nat->ay}{n i:Nat}{ss:eh}{d:ay}{z:aY}(h:K6 T n i ss d z)(O:i<n):
  ∃C,K6 T n (i+1) (B1 ss (T i)) C (z.set i (ss.idxOf (T i):Nat)):=by
 have E:=h.len;have hle:=h.le;have I:ss.idxOf (T i)<=ss.length:=Tt;have u:∀c∈z.set i ((ss.idxOf (T i):Nat):Int),0<=c/\c<=n:=by
  intro c J;rcases xH J with q|q
  .exact h.sm c q
  omega
 have b:∀(v:Int) (k:Nat) (A:k<d.length),d[k]<i+1/\(z.set i v)[d[k]]?=some (k:Int):=by intro v k A;obtain⟨q,t⟩:=h.fb k A;exact⟨by omega,by rw[jd (by omega)];exact t⟩
 unfold B1;by_cases B:T i∈ss
 .rw[ar B];refine⟨d,by simp[E],by omega,h.fl,b _,λj M=>?_,u⟩;by_cases r:j=i
  .subst r;refine⟨_,gn (by omega),?_⟩;rw[aR (Tu B),Tv]
  obtain⟨k,q,t⟩:=h.cl j (by omega);exact⟨k,by rw[jd (by omega)];exact q,t⟩
 rw[au B];have hid:ss.idxOf (T i)=ss.length:=Kl B;refine⟨d++[i],by simp[E],by simp;omega,by simp[h.fl],λk A=>?_,λj M=>?_,u⟩
 .by_cases w:k<d.length
  .rw[Da w];exact b _ k w
  have D:k=d.length:=by simp at A;omega
  subst D;rw[Fj (aW _)];simp only[oz,List.getElem_cons_zero];exact⟨by omega,by rw[gn (by omega),hid,h.fl]⟩
 by_cases r:j=i
 .subst r;refine⟨_,gn (by omega),?_⟩;rw[hid,iG (aW _)];simp
 obtain⟨k,q,t⟩:=h.cl j (by omega);exact⟨k,by rw[jd (by omega)];exact q,by rw[ea (aS.1 t).1];exact t⟩
def K6.SQ{T:Nat->ay}{n:Nat}{ss:eh}{b:ay}{c:aY}(h:K6 T n n ss b c):Of n c b:=
 ⟨h.len,λj d=>by obtain⟨k,q,r⟩:=h.cl j d;exact⟨k,q,by rw[h.fl];exact(aS.1 r).1⟩,h.fb⟩
def K6.tx{T:Nat->ay}{n:Nat}{ss:eh}{q:ay}{b:aY}(h:K6 T n n ss q b){i j:Nat}(r:i<n)(t:j<n)(c:b[i]?=b[j]?):T i=T j:=by
 obtain⟨k,u,w⟩:=h.cl i r;obtain⟨z,A,d⟩:=h.cl j t;rw[u,A]at c;have:k=z:=by have:=lz c;omega
 subst this;rw[w]at d;exact lz d
section
variable{x:Fa}
def Zf(V:cf x)(hs:Ff x){b:aY}(X:b.length=x.nx.length)(D:∀c∈b,fX c){e:En}{s:HS}{o:Out}{o3 o5 o6:Ky}{v2 v4:HV}{av:aZ}
  (q:bH e [(1,.aw x.c),(2,v2),(3,.sl o3 0 x.nx.length 1),(4,v4),(5,.mp o5),(6,.sl o6 0 x.nx.length 1),(17,iV x.nx.length),(18,iV 0)])
  (u:dF s av [(.sl o3 0 x.nx.length 1,1,b.map iC),(.sl o6 0 x.nx.length 1,1,(List.replicate x.nx.length (0:Int)).map iC)] [] o5 [])(ho:bJ R (.loop U.wO) e s=o):
  ∃(e':En) (s':HS) (ss:eh) (w:ay) (d:aY),o=.code (.exit 2) e' s'/\bH e' [(1,.aw x.c),(2,v2),(4,v4),(5,.mp o5),(6,.sl o6 0 x.nx.length 1)]/\
   dF s' av [(.sl o3 0 x.nx.length 1,1,b.map iC),(.sl o6 0 x.nx.length 1,1,d.map iC)] [] o5 (kY HV.str ss 0)/\K6 (tx x b) x.nx.length x.nx.length ss w d:=by
 have hn:=V.n;refine ba ho x.nx.length
  (λi e s=>∃(ss:eh) (w:ay) (d:aY),bH e [(1,.aw x.c),(2,v2),(3,.sl o3 0 x.nx.length 1),(4,v4),(5,.mp o5),(6,.sl o6 0 x.nx.length 1),(17,iV x.nx.length),(18,iV i)]/\
   dF s av [(.sl o3 0 x.nx.length 1,1,b.map iC),(.sl o6 0 x.nx.length 1,1,d.map iC)] [] o5 (kY HV.str ss 0)/\K6 (tx x b) x.nx.length i ss w d)
  (λo=>∃(e':En) (s':HS) (ss:eh) (w:ay) (d:aY),o=.code (.exit 2) e' s'/\bH e' [(1,.aw x.c),(2,v2),(4,v4),(5,.mp o5),(6,.sl o6 0 x.nx.length 1)]/\
   dF s' av [(.sl o3 0 x.nx.length 1,1,b.map iC),(.sl o6 0 x.nx.length 1,1,d.map iC)] [] o5 (kY HV.str ss 0)/\K6 (tx x b) x.nx.length x.nx.length ss w d)
  0 (by omega) ⟨[],[],List.replicate x.nx.length 0,q,u,⟨by simp,by simp,rfl,λk h=>by simp at h,λj h=>by omega,λc hc=>by rw[zP hc];omega⟩⟩
  (λi e s r C ⟨ss,w,d,q,u,E⟩ I=>by
   have Y:(i:Int)<x.nx.length:=by omega
   have t:i<b.length:=by omega
   have hq:fX b[i]:=D _ (cp t);have J:=u.k.mem.own 0 _ _ _ rfl;have g1:=vh J (aR t);have z:=Y6 _ hq;have A:R (.call 191 [.agg x.c,iV i,.sl o3 0 x.nx.length 1] s)=.val (.str (eR x b i)) s:=by refine X4 (by simp[cj,bV]) (.cons (.data (by simp)) (.cons (.data (by simp)) (.cons ?_ .nil))) (by simp) rfl (λs=>Zc V hs X D C s);exact J.vw (n:=14) (jK _)
   have h8:(eR x b i).length<=1000000:=by
    have h9:=V.row C;unfold eR;rw[j9,getD_at C,cA];have h1:=mH (x.nx[i].flatMap (eI b));have h2:(x.nx[i].flatMap (eI b)).length=5*x.nx[i].length:=by
     generalize x.nx[i]=l
     induction l with|nil=>rfl|cons a l ih=>rw[mB,cA,ih];simp[eI];omega
    have h3:(rY (x.fi.getD i false)).length<=5:=by cases x.fi.getD i false<;>decide
    omega
   have ha:=yd b[i];have Z:∀s,ny false .add (some (.str (itoa b[i]))) (some (.str [32])) s=.v (.str (itoa b[i]++[32])) s:=λs=>pC (by simp;omega)
   have M:∀s,ny false .add (some (.str (itoa b[i]++[32]))) (some (.str (eR x b i))) s=.v (.str (itoa b[i]++[32]++eR x b i)) s:=λs=>pC (by simp;omega)
   have h4:itoa b[i]++[32]++eR x b i=tx x b i:=by unfold tx;rw[getD_at t]
   rw[h4]at M;obtain⟨s1,B,h5⟩:=Ze u.mp (by have:=E.le;omega) (tx x b i);have O:dF s1 av [(.sl o3 0 x.nx.length 1,1,b.map iC),(.sl o6 0 x.nx.length 1,1,d.map iC)] [] o5 (kY HV.str (B1 ss (tx x b i)) 0):=by
    rw[h5];by_cases ht:tx x b i∈ss
    .rw[ar ht,B1,ar ht];exact u
    rw[au ht];exact u.put _
   have g2:=vh (O.k.mem.own 0 _ _ _ rfl) (aR t);obtain⟨hb,s2,b1,b2,P⟩:=O.iY 1 rfl i (by simp[E.len];exact C) (x:=iV (ss.idxOf (tx x b i))) rfl;simp[C]at b1;obtain rfl:=b1;simp only[cd,aQ,iu]at P b2;have hw:=bo (n:=400) (show i<400 by omega) (by omega);have b3:=Gu b2;obtain⟨h6,h7⟩:=E.step C;simp only[ab,ae]at q;simp only[iV,Fa.c]at A;simp only[iV]at B b2 b3 g1 g2 z;simp[U.wO,q,C,Y,g1,z,A,Z,M,B,b3,hw]at I;subst I;refine .inl ⟨_,_,rfl,B1 ss (tx x b i),h6,_,by simp[q],?_,h7⟩;rw[mA];exact P)
  (λe s r ⟨ss,w,d,q,u,E⟩ I=>by
   simp only[ab,ae]at q;simp[U.wO,q]at I;subst I;exact⟨by simp,_,_,ss,w,d,rfl,by simp[q],u,E⟩)
end
section
variable{s:HS}{av:aZ}{L:cE}{K:dv}{o:Ky}{es:List (HV×HV)}
def dF.join{s':HS}(h:dF s av L K o es)(d:cX (λ_=>False) s s'){v:HV}{sz:Nat}{F:bU}{aq:aO}(u:ck s' v sz F aq)(q:∀k,F k->s.nx.toNat<=k.toNat):∃b,dF s' b (L++[(v,sz,aq)]) K o es:=by
 classical
 refine⟨λk=>if F k then some L.length else av k,⟨h.k.mem.join d u q,λa o c w=>?_,h.k.nd⟩,?_,dZ h.lt d.1,?_⟩
 .obtain⟨t,z⟩:=h.k.bD a o c w;refine⟨t.frame d (λh=>h),?_⟩;have:¬F o:=λr=>by have:=q o r;have:=t.2.2;omega
  simp only[this,bn];exact z
 .rw[d.2.2.1 o h.lt (λh=>h)];exact h.mp
 have:¬F o:=λr=>by have:=q o r;have:=h.lt;omega
 simp only[this,bn];exact h.co
end
def agL(x:Fa)(P:cf x)(hs:Ff x):∃cls,(r6 x cls λp=>p<x.nx.length)/\fL U.f200 R [.agg x.c]=true/\∀s,R (.call 174 [.agg x.c] s)=.val (.psl (cls.map iC)) s:=by
 have hn:=P.n;have V:=P.pos;generalize w:bJ R U.RH (bb [.agg x.c] 0) s0=r
 suffices h:∃cls,(r6 x cls λp=>p<x.nx.length)/\n5 [.tmp 2] r=some (.psl (cls.map iC))/\Tl [.tmp 2] r=true by obtain⟨cls,B,h,hf⟩:=h;rw[<-w]at h hf;exact⟨cls,B,by rw[pz];exact hf,λs=>aeR h⟩
 have h0:aG s0 (λ_=>none) [] []:=⟨dR.start (by simp),by simp,by simp⟩;obtain⟨s1,m1,ht,hy⟩:=lH (s:=s0) (n:=x.nx.length) (bw:=17592186044416) (by omega) (.int .i64 0);obtain⟨c1,E⟩:=h0.join hy ht (λk hk=>by subst hk;exact aW _);have hz:List.replicate x.nx.length [HV.int .i64 0]=(List.replicate x.nx.length (0:Int)).map iC:=by simp
 simp only[bA]at E;rw[hz]at E;simp[U.RH,m1]at w;generalize ho:bJ R (.loop U.EE) _ _=o at w;have hq:∃(O:En) (s':HS) (av:aZ) (o6:Ky) (d:aY),o=.code .ret O s'/\look O 2=some (.sl o6 0 x.nx.length 1)/\aG s' av [(.sl o6 0 x.nx.length 1,1,d.map iC)] []/\(r6 x d λp=>p<x.nx.length):=by
  refine ba ho (x.nx.length+1)
   (λi e s=>∃(av:aZ) (o3:Ky) (cl:aY) (many:Nat),bH e [(1,.aw x.c),(2,.ah),(3,.sl o3 0 x.nx.length 1),(4,iV many)]/\aG s av [(.sl o3 0 x.nx.length 1,1,cl.map iC)] []/\cl.length=x.nx.length/\(∀c∈cl,0<=c/\c<=x.nx.length)/\
    ((i=0/\many=0)∨(i<=many/\many<=x.nx.length/\∃fs,Of x.nx.length cl fs/\fs.length=many)))
   (λo=>∃(O:En) (s':HS) (av:aZ) (o6:Ky) (d:aY),o=.code .ret O s'/\look O 2=some (.sl o6 0 x.nx.length 1)/\aG s' av [(.sl o6 0 x.nx.length 1,1,d.map iC)] []/\(r6 x d λp=>p<x.nx.length))
   0 (by omega) ⟨c1,s0.nx,List.replicate x.nx.length 0,0,by simp,E,by simp,λc X=>by rw[zP X];omega,.inl ⟨rfl,rfl⟩⟩
   (λi e s r hi ⟨av,o3,cl,many,hL,hM,Y,Z,hI⟩ w=>by
    have I:∀c∈cl,fX c:=λc X=>by have:=Z c X;unfold fX;omega
    have h7:=hM.mkm;generalize k0:HS.mk _ _ _ _=S1 at h7;obtain⟨s2,m2,k1,k2⟩:=lH (s:=S1) (n:=x.nx.length) (bw:=17592186044416) (by omega) (.int .i64 0);obtain⟨c3,J⟩:=h7.join k2 k1 (λk hk=>by subst hk;exact aW _);simp only[bx,bA]at J;rw[hz]at J;simp only[ab,ae]at hL;simp[U.EE,hL,k0,m2]at w;generalize ho:bJ R (.loop U.wO) _ _=o at w;obtain⟨e4,s4,ss,fs,d,rfl,z,h8,t⟩:=Zf P hs Y I (o5:=s.nx) (o6:=S1.nx) (o3:=o3) (v2:=.ah) (v4:=iV many) (by simp[hL]) J ho;clear ho;have hlen:=Zd h8.mp;simp only[ab,ae]at z;obtain⟨c5,k3⟩:=dR.single (h8.k.mem.own 1 _ _ _ rfl);have h9:aG s4 c5 [(.sl S1.nx 0 x.nx.length 1,1,d.map iC)] []:=⟨k3,by simp,by simp⟩;have C:∀i j:Nat,i<x.nx.length->j<x.nx.length->d[i]?=d[j]?->cl[i]?=cl[j]?:=by intro i j hi hj he;have B:=(Km hs I (t.tx hi hj he)).1;rw[getD_at (by omega),getD_at (by omega)]at B;rw[aR (by omega),aR (by omega),B]
    have hg:1<=ss.length:=by obtain⟨k,_,A⟩:=t.cl 0 V;have:=(aS.1 A).1;omega
    by_cases hm:ss.length=many
    .have M:(ss.length:Int)=many:=by omega
     simp only[iV]at hlen;simp[z,hlen,M]at w;subst w;rcases hI with⟨_,h0⟩|⟨_,_,k4,hP,hd⟩
     .omega
     obtain⟨_,u⟩:=hP.Gg t.SQ C;have u:=u (by rw[t.fl,hm,hd]);refine .inr ⟨by simp,_,_,c5,S1.nx,d,rfl,by simp,h9,t.len,λc X=>by have:=t.sm c X;omega,λp q hp hq he=>?_⟩;have k5:d[p]?=d[q]?:=by have hl:=t.len;rw[getD_at (by omega),getD_at (by omega)]at he;rw[aR (by omega),aR (by omega),he]
     obtain⟨_,A,h3⟩:=Km hs I (t.tx hp hq k5);refine⟨A,Gv h3 λa ha b hb k6=>?_⟩;have k7:=jt P p a ha;have k8:=jt P q b hb;injection k6 with h4 h5
     rw[getD_at (by omega),getD_at (by omega)]at h5;have h6:=u a.to b.to k7 k8 (by rw[aR (by omega),aR (by omega),h5]);rw[h4,lG h6 0]
    have M:¬(ss.length:Int)=many:=by omega
    simp only[iV]at hlen;simp[z,hlen,M]at w;subst w;refine .inl ⟨_,_,rfl,c5,S1.nx,d,ss.length,by simp[z],h9,t.len,t.sm,.inr ⟨?_,t.le,fs,t.SQ,t.fl⟩⟩;rcases hI with⟨B,A⟩|⟨B,A,k4,hP,hd⟩
    .omega
    have:=(hP.Gg t.SQ C).1;have:=t.fl;omega)
   (λe s r ⟨av,o3,cl,many,hL,hM,Y,Z,hI⟩ w=>by
    exfalso;rcases hI with⟨B,_⟩|⟨B,A,_⟩
    .omega
    omega)
 obtain⟨O,s',av,o6,d,rfl,A,hM,hG⟩:=hq;have D:=hM.mem.own 0 _ _ _ rfl;have hv:=D.vw (n:=14) (jK _);simp at w;subst w;refine⟨d,hG,?_,rW (v:=.sl o6 0 x.nx.length 1) (s':=s') (by simp[A]) (pX D (Gp d))⟩;simp[A];exact aH hv
def Gw:∀(new a l:aj),new.length<=l.length->Ia (a++l) a.length new=a++new++l.drop new.length
 |[],a,l,_=>by simp
 |v::r,a,[],h=>by simp at h
 |v::r,a,b::l,h=>by
  rw[xC];have d:(a++b::l).set a.length v=(a++[v])++l:=by simp
  have c:=Gw r (a++[v]) l (by simpa using h);rw[d];rw[cA,dx]at c;rw[c];simp
def gJ.store{s:HS}{o:Ky}{l:aj}(h:gJ s o l)(k:Nat)(new:aj)(c:k+new.length<=l.length):∃s',s.store o k new=some s'/\gJ s' o (Ia l k new)/\cX (λp=>p=o) s s'/\s'.nx=s.nx:=by
 have hlen:(Ia l k new).length=l.length:=by
  clear h c
  induction new generalizing l k with|nil=>rfl|cons v r d=>rw[xC,d,jc]
 refine⟨{h:=ax (some (.cells (cM (Ia l k new)) 0 l.length o)) o s.h,nx:=s.nx,gr:=s.gr,ty:=s.ty},?_,⟨by simp only;rw[af,ar rfl,hlen],h.2.1,h.2.2⟩,⟨aW _,rfl,λp q b=>by simp only;rw[af,au b],λp q b=>rfl⟩,rfl⟩;rw[kR,h.1,ai (fm _) c,h.2.1,an c]
def Tw(sz:Nat)(x y:bO)(s:HS):cR:=match x,y with
    |some (.sl o c len d),some (.sl q k b _)=>
      bif !(Nat.beq sz d)then .bad else
      bif Nat.beq (bif Nat.ble len b then len else b) 0 then .v (.int .i64 0) s else
      (match s.bz q k ((bif Nat.ble len b then len else b)*sz)with
       |some l=>(match s.store o c l with|some s'=>.v (.int .i64 (.ofNat (bif Nat.ble len b then len else b))) s'|none=>.bad)
       |none=>.bad)
    |some (.sl o c len d),some (.psl aq)=>
      bif !(Nat.beq sz d)then .bad else
      bif Nat.beq (bif Nat.ble len (aM aq)then len else aM aq) 0 then .v (.int .i64 0) s else bif cZ sz aq then
      (match s.store o c (aB (gE (bif Nat.ble len (aM aq)then len else aM aq) aq))with|some s'=>.v (.int .i64 (.ofNat (bif Nat.ble len (aM aq)then len else aM aq))) s'|none=>.bad)else .bad
    |some (.sl ..),some .ah=>.v (.int .i64 0) s
    |some .ah,some .ah=>.v (.int .i64 0) s
    |some .ah,some (.sl ..)=>.v (.int .i64 0) s
    |some .ah,some (.psl _)=>.v (.int .i64 0) s
    |_,_=>.bad
@[simp]def aaZ{e:En}{s:HS}{sz:Nat}{x y:X}:cU (.cpy sz x y) e s=Tw sz (bp x e) (bp y e) s:=rfl
def Gx{s s':HS}{o o2:Ky}{bm b len tk c m:Nat}{l:aj}(t:m=min len tk)(h0:m≠0)(k:s.bz o2 b m=some l)(q:s.store o bm l=some s'):
    Tw 1 (some (.sl o bm len 1)) (some (.sl o2 b tk c)) s=.v (.int .i64 (m:Int)) s':=by
  have r:(bif Nat.ble len tk then len else tk)=m:=by
    rw[bZ];by_cases h:len<=tk
    . rw[ey h,cond_true];omega
    rw[ef h,cond_false];omega
  show(bif !(Nat.beq 1 1)then cR.bad else
      bif Nat.beq (bif Nat.ble len tk then len else tk) 0 then .v (.int .i64 0) s else
      (match s.bz o2 b ((bif Nat.ble len tk then len else tk)*1)with
       |some l=>(match s.store o bm l with|some s'=>.v (.int .i64 (.ofNat (bif Nat.ble len tk then len else tk))) s'|none=>.bad)
       |none=>.bad))=_
  have d:Nat.beq m 0=false:=by rw[cL,ef h0]
  rw[r,iu,d];simp only[k,q];rfl
section
variable{s:HS}{av:aZ}{L:cE}{K:dv}
def aG.toL{o:Ky}{c:aj}(h:aG s av L ((o,c)::K)):∃u,aG s u (L++[(.sl o 0 c.length 1,1,c.map λv=>[v])]) K:=by
 classical
 obtain⟨w,A⟩:=h.bD 0 o c rfl;have B:aB (c.map λv=>[v])=c:=by
  clear h w
  induction c with|nil=>rfl|cons v c E=>rw[cx,cV,E];rfl
 refine⟨λk=>if k=o then some L.length else av k,⟨λk i q=>?_,λk i q=>?_,λi v sz aq t=>?_⟩,λa p d z=>?_,λa b p d I z J=>by have:=h.nd (a+1) (b+1) p d I z J;omega⟩
 .split at q
  .rename_i r;subst r;exact w.2.2
  exact h.mem.bd k i q
 .rw[cA,dx]
  split at q
  .cases q;omega
  have:=h.mem.top k i q;omega
 .by_cases C:i<L.length
  .rw[ea C]at t;have:(λk=>(if k=o then some L.length else av k)=some i)=λk=>av k=some i:=by
    funext k
    by_cases q:k=o
    .subst q;rw[ar rfl,A];simp;omega
    rw[au q]
   rw[this];exact h.mem.own i v sz aq t
  have D:i=L.length:=by have:=(aS.1 t).1;simp at this;omega
  subst D;rw[iG (aW _)]at t;simp only[oz,xS,bL,lx]at t;obtain⟨rfl,rfl,rfl⟩:=t;refine⟨Sz.map (f:=λv=>[v]) (λ_=>rfl) _,λk q=>?_,.inr ⟨o,cM c,c.length,o,[],by simp,w.1,by simp,λj V=>?_,w.2.1,by simp,λm M=>?_,?_⟩⟩
  .have q:(if k=o then some L.length else av k)=some L.length:=q
   split at q
   .rename_i r;subst r;exact w.2.2
   exact h.mem.bd k _ q
  .rw[B,rH]
  .rw[dq.1 M];simp
  simp
 obtain⟨O,P⟩:=h.bD (a+1) p d z;refine⟨O,?_⟩;have:p≠o:=λe=>by subst e;have:=h.nd (a+1) 0 p d c z rfl;omega
 rw[au this];exact P
def Zg:∀n:Nat,n<=24->(bQ .u64 (n:Int)=n)/\∀s,R (.call 198 [.int .u64 1,.int .u64 (n:Int)] s)=.val (.bM [.int .u64 0,.int .u64 (n:Int)]) s:=by
 have key:∀n:Nat,run LU U.prog 30 (.call 198 [.int .u64 1,.int .u64 (n:Int)] s0)=.val (.bM [.int .u64 0,.int .u64 (n:Int)]) s0->∀s,R (.call 198 [.int .u64 1,.int .u64 (n:Int)] s)=.val (.bM [.int .u64 0,.int .u64 (n:Int)]) s:=by
  intro n h s;have k:R (.call 198 [.int .u64 1,.int .u64 (n:Int)] s0)=.val (.bM [.int .u64 0,.int .u64 (n:Int)]) s0:=by
   have q:Good (run LU U.prog 30 (.call 198 [.int .u64 1,.int .u64 (n:Int)] s0)):=by rw[h];trivial
   rw[<-h];exact A6 q
  have r:=kS k trivial;have c:se LU 198 [.int .u64 1,.int .u64 (n:Int)] s0 (bu U.prog (dQ LU U.prog) 198 [.int .u64 1,.int .u64 (n:Int)] s0)=.val (.bM [.int .u64 0,.int .u64 (n:Int)]) s0:=r;rw[eT (by rfl)]at c;have b:bP U.f226 (dQ LU U.prog) [.int .u64 1,.int .u64 (n:Int)] s0=.val (.bM [.int .u64 0,.int .u64 (n:Int)]) s0:=c;unfold bP at b;rw[dy _ (by simp[dX]),cond_true,show da [HV.int .u64 1,.int .u64 (n:Int)]=true by simp[dX],cond_true]at b;refine dr ?_ trivial;show se LU 198 [.int .u64 1,.int .u64 (n:Int)] s (bu U.prog (dQ LU U.prog) 198 [.int .u64 1,.int .u64 (n:Int)] s)=_;rw[eT (by rfl)];show bP U.f226 (dQ LU U.prog) [.int .u64 1,.int .u64 (n:Int)] s=_;unfold bP;rw[dy _ (by simp[dX]),cond_true,show da [HV.int .u64 1,.int .u64 (n:Int)]=true by simp[dX],cond_true];cases d:iX U.f226 (dQ LU U.prog) [.int .u64 1,.int .u64 (n:Int)]with
  |none=>rw[d]at b;cases b
  |some v=>rw[d]at b;cases b;rfl
 intro n t
 match n,t with|0,_=>exact⟨by kernel_rfl,key 0 (by kernel_rfl)⟩|1,_=>exact⟨by kernel_rfl,key 1 (by kernel_rfl)⟩|2,_=>exact⟨by kernel_rfl,key 2 (by kernel_rfl)⟩|3,_=>exact⟨by kernel_rfl,key 3 (by kernel_rfl)⟩|4,_=>exact⟨by kernel_rfl,key 4 (by kernel_rfl)⟩|5,_=>exact⟨by kernel_rfl,key 5 (by kernel_rfl)⟩|6,_=>exact⟨by kernel_rfl,key 6 (by kernel_rfl)⟩|7,_=>exact⟨by kernel_rfl,key 7 (by kernel_rfl)⟩|8,_=>exact⟨by kernel_rfl,key 8 (by kernel_rfl)⟩|9,_=>exact⟨by kernel_rfl,key 9 (by kernel_rfl)⟩|10,_=>exact⟨by kernel_rfl,key 10 (by kernel_rfl)⟩|11,_=>exact⟨by kernel_rfl,key 11 (by kernel_rfl)⟩|12,_=>exact⟨by kernel_rfl,key 12 (by kernel_rfl)⟩|13,_=>exact⟨by kernel_rfl,key 13 (by kernel_rfl)⟩|14,_=>exact⟨by kernel_rfl,key 14 (by kernel_rfl)⟩|15,_=>exact⟨by kernel_rfl,key 15 (by kernel_rfl)⟩|16,_=>exact⟨by kernel_rfl,key 16 (by kernel_rfl)⟩|17,_=>exact⟨by kernel_rfl,key 17 (by kernel_rfl)⟩|18,_=>exact⟨by kernel_rfl,key 18 (by kernel_rfl)⟩|19,_=>exact⟨by kernel_rfl,key 19 (by kernel_rfl)⟩|20,_=>exact⟨by kernel_rfl,key 20 (by kernel_rfl)⟩|21,_=>exact⟨by kernel_rfl,key 21 (by kernel_rfl)⟩|22,_=>exact⟨by kernel_rfl,key 22 (by kernel_rfl)⟩|23,_=>exact⟨by kernel_rfl,key 23 (by kernel_rfl)⟩|24,_=>exact⟨by kernel_rfl,key 24 (by kernel_rfl)⟩|n+25,h=>exact absurd h (by omega)
end
def agM{s:HS}{n bw:Nat}(b:n<=bw)(z:HV):S5 1 bw [z] (some (.int .i64 (n:Int))) (some (.int .i64 (n:Int))) s=.v (.sl s.nx 0 n 1) {h:=ax (some (.cells (cM (List.replicate n z)) 0 (List.replicate n z).length s.nx)) s.nx s.h,nx:=s.nx.succ,gr:=ax (some [s.nx]) s.nx s.gr,ty:=s.ty}:=by show(bif Nat.ble n n&&Nat.ble n bw then s.new (lW [z] n) (λo=>.sl o 0 n 1)else .bad)=_;rw[bZ,bZ,xU];simp[b]
def Gy(n k:Nat):aj:=List.replicate k (iV (-1))++List.replicate (n-k) (iV 0)
def vn{n k:Nat}(h:k<=n):(Gy n k).length=n:=by simp[Gy];omega
def Dr{n k m:Nat}(b:k+m<=n):Ia (Gy n k) k (List.replicate m (iV (-1)))=Gy n (k+m):=by have:=Gw (List.replicate m (iV (-1))) (List.replicate k (iV (-1))) (List.replicate (n-k) (iV 0)) (by simp;omega);rw[By]at this;unfold Gy;rw[this,By,List.drop_replicate,List.replicate_append_replicate,show n-k-m=n-(k+m) by omega]
def HY{s:HS}{o:Ky}{n k m:Nat}(h:gJ s o (Gy n k))(b:m<=k)(c:k<=n):s.bz o 0 m=some (List.replicate m (iV (-1))):=by
 have d:=vn c;rw[ib,h.1,ao (fm _) (by omega) (by omega),List.drop_zero]
 congr 1
 unfold Gy;rw[C0 (by simpa using b),List.take_replicate,D9 b]
section
variable{s:HS}{av:aZ}{L:cE}{K:dv}
def agN(h:aG s av L K){i:Nat}{E:Ky}(hi:L[i]?=some (.sl E 0 1 1,1,[[iV (-1)]])){n:Nat}(hn:n<=24)(hp:1<=n):
  ∃o s' b,R (.call 188 [.sl E 0 1 1,iV n] s)=.val (.sl o 0 n 1) s'/\aG s' b (L++[(.sl o 0 n 1,1,(List.replicate n (-1:Int)).map iC)]) K:=by
 obtain⟨h3,_⟩:=Zg 1 (by omega);obtain⟨h5,I⟩:=Zg n hn;have h6:bQ .i64 (n:Int)=n:=bT (by omega) (by omega);have w:=h.ds (List.replicate n (.int .i64 0));have hO:=w.mem.own i _ _ _ hi;have A:=(w.bD 0 _ _ rfl).1;have J:=agM (s:=s) (n:=n) (bw:=17592186044416) (by omega) (.int .i64 0);generalize hx:HS.mk _ _ _ _=S1 at w hO A J;have B:gJ S1 s.nx (Gy n 0):=A;have h7:S1.bz E 0 1=some [iV (-1)]:=by rw[ib];exact hO.cells.2
 obtain⟨s2,h8,M,h9,hy⟩:=B.store 0 (List.replicate 1 (iV (-1))) (by rw[vn (by omega)];simp;omega);rw[Dr (by omega),bF]at M;have O:=w.cell (a:=0) rfl M h9;simp only[aQ]at O;have t:=Gx (s:=S1) (bm:=0) (len:=n) (tk:=1) (c:=1) (m:=1) (by omega) (by omega) h7 h8;have ha:¬(n:Int)<0:=by omega
 have P:¬(9223372036854775807:Int)<n:=by omega
 have ht:(0:Int)<=n:=by omega
 have hb:(n:Int)<=9223372036854775807:=by omega
 have V:bQ .u64 1=1:=h3;have t:Tw 1 (some (.sl s.nx 0 n 1)) (some (.sl E 0 1 1)) S1=.v (.int .i64 1) s2:=t;have hE:∃u s' b,ev R U.Mx (bb [.sl E 0 1 1,iV n] 0) s=.code .ret u s'/\look u 4=some (.sl s.nx 0 n 1)/\aG s' b L ((s.nx,Gy n n)::K):=by
  generalize d:ev R U.Mx (bb [.sl E 0 1 1,iV n] 0) s=r;simp[U.Mx,ha,V,h5,I,P,h6,J,t]at d;generalize ho:ev R (.loop U.wT) _ _=o at d;have hq:∃(u:En) (s':HS) (b:aZ),o=.code (.exit 0) u s'/\bH u [(7,.sl s.nx 0 n 1)]/\aG s' b L ((s.nx,Gy n n)::K):=by
   refine eU ho n
    (λj e s'=>∃k,k<=n/\1<=k/\(j+1<=k∨k=n)/\∃b,bH e [(7,.sl s.nx 0 n 1),(8,iV k)]/\aG s' b L ((s.nx,Gy n k)::K))
    (λo=>∃(u:En) (s':HS) (b:aZ),o=.code (.exit 0) u s'/\bH u [(7,.sl s.nx 0 n 1)]/\aG s' b L ((s.nx,Gy n n)::K))
    0 (by omega) ⟨1,hp,aW _,.inl (by omega),av,by simp,O⟩
    (λj e s' r hj ⟨k,hk,hd,hf,b,q,z⟩ d=>by
     simp only[ab,ae]at q;by_cases hz:k<n
     .have X:(k:Int)<n:=by omega
      have hC:=(z.bD 0 _ _ rfl).1;have hg:=HY hC (m:=min (n-k) k) (by omega) hk;obtain⟨s3,hl,Y,hs,_⟩:=hC.store k (List.replicate (min (n-k) k) (iV (-1))) (by rw[vn hk];simp;omega);rw[Dr (by omega)]at Y;have Z:=z.cell (a:=0) rfl Y hs;simp only[aQ]at Z;have t:=Gx (s:=s') (bm:=k) (len:=n-k) (tk:=k) (c:=1) (m:=min (n-k) k) rfl (by omega) hg hl;have h1:bQ .i64 ((k:Int)+((min (n-k) k:Nat):Int))=(k+min (n-k) k:Nat):=by rw[bT (by omega) (by omega)];omega
      have hle:k<=n:=hk;generalize hm:min (n-k) k=m at*;simp[U.wT,q,X,hle,t,h1]at d;subst d;exact .inl ⟨_,_,rfl,k+m,by omega,by omega,by omega,b,by simp[q],Z⟩
     have C:k=n:=by omega
     subst C;simp[U.wT,q]at d;subst d;exact .inr ⟨by simp,_,_,b,rfl,by simp[q],z⟩)
    (λe s' r ⟨k,hk,hd,hf,b,q,z⟩ d=>by
     have C:k=n:=by omega
     subst C;simp only[ab,ae]at q;simp[U.wT,q]at d;subst d;exact⟨by simp,_,_,b,rfl,by simp[q],z⟩)
  obtain⟨u,s',b,rfl,q,z⟩:=hq;simp only[ab,ae]at q;simp[q]at d;subst d;exact⟨_,s',b,rfl,by simp,z⟩
 obtain⟨u,s',b,hE,h4,z⟩:=hE;obtain⟨h2,D⟩:=z.toL;refine⟨s.nx,s',h2,ae7 rfl ⟨.ret,_,s',hE,.inr rfl,by simp[h4]⟩,?_⟩;rw[vn (aW _)]at D;have:(Gy n n).map (λv=>[v])=(List.replicate n (-1:Int)).map iC:=by simp[Gy]
 rw[this]at D;exact D
end
def Ds{α:Type}(l:List α)(i j:Nat)(v d:α)(b:i<l.length):(l.set i v).getD j d=if i=j then v else l.getD j d:=by
 rw[eD,gP,eD];by_cases h:i=j
 .subst h;simp[b]
 simp[h]
def Vc(cls:aY):Nat:=cls.countP λc=>decide (c<0)
def yf(cls b:aY):Prop:=∀(q:Nat) (c:Int),cls[q]?=some c->0<=c->b[q]?=some c
def r8(cls:aY)(q:Nat):Prop:=∃c,cls[q]?=some c/\0<=c
def yf.has{cls b:aY}(h:yf cls b){q:Nat}(k:r8 cls q):r8 b q:=by obtain⟨c,r,d⟩:=k;exact⟨c,h q c r d,d⟩
structure Kn(x:Fa)(cls:aY)(ss:eh):Prop where
 len:cls.length=x.nx.length
 sm:∀c∈cls,-1<=c/\c<400
 sl:ss.length+Vc cls<=x.nx.length
 ok:∀(q:Nat) (c:Int),cls[q]?=some c->0<=c->(∀e∈x.nx.getD q [],r8 cls e.to)/\ss[c.toNat]?=some (eR x cls q)
def Gz{x:Fa}{cls b:aY}(h:yf cls b){q:Nat}(d:∀e∈x.nx.getD q [],r8 cls e.to):eR x b q=eR x cls q:=by
 unfold eR
 congr 1
 generalize x.nx.getD q []=l at d
 induction l with
 |nil=>rfl
 |cons e l t=>
  rw[mB,mB,t (λu k=>d u (by simp[k]))];obtain⟨c,r,w⟩:=d e (by simp);have z:=h e.to c r w;have:eI b e=eI cls e:=by unfold eI;rw[eD,z,eD,r]
  rw[this]
def Ko:∀(cls:aY) (p:Nat) (c v:Int),cls[p]?=some c->c<0->0<=v->Vc (cls.set p v)+1=Vc cls
 |[],p,c,v,h,_,_=>by simp at h
 |a::r,0,c,v,h,b,d=>by simp at h;subst h;unfold Vc;rw[aQ,tZ,tZ];simp[b];omega
 |a::r,p+1,c,v,h,b,d=>by have:=Ko r p c v (by simpa using h) b d;unfold Vc at*;rw[cd,tZ,tZ];omega
def Kn.fin{x:Fa}(M:cf x){cls:aY}{ss:eh}(h:Kn x cls ss){p:Nat}{c:Int}(C:cls[p]?=some c)(V:c<0)(w:∀e∈x.nx.getD p [],r8 cls e.to):
  Kn x (cls.set p (ss.idxOf (eR x cls p):Nat)) (B1 ss (eR x cls p))/\yf cls (cls.set p (ss.idxOf (eR x cls p):Nat)):=by
 have hn:=M.n;obtain⟨D,_⟩:=aS.1 C;have X:=h.sl;have Y:=Ko cls p c (ss.idxOf (eR x cls p):Nat) C V (by omega);have O:ss.idxOf (eR x cls p)<=ss.length:=Tt;have P:0<x.nx.length:=M.pos;have b:yf cls (cls.set p (ss.idxOf (eR x cls p):Nat)):=by
  intro q d u A;have r:p≠q:=λe=>by subst e;rw[C]at u;cases u;omega
  rw[jd r];exact u
 have E:∀(k:Nat) (t:ay),ss[k]?=some t->(B1 ss (eR x cls p))[k]?=some t:=by
  intro k t I;unfold B1
  split
  .exact I
  rw[ea (aS.1 I).1];exact I
 refine⟨⟨by simp[h.len],λd A=>?_,?_,λq d u A=>?_⟩,b⟩
 .rcases xH A with z|z
  .exact h.sm d z
  have:ss.length<x.nx.length:=by omega
  omega
 .unfold B1
  split
  .omega
  simp;omega
 by_cases r:p=q
 .subst r;rw[gn D]at u;cases u;refine⟨λe J=>b.has (w e J),?_⟩;rw[Gz b w,Int.toNat_natCast];unfold B1;by_cases B:eR x cls p∈ss
  .rw[ar B,aR (Tu B),Tv]
  rw[au B,Kl B,iG (aW _)];simp
 rw[jd r]at u;obtain⟨z,Z⟩:=h.ok q d u A;exact⟨λe J=>b.has (z e J),by rw[Gz b z];exact E _ _ Z⟩
def Vd(cls:aY)(lj:cb)(n:Nat):Nat:=(List.range n).countP λq=> !lj.getD q false&&decide (cls.getD q 0<0)
def tp{α:Type}{p q:α->Bool}:∀{l:List α},(∀x∈l,p x=true->q x=true)->l.countP p<=l.countP q
 |[],_=>aW _
 |x::l,h=>by
  have b:=tp (l:=l) (λy c=>h y (by simp[c]));rw[tZ,tZ];have d:=h x (by simp);cases k:p x
  .simp;omega
  rw[d k];simp;exact b
def zY{α:Type}{p q:α->Bool}:∀{l:List α} {a:α},(∀x∈l,p x=true->q x=true)->a∈l->p a=false->q a=true->l.countP p<l.countP q
 |x::l,a,h,b,d,k=>by
  rw[tZ,tZ];have r:=h x (by simp);rcases bk.1 b with rfl|b
  .have:=tp (l:=l) (λy c=>h y (by simp[c]));rw[d,k];simp;omega
  have t:=zY (l:=l) (λy c=>h y (by simp[c])) b d k;cases u:p x
  .simp;omega
  rw[r u];simp;exact t
def GA{cls:aY}{lj:cb}{n p:Nat}{c:Int}(k:p<n)(r:lj.length=n)(t:lj[p]?=some false)(u:cls[p]?=some c)(d:c<0):Vd cls (lj.set p true) n<Vd cls lj n:=by
 refine zY (a:=p) (λq w h=>?_) (gd.2 k) ?_ ?_
 .rw[Ds _ _ _ _ _ (by omega)]at h;by_cases b:p=q
  .rw[ar b]at h;simp at h
  rw[au b]at h;exact h
 .rw[Ds _ _ _ _ _ (by omega),ar rfl];rfl
 rw[eD,t,eD,u];simp[d]
def Tx{cls b:aY}{lj:cb}{n:Nat}(w:cls.length=n)(h:yf cls b):Vd b lj n<=Vd cls lj n:=by
 refine tp λq t c=>?_
 rw[gd]at t;simp only[aL,bX]at c ⊢;refine⟨c.1,Az λd=>?_⟩;have k:=aR (show q<cls.length by omega);rw[eD,k]at d;simp only[hU]at d;have u:=h q _ k (by omega);have r:=c.2;rw[eD,u]at r;simp only[hU]at r;omega
def dF.get{s:HS}{av:aZ}{L:cE}{K:dv}{o:Ky}{es:List (HV×HV)}(h:dF s av L K o es){p:Ky}{c:aj}(b:(p,c)∈K):ak s.h p=some (.cells (cM c) 0 c.length p):=by obtain⟨a,d⟩:=tO.1 b;exact(h.k.bD a p c d).1.1
def DO(b c d:Ky)(n:Nat)(cls:aY)(lj:cb):cE:=[(.sl b 0 1 1,1,[[iV (-1)]]),(.sl c 0 n 1,1,cls.map iC),(.sl d 0 n 1,1,lj.map bC)]
structure VK(x:Fa)(oc oo om kx kc kl ko kk kv:Ky)(K:dv):Prop where
 xx:(kx,x.c)∈K
 cc:(kc,[.sl oc 0 x.nx.length 1])∈K
 o':(ko,[.sl oo 0 x.nx.length 1])∈K
 km:(kk,[.mp om])∈K
 vv:(kv,[.fn 189 [] [.ptr ko 0,.ptr kx 0,.ptr kl 0,.ptr kc 0,.ptr kv 0,.ptr kk 0]])∈K
def VK.cons{x:Fa}{b c d k q r t u w:Ky}{K:dv}(h:VK x b c d k q r t u w K)(y:Ky×List HV):VK x b c d k q r t u w (y::K):=
 ⟨cS _ h.xx,cS _ h.cc,cS _ h.o',cS _ h.km,cS _ h.vv⟩
def Kp{lj:cb}{p:Nat}(h:lj[p]?=some false):(lj.set p true).set p false=lj:=by obtain⟨c,b⟩:=aS.1 h;rw[BM,<-b,xX]
def Zh{x:Fa}(hx:cf x)(hs:Ff x){oa O Z om kx kc P ko kk kv:Ky}{av:aZ}:∀(m:Nat) {K:dv} {al:Nat} {cls:aY} {lj:cb} {ss:eh} {p:Nat} {s:HS} {c:Int},
  VK x O Z om kx kc P ko kk kv K->K[al]?=some (P,[.bool false])->dF s av (DO oa O Z x.nx.length cls lj) K om (kY HV.str ss 0)->Kn x cls ss->lj.length=x.nx.length->p<x.nx.length->lj[p]?=some false->cls[p]?=some c->c<0->
  Vd cls lj x.nx.length<=m->
  ∃(s':HS) (t:aY) (w:cb) (u:eh) (b:Bool),R (.call 189 [iV p,.ptr ko 0,.ptr kx 0,.ptr P 0,.ptr kc 0,.ptr kv 0,.ptr kk 0] s)=.val (.bM []) s'/\
   dF s' av (DO oa O Z x.nx.length t w) (if b then K.set al (P,[.bool true])else K) om (kY HV.str u 0)/\t.length=x.nx.length/\
   (b=false->w=lj/\Kn x t u/\yf cls t/\r8 t p/\∀q:Nat,lj[q]?=some true->t[q]?=cls[q]?)
 |0,K,al,cls,lj,ss,p,s,c,C,hl,hM,hB,ha,V,ho,hc,hd,kj=>by have:=GA V ha ho hc hd;omega
 |m+1,K,al,cls,lj,ss,p,s,c,C,hl,hM,hB,ha,V,ho,hc,hd,kj=>by
  have hn:=hx.n;have kn:=hB;have x3:=hx.row V;have x4:(p:Int)<x.nx.length:=by omega
  have x5:=GA V ha ho hc hd;have x6:=(aS.1 ho).1;have a1:=hM.get C.o';have a2:=hM.get C.xx;obtain⟨x7,s1,b1,b2,hf⟩:=hM.iY 2 rfl p (by simp;omega) (x:=.bool true) rfl;simp[V]at b1;obtain rfl:=b1;have hf:dF s1 av (DO oa O Z x.nx.length cls (lj.set p true)) K om (kY HV.str ss 0):=by have:=hf;unfold DO;rw[mA];exact this
  simp only[iu]at b2;have a3:=hf.get C.xx;simp only[az,aE,bF,Nat.reduceAdd,Fa.c]at a1 a2 a3;generalize B:ev R U.R0 (bb [iV p,.ptr ko 0,.ptr kx 0,.ptr P 0,.ptr kc 0,.ptr kv 0,.ptr kk 0] 0) s=r;have k7:=B;simp[U.R0,a1,a3,V,b2]at B;generalize kp:ev R (.loop U.qG) _ _=o at B;have k4:(∃(e':En) (s':HS) (t:aY) (w:cb) (u:eh),o=.code .ret e' s'/\t.length=x.nx.length/\dF s' av (DO oa O Z x.nx.length t w) (K.set al (P,[.bool true])) om (kY HV.str u 0))∨
    (∃(e':En) (s':HS) (t:aY) (u:eh),o=.code (.exit 0) e' s'/\bH e' [(0,iV p),(1,.ptr ko 0),(2,.ptr kx 0),(3,.ptr P 0),(4,.ptr kc 0),(5,.ptr kv 0),(6,.ptr kk 0)]/\
     dF s' av (DO oa O Z x.nx.length t (lj.set p true)) K om (kY HV.str u 0)/\Kn x t u/\yf cls t/\(∀q:Nat,(lj.set p true)[q]?=some true->t[q]?=cls[q]?)/\∀e∈x.nx[p],r8 t e.to):=by
   refine eU kp x.nx[p].length
    (λk e s=>∃(t:aY) (u:eh),bH e [(0,iV p),(1,.ptr ko 0),(2,.ptr kx 0),(3,.ptr P 0),(4,.ptr kc 0),(5,.ptr kv 0),(6,.ptr kk 0),(17,.psl (x.nx[p].map Eg.c)),(18,iV x.nx[p].length),(19,iV k)]/\
     dF s av (DO oa O Z x.nx.length t (lj.set p true)) K om (kY HV.str u 0)/\Kn x t u/\yf cls t/\(∀q:Nat,(lj.set p true)[q]?=some true->t[q]?=cls[q]?)/\∀j e,j<k->x.nx[p][j]?=some e->r8 t e.to)
    (λo=>(∃(e':En) (s':HS) (t:aY) (w:cb) (u:eh),o=.code .ret e' s'/\t.length=x.nx.length/\dF s' av (DO oa O Z x.nx.length t w) (K.set al (P,[.bool true])) om (kY HV.str u 0))∨
     (∃(e':En) (s':HS) (t:aY) (u:eh),o=.code (.exit 0) e' s'/\bH e' [(0,iV p),(1,.ptr ko 0),(2,.ptr kx 0),(3,.ptr P 0),(4,.ptr kc 0),(5,.ptr kv 0),(6,.ptr kk 0)]/\
      dF s' av (DO oa O Z x.nx.length t (lj.set p true)) K om (kY HV.str u 0)/\Kn x t u/\yf cls t/\(∀q:Nat,(lj.set p true)[q]?=some true->t[q]?=cls[q]?)/\∀e∈x.nx[p],r8 t e.to))
    0 (by omega) ⟨cls,ss,by simp,hf,hB,λq c h _=>h,λq _=>rfl,λj e h=>by omega⟩
    (λk e s r hk ⟨t,u,E,hM,hB,hE,hO,h4⟩ B=>by
     have hg:(k:Int)<x.nx[p].length:=by omega
     have k8:=aR hk;have X:=hx.to _ (cp V) _ (cp hk);have kq:(x.nx[p].map Eg.c)[k]?=some (x.nx[p][k]).c:=by rw[fR,k8];rfl
     generalize he:x.nx[p][k]=ed at*;have x1:(ed.to:Int)<x.nx.length:=by omega
     have hw:=bo (n:=6000) (show k<6000 by omega) (by omega);have z:=hM.ds ed.c;generalize h5:HS.mk _ _ _ _=S2 at z;have hy:=C.cons (s.nx,ed.c);have hz:((s.nx,ed.c)::K)[al+1]?=some (P,[.bool false]):=hl;have c1:=z.get (p:=s.nx) (c:=ed.c) (by simp);have c2:=z.get hy.o';have c3:=z.get hy.cc;have c4:=z.get hy.vv;have c5:=(z.k.bD (al+1) _ _ hz).1.1;have k0:ed.to<(lj.set p true).length:=by rw[jc];omega
     have g1:=kV (z.k.mem.own 2 _ _ _ rfl) (aR k0);have h6:ed.to<t.length:=by rw[hB.len];exact X
     have g2:=vh (z.k.mem.own 1 _ _ _ rfl) (aR h6);simp only[ab,ae]at E;simp only[Eg.c,az,aE,bF,Nat.reduceAdd,iV]at c1 c2 c3 c4 c5 h5 kq g2;have h7:∀(I:aY),yf t I->r8 I ed.to->∀j e,j<k+1->x.nx[p][j]?=some e->r8 I e.to:=by
      intro I J h2 j e1 hj h3;by_cases kr:j=k
      .subst kr;rw[k8]at h3;cases h3;exact h2
      exact J.has (h4 j e1 (by omega) h3)
     cases hb:(lj.set p true)[ed.to]
     .rw[hb]at g1;by_cases M:t[ed.to]<0
      .have ks:(lj.set p true)[ed.to]?=some false:=by rw[aR k0,hb]
       have kt:=aR h6;have x2:=Tx (lj:=lj.set p true) kn.len hE;obtain⟨s3,h8,k9,ka,b3,q1,q2,q3,q4⟩:=Zh hx hs m (cls:=t) (lj:=lj.set p true) (ss:=u) (p:=ed.to) (s:=S2) hy hz z hB (by simp[ha]) X ks kt M (by omega);simp only[iV]at q1;cases b3
       .obtain⟨r1,r2,r3,r4,r5⟩:=q4 rfl;subst r1;simp only[cz,bn]at q2;have d5:=(q2.k.bD (al+1) _ _ hz).1.1;simp only[az,aE,bF]at d5;simp[U.qG,E,hk,hg,he,h5,c1,c2,c3,c4,ai,an,X,g1,g2,M,q1,d5,hw]at B;subst B;refine .inl ⟨_,_,rfl,h8,ka,by simp[E],q2.tail,r2,λq d J h2=>r3 q d (hE q d J h2) h2,λq hq=>?_,h7 h8 r3 r4⟩;rw[r5 q hq,hO q hq]
       simp only[bj,cd]at q2;have d5:=(q2.k.bD (al+1) P [.bool true] (by rw[Bp,gn (aS.1 hl).1])).1.1;simp only[az,aE,bF]at d5;simp[U.qG,E,hk,hg,he,h5,c1,c2,c3,c4,ai,an,X,g1,g2,M,q1,d5]at B;subst B;exact .inr ⟨by simp,.inl ⟨_,_,h8,k9,ka,rfl,q3,q2.tail⟩⟩
      simp[U.qG,E,hk,hg,he,h5,c1,c2,c3,c5,ai,an,X,g1,g2,M,hw]at B;subst B;exact .inl ⟨_,_,rfl,t,u,by simp[E],z.tail,hB,hE,hO,h7 t (λq c h _=>h) ⟨_,aR h6,by omega⟩⟩
     rw[hb]at g1;obtain⟨s3,b3,k5⟩:=z.xV hz 0 (by simp) (x:=.bool true) rfl;simp only[aQ,cd]at k5;have d5:=(k5.k.bD (al+1) P [.bool true] (by rw[Bp,gn (aS.1 hl).1])).1.1;simp only[az,aE,bF]at d5;simp[U.qG,E,hk,hg,he,h5,c1,c2,ai,an,X,g1,b3,d5]at B;subst B;exact .inr ⟨by simp,.inl ⟨_,_,t,lj.set p true,u,rfl,hB.len,k5.tail⟩⟩)
    (λe s r ⟨t,u,E,hM,hB,hE,hO,h4⟩ B=>by
     simp only[ab,ae]at E;simp[U.qG,E]at B;subst B;refine⟨by simp,.inr ⟨_,_,t,u,rfl,by simp[E],hM,hB,hE,hO,λe he=>?_⟩⟩;obtain⟨j,hj⟩:=tO.1 he;exact h4 j e (aS.1 hj).1 hj)
  rcases k4 with⟨e',s',t,w,u,rfl,kb,A⟩|⟨e',s',t,u,rfl,E,A,Y,ku,kd,h4⟩
  .simp at B;subst B;exact⟨s',t,w,u,true,X3 rfl ⟨.ret,_,s',k7,.inr rfl,by simp⟩,A,kb,λh=>by cases h⟩
  have ky:∀c∈t,fX c:=λc hc=>by have:=Y.sm c hc;unfold fX;omega
  have kz:t[p]?=some c:=by rw[kd p (by rw[gn (by omega)]),hc]
  have ke:∀e∈x.nx.getD p [],r8 t e.to:=by rw[getD_at V];exact h4
  obtain⟨k1,kg⟩:=Y.fin hx kz hd ke;have k2:R (.call 191 [.agg x.c,iV p,.sl O 0 x.nx.length 1] s')=.val (.str (eR x t p)) s':=by refine X4 (by simp[cj,bV]) (.cons (.data (by simp)) (.cons (.data (by simp)) (.cons ?_ .nil))) (by simp) rfl (λs=>Zc hx hs Y.len ky V s);exact(A.k.mem.own 1 _ _ _ rfl).vw (n:=14) (jK _)
  obtain⟨s4,k3,x0⟩:=Ze A.mp (by have:=Y.sl;omega) (eR x t p);have h9:dF s4 av (DO oa O Z x.nx.length t (lj.set p true)) K om (kY HV.str (B1 u (eR x t p)) 0):=by
   rw[x0];by_cases ht:eR x t p∈u
   .rw[ar ht,B1,ar ht];exact A
   rw[au ht];exact A.put _
  obtain⟨o5,s5,u1,u2,D⟩:=h9.iY 2 rfl p (by simp;omega) (x:=.bool false) rfl;simp[V]at u1;obtain rfl:=u1;have D:dF s5 av (DO oa O Z x.nx.length t lj) K om (kY HV.str (B1 u (eR x t p)) 0):=by
   have J:=D;have h2:((lj.set p true).map bC).set p [.bool false]=lj.map bC:=by rw[show [HV.bool false]=bC false from rfl,<-List.map_set,Kp ho]
   unfold DO at J;simp only[cd,aQ]at J;rw[h2]at J;exact J
  obtain⟨o6,s6,y1,y2,k6⟩:=D.iY 1 rfl p (by have:=Y.len;simp;omega) (x:=iV (u.idxOf (eR x t p))) rfl;simp[V]at y1;obtain rfl:=y1;have k6:dF s6 av (DO oa O Z x.nx.length (t.set p (u.idxOf (eR x t p):Nat)) lj) K om (kY HV.str (B1 u (eR x t p)) 0):=by have J:=k6;unfold DO at J ⊢;simp only[cd,aQ]at J;rw[mA];exact J
  simp only[iu]at u2 y2;have y3:=Gu y2;have d1:=A.get C.xx;have d2:=A.get C.cc;have d3:=A.get C.km;have d4:=A.get C.o';have f1:=h9.get C.xx;have f2:=h9.get C.cc;have f3:=h9.get C.km;have f4:=h9.get C.o';have g2:=D.get C.cc;have g1:=D.get C.xx;have g3:=D.get C.km;have g4:=D.get C.o';simp only[az,aE,bF,Nat.reduceAdd,Fa.c]at d1 d2 d3 d4 f1 f2 f3 f4 g1 g2 g3 g4;simp only[iV,Fa.c]at k2;simp only[iV]at k3 y3;simp only[ab,ae]at E;simp[E,d1,d2,d3,d4,ao,k2,k3,f2,f4,V,u2,g2,y3]at B;subst B;refine⟨s6,_,lj,B1 u (eR x t p),false,X3 rfl ⟨.normal,_,s6,k7,.inl rfl,by simp⟩,k6,k1.len,λ_=>⟨rfl,k1,λq d J h2=>kg q d (ku q d J h2) h2,⟨_,gn (by rw[Y.len];exact V),by omega⟩,λq hq=>?_⟩⟩;have ki:p≠q:=λe=>by subst e;rw[ho]at hq;cases hq
  rw[jd ki,kd q (by rw[jd ki];exact hq)]
def gT{s s':HS}{o:Ky}{k:Nat}{v:HV}(h:pR 1 (some (.ptr o k)) (some v) s=.v .undef s')(c:cellsOf v=some [v]):jX s (ak s.h o) o k [v]=some s':=by
 rw[iO,c]at h;simp only[dG,dx,bj,kR]at h;cases b:jX s (ak s.h o) o k [v]with
 |none=>rw[b]at h;cases h
 |some s2=>rw[b]at h;cases h;rfl
def zZ{x:Fa}(C:Dj x){P:aC}(h0:P 0)(t:∀i,i<x.nx.length->P i->∀e∈x.nx.getD i [],P e.to):∀i,i<x.nx.length->P i:=by
 obtain⟨c,D,E,I⟩:=C.bfs;have key:∀i,i<=x.nx.length->∀j,j<c i->P j:=by
  intro i
  induction i with
  |zero=>intro _ j b;rw[D]at b;rw[show j=0 by omega];exact h0
  |succ i z=>
   intro A;obtain⟨J,_,M,O⟩:=I i (by omega);have u:=z (by omega) i J;have d:=t i (by omega) u;have B:∀k,k<=(x.nx.getD i []).length->∀j,j<fW (c i) ((x.nx.getD i []).take k)->P j:=by
    intro k
    induction k with
    |zero=>intro _ j b;exact z (by omega) j (by simpa[fW]using b)
    |succ k q=>
     intro B j b;have r:k<(x.nx.getD i []).length:=by omega
     rw[fC r,tj]at b;unfold zV at b
     split at b
     .rename_i V;by_cases w:j<fW (c i) ((x.nx.getD i []).take k)
      .exact q (by omega) j w
      have:j=((x.nx.getD i [])[k]).to:=by omega
      rw[this];exact d _ (cp r)
     exact q (by omega) j b
   intro j b;rw[M]at b;exact B _ (aW _) j (by rwa[my])
 intro i A;exact key _ (aW _) i (by rw[E];exact A)
def Kn.MJ{x:Fa}(E:cf x)(A:Ff x)(k:Dj x){cls:aY}{ss:eh}(h:Kn x cls ss)(h0:r8 cls 0):r6 x cls λp=>p<x.nx.length:=by
 have b:∀i,i<x.nx.length->r8 cls i:=zZ k h0 λi _ ⟨c,r,t⟩=>(h.ok i c r t).1
 refine⟨h.len,λc k=>by have:=h.sm c k;omega,λp q B C u=>?_⟩;obtain⟨c,r,t⟩:=b p B;obtain⟨d,w,D⟩:=b q C;rw[eD,r,eD,w]at u;simp only[hU]at u;subst u;have z:=(h.ok p c r t).2;rw[(h.ok q c w D).2]at z;exact Dp A (λc k=>by have:=h.sm c k;unfold fX;omega) (lz z).symm
def agO(x:Fa)(hx:cf x)(hs:Ff x)(hc:Dj x)(hd:x.nx.length<=24):∃(cls:aY) (b:Bool),(b=false->r6 x cls λp=>p<x.nx.length)/\fL U.f199 R [.agg x.c]=true/\∀s,R (.call 173 [.agg x.c] s)=.val (.bM [.psl (cls.map iC),.bool b]) s:=by
 have hn:=hx.n;have z:=hx.pos;generalize hr:bJ R U.RG (bb [.agg x.c] 0) s0=r
 suffices h:∃(cls:aY) (b:Bool),(b=false->r6 x cls λp=>p<x.nx.length)/\n5 [.cell 2 none,.cell 3 none] r=some (.bM [.psl (cls.map iC),.bool b])/\Tl [.cell 2 none,.cell 3 none] r=true by obtain⟨cls,b,h1,h,hf⟩:=h;rw[<-hr]at h hf;exact⟨cls,b,h1,by rw[pz];exact hf,λs=>aeP h⟩
 have h0:aG s0 (λ_=>none) [] []:=⟨dR.start (by simp),by simp,by simp⟩;generalize kq:s0=S0 at h0 hr;have hg:=h0.ds x.c;generalize hj:HS.mk _ _ _ _=A at hg;have hl:=hg.ds [.ah];generalize ho:HS.mk _ _ _ _=D at hl;have hp:=hl.ds [.bool false];generalize ht:HS.mk _ _ _ _=S3 at hp;obtain⟨c4,J⟩:=hp.Kj (sz:=1) (t:=[[iV (-1)]]) (Sz.cons rfl Sz.nil);have e4:=(J.bD 2 _ _ rfl).1.1;generalize hy:HS.mk _ _ _ _=S4 at J e4;simp only[bA,az,aE,bF]at J;obtain⟨d,s5,c5,q5,hz⟩:=agN J (i:=0) rfl hd z;simp only[bx,bA]at hz;obtain⟨s6,b6,h4⟩:=hz.xV (a:=1) rfl 0 (by simp) (x:=.sl d 0 x.nx.length 1) rfl;simp only[aQ,cd]at h4;have e6:=(h4.bD 2 _ _ rfl).1.1;obtain⟨s7,m7,km,kn⟩:=lH (s:=s6) (n:=x.nx.length) (bw:=140737488355328) (by omega) (.bool false);obtain⟨c7,h5⟩:=h4.join kn km (λk hk=>by subst hk;exact aW _);rw[show List.replicate x.nx.length [HV.bool false]=(List.replicate x.nx.length false).map bC by simp]at h5;simp only[bx,bA]at h5;have k0:=h5.ds [.ah];generalize k1:HS.mk _ _ _ _=S8 at k0;obtain⟨s9,b9,k2⟩:=k0.xV (a:=0) rfl 0 (by simp) (x:=.sl s6.nx 0 x.nx.length 1) rfl;simp only[aQ]at k2;have M:=k2.mkm;generalize k5:HS.mk _ _ _ _=u at M;have O:=M.ds [.fK];generalize P:HS.mk _ _ _ _=kr at O;obtain⟨w,k6,V⟩:=O.xV (a:=0) rfl 0 (by simp) (x:=.mp s9.nx) rfl;simp only[aQ]at V;have X:=V.ds [.gG];generalize Y:HS.mk _ _ _ _=ks at X;obtain⟨k7,k8,E⟩:=X.xV (a:=0) rfl 0 (by simp) (x:=.fn 189 [] [.ptr s7.nx 0,.ptr S0.nx 0,.ptr D.nx 0,.ptr A.nx 0,.ptr w.nx 0,.ptr u.nx 0]) rfl;simp only[aQ]at E;have k9:=(E.k.bD 0 _ _ rfl).1.1;have hV:VK x d s6.nx s9.nx S0.nx A.nx D.nx s7.nx u.nx w.nx [(w.nx,[.fn 189 [] [.ptr s7.nx 0,.ptr S0.nx 0,.ptr D.nx 0,.ptr A.nx 0,.ptr w.nx 0,.ptr u.nx 0]]),(u.nx,[.mp s9.nx]),(s7.nx,[.sl s6.nx 0 x.nx.length 1]),(D.nx,[.bool false]),(A.nx,[.sl d 0 x.nx.length 1]),(S0.nx,x.c)]:=
  ⟨by simp,by simp,by simp,by simp,by simp⟩
 have hB:Kn x (List.replicate x.nx.length (-1)) []:=by
  refine⟨by simp,λc hc=>by rw[zP hc];omega,?_,λq c hq hc=>?_⟩
  .have:=List.countP_le_length (p:=λc:Int=>decide (c<0)) (l:=List.replicate x.nx.length (-1));rw[By]at this;unfold Vc;rw[aE];omega
  rw[yc]at hq
  split at hq
  .cases hq;omega
  cases hq
 have h6:dF k7 c7 (DO S3.nx d s6.nx x.nx.length (List.replicate x.nx.length (-1)) (List.replicate x.nx.length false)) [(w.nx,[.fn 189 [] [.ptr s7.nx 0,.ptr S0.nx 0,.ptr D.nx 0,.ptr A.nx 0,.ptr w.nx 0,.ptr u.nx 0]]),(u.nx,[.mp s9.nx]),(s7.nx,[.sl s6.nx 0 x.nx.length 1]),(D.nx,[.bool false]),(A.nx,[.sl d 0 x.nx.length 1]),(S0.nx,x.c)] s9.nx (kY HV.str [] 0):=E;obtain⟨ka,cls,ko,ss,b,h7,kb,kt,Z⟩:=Zh hx hs (Vd (List.replicate x.nx.length (-1)) (List.replicate x.nx.length false) x.nx.length) (al:=3) (p:=0) (c:= -1) hV rfl h6 hB (by simp) z (by rw[yc,ar z]) (by rw[yc,ar z]) (by omega) (aW _);have hK:∃Kb,dF ka c7 (DO S3.nx d s6.nx x.nx.length cls ko) Kb s9.nx (kY HV.str ss 0)/\Kb[4]?=some (A.nx,[.sl d 0 x.nx.length 1])/\Kb[3]?=some (D.nx,[.bool b]):=by cases b<;>exact⟨_,by simpa using kb,rfl,rfl⟩
 obtain⟨Kb,h8,k4,k3⟩:=hK;have kc:=(h8.k.bD 4 _ _ k4).1.1;have h2:=(h8.k.bD 3 _ _ k3).1.1;obtain⟨ku,kd,B⟩:=h8.xV k4 0 (by simp) (x:=.sl d 0 x.nx.length 1) rfl;simp only[aQ]at B;have ke:(Kb.set 4 (A.nx,[.sl d 0 x.nx.length 1]))[4]?=some (A.nx,[.sl d 0 x.nx.length 1]):=gn (aS.1 k4).1;have h9:(Kb.set 4 (A.nx,[.sl d 0 x.nx.length 1]))[3]?=some (D.nx,[.bool b]):=by rw[jd (by omega)];exact k3
 have kg:=(B.k.bD 3 _ _ h9).1.1;have ki:=(B.k.bD 4 _ _ ke).1.1;obtain⟨kp,kj,C⟩:=B.xV h9 0 (by simp) (x:=.bool b) rfl;simp only[aQ]at C;have kk:((Kb.set 4 (A.nx,[.sl d 0 x.nx.length 1])).set 3 (D.nx,[.bool b]))[3]?=some (D.nx,[.bool b]):=gn (aS.1 h9).1;have kl:((Kb.set 4 (A.nx,[.sl d 0 x.nx.length 1])).set 3 (D.nx,[.bool b]))[4]?=some (A.nx,[.sl d 0 x.nx.length 1]):=by rw[jd (by omega)];exact ke
 have ha:=(C.k.bD 3 _ _ kk).1.1;have I:=(C.k.bD 4 _ _ kl).1.1;have h3:=C.k.mem.own 1 _ _ _ rfl;have hv:=h3.vw (n:=13) (jK _);have h7:R (.call 189 [.int .i64 0,.ptr s7.nx 0,.ptr S0.nx 0,.ptr D.nx 0,.ptr A.nx 0,.ptr w.nx 0,.ptr u.nx 0] k7)=.val (.bM []) ka:=h7;simp only[az,aE,bF,Nat.reduceAdd,Fa.c,iV,cV,ml,bx,bA]at hj ho ht hy k1 P Y e4 e6 k9 kc h2 kg ki ha I q5;have d6:=gT b6 rfl;have d9:=gT b9 rfl;have kv:=gT k6 rfl;have kx:=gT k8 rfl;have ky:=gT kd rfl;have kz:=gT kj rfl;simp[U.RG,d6,hj,ho,ht,hy,e4,q5,e6,m7,k1,b9,k5,P,k6,Y,k8,k9,h7,kc,h2,kd,kg,kj]at hr;subst hr;refine⟨cls,b,λhb=>(Z hb).2.1.MJ hx hs hc (Z hb).2.2.2.1,?_,rW (v:=.bM [.sl d 0 x.nx.length 1,.bool b]) (s':=kp) (by simp[ha,I]) (Gn λv hv=>?_)⟩
 .simp[ha,I];exact aH (.bM (.cons hv (.data (by simp))))
 rcases bk.1 hv with rfl|hv
 .exact pX h3 (Gp cls)
 rw[dq.1 hv];exact yb rfl
def dF.push{s:HS}{av:aZ}{L:cE}{K:dv}{o:Ky}{es:List (HV×HV)}(h:dF s av L K o es)(sz:Nat):dF s av (L++[(.ah,sz,[])]) K o es:=⟨h.k.push sz,h.mp,h.lt,h.co⟩
abbrev GB:Int->HV:=λn=>iV n
def ua(cls:aY)(c:Nat):aY:=(List.range c).map λi=>cls.getD i 0
def Ni{cls:aY}{n:Nat}(b:∀i j:Nat,i<n->j<n->cls.getD i 0=cls.getD j 0->i=j){c p:Nat}(r:c<=n)(k:p<c):(ua cls c).idxOf (cls.getD p 0)=p/\cls.getD p 0∈ua cls c:=by
 have d:cls.getD p 0∈ua cls c:=dt.2 ⟨p,gd.2 k,rfl⟩;refine⟨?_,d⟩;have q:p<(ua cls c).length:=by simp[ua,k]
 refine qP (p:=λa=>a==cls.getD p 0) q (λj t=>?_) ?_
 .simp only[ua,Bu,BN,beq_eq_false_iff_ne];intro e;have:=b j p (by omega) (by omega) e;omega
 simp[ua]
def Nj{cls:aY}{n:Nat}(b:∀i j:Nat,i<n->j<n->cls.getD i 0=cls.getD j 0->i=j){c:Nat}(d:c<n):cls.getD c 0 ∉ ua cls c:=by intro h;obtain⟨j,k,q⟩:=dt.1 h;rw[gd]at k;have:=b j c (by omega) d q;omega
def Kq(cls:aY)(c:Nat):ua cls (c+1)=ua cls c++[cls.getD c 0]:=by simp[ua,ET]
section
variable{s:HS}{av:aZ}{L:cE}{K:dv}
def Zi{cls:aY}{n:Nat}(hb:cls.length=n)(hn:n<=400)(w:∀i j:Nat,i<n->j<n->cls.getD i 0=cls.getD j 0->i=j){c p a:Nat}(hp:p<n)(hd:p<=c)(V:c<=n){sg iZ kf O:Ky}{X:HV}
  (z:dF s av L K O (kY GB (ua cls c) 0))(Y:L[0]?=some (X,1,(List.range c).map nC))(P:K[a]?=some (kf,[X]))(Z:(sg,[.mp O])∈K)(h3:(iZ,[.psl (cls.map iC)])∈K):
  ∃s' D q,R (.call 193 [iV p,.ptr sg 0,.ptr iZ 0,.ptr kf 0] s)=.val (iV p) s'/\dF s' D (L.set 0 (q,1,(List.range (if p=c then c+1 else c)).map nC)) (K.set a (kf,[q])) O (kY GB (ua cls (if p=c then c+1 else c)) 0):=by
 have d:p<cls.length:=by omega
 have ha:(p:Int)<cls.length:=by omega
 have h4:=(aS.1 Y);have h6:=(aS.1 P);have d1:=z.get Z;have d2:=z.get h3;have d3:=(z.k.bD a _ _ P).1.1;have b:=lkK (K:=KI) (f:=GB) rN (λ_=>rfl) z.mp (cls.getD p 0);simp only[az,aE,bF]at d1 d2 d3;rw[getD_at d]at b;by_cases h7:p<c
 .obtain⟨h1,h2⟩:=Ni w V h7;rw[getD_at d]at h1 h2;rw[ar h2,h1,ey h2]at b;have A:∃B,ev R U.EI (bb [iV p,.ptr sg 0,.ptr iZ 0,.ptr kf 0] 0) s=.code .ret B s/\look B 5=some (iV p):=by generalize E:ev R U.EI (bb [iV p,.ptr sg 0,.ptr iZ 0,.ptr kf 0] 0) s=r;simp only[iV]at b;simp[U.EI,d1,d2,d,b]at E;subst E;exact⟨_,rfl,by simp⟩
  obtain⟨B,A,h5⟩:=A;refine⟨s,av,X,X5 rfl ⟨.ret,_,s,A,.inr rfl,by simp[h5]⟩,?_⟩;rw[au (by omega),<-h4.2,xX,<-h6.2,xX];exact z
 have h8:p=c:=by omega
 subst h8;have t:=Nj w hp;rw[getD_at d]at t;rw[au t,ef t]at b;have u:=muK (K:=KI) (f:=GB) rN (λ_=>rfl) z.mp t;have C:=z.put (kY GB (ua cls p++[cls[p]]) 0);have e3:=(C.k.bD a _ _ P).1.1;generalize hg:s.aK O (Ob.mp (kY GB (ua cls p++[cls[p]]) 0))=S1 at C u e3;obtain⟨q,s2,I,a2,k2,h9⟩:=C.append 0 Y (new:=[[iV p]]) (Sz.cons rfl Sz.nil) (by simp) (bw:=17592186044416) (by simp;omega);obtain⟨s3,b3,J⟩:=h9.xV P 0 (by simp) k2;simp only[aQ]at J;have hlen:=z.k.mem.len 0 Y s;rw[bG,BO]at hlen;have M:(ua cls p).length=p:=by simp[ua]
 rw[M]at u;simp only[az,aE,bF]at e3;have A:∃B,ev R U.EI (bb [iV p,.ptr sg 0,.ptr iZ 0,.ptr kf 0] 0) s=.code .ret B s3/\look B 5=some (iV p):=by generalize E:ev R U.EI (bb [iV p,.ptr sg 0,.ptr iZ 0,.ptr kf 0] 0) s=r;simp only[iV]at b u hlen;simp[U.EI,d1,d2,d3,d,b,hlen,u,e3,a2,b3]at E;subst E;exact⟨_,rfl,by simp⟩
 obtain⟨B,A,h5⟩:=A;refine⟨s3,I,q,X5 rfl ⟨.ret,_,s3,A,.inr rfl,by simp[h5]⟩,?_⟩;rw[ar rfl,Kq,getD_at d,ET,fB];exact J
end
def z6(c:Nat):∀(l:bq) (k:Nat),fW c (l.take k)<=fW c l:=by
 have b:∀(l:bq) (c:Nat),c<=fW c l:=by
  intro l
  induction l with
  |nil=>intro c;exact aW _
  |cons e l d=>
   intro c;have:=d (zV c e);unfold fW at*;rw[List.foldl_cons];have:c<=zV c e:=by unfold zV;split<;>omega
   omega
 intro l k
 conv=>rhs;rw[<-List.take_append_drop k l]
 unfold fW;rw[List.foldl_append];exact b _ _
def Zj{x:Fa}(Y:cf x){cls:aY}(Z:cls.length=x.nx.length)(D:∀i j:Nat,i<x.nx.length->j<x.nx.length->cls.getD i 0=cls.getD j 0->i=j){i c0:Nat}(hi:i<x.nx.length)(h1:fW c0 x.nx[i]<=x.nx.length)
  (hb:∀(k:Nat) (e:Eg),x.nx[i][k]?=some e->e.to<=fW c0 (x.nx[i].take k)){M:cE}{e:En}{s:HS}{o:Out}{sg iZ kf mI u:Ky}{b vN vF v9:HV}{av:aZ}
  (d:bH e [(2,.aw x.c),(4,.ptr mI 0),(6,.ptr kf 0),(7,.fn 193 [] [.ptr sg 0,.ptr iZ 0,.ptr kf 0]),(8,iV i),(9,v9),(29,.psl (x.nx[i].map Eg.c)),(30,iV x.nx[i].length),(31,iV 0)])
  (C:dF s av ((b,1,(List.range c0).map nC)::(M++[(v9,5,[])])) [(kf,[b]),(sg,[.mp u]),(mI,[vN,vF]),(iZ,[.psl (cls.map iC)])] u (kY GB (ua cls c0) 0))(ho:bJ R (.loop U.wP) e s=o):
  ∃(e':En) (s':HS) (av:aZ) (b v9:HV),o=.code (.exit 2) e' s'/\bH e' [(2,.aw x.c),(4,.ptr mI 0),(6,.ptr kf 0),(7,.fn 193 [] [.ptr sg 0,.ptr iZ 0,.ptr kf 0]),(8,iV i),(9,v9)]/\
   dF s' av ((b,1,(List.range (fW c0 x.nx[i])).map nC)::(M++[(v9,5,x.nx[i].map Eg.c)])) [(kf,[b]),(sg,[.mp u]),(mI,[vN,vF]),(iZ,[.psl (cls.map iC)])] u (kY GB (ua cls (fW c0 x.nx[i])) 0):=by
 have hn:=Y.n;have h8:=Y.row hi;refine ba ho x.nx[i].length
  (λk e s=>∃(av:aZ) (b v9:HV),bH e [(2,.aw x.c),(4,.ptr mI 0),(6,.ptr kf 0),(7,.fn 193 [] [.ptr sg 0,.ptr iZ 0,.ptr kf 0]),(8,iV i),(9,v9),(29,.psl (x.nx[i].map Eg.c)),(30,iV x.nx[i].length),(31,iV k)]/\
   dF s av ((b,1,(List.range (fW c0 (x.nx[i].take k))).map nC)::(M++[(v9,5,(x.nx[i].take k).map Eg.c)])) [(kf,[b]),(sg,[.mp u]),(mI,[vN,vF]),(iZ,[.psl (cls.map iC)])] u (kY GB (ua cls (fW c0 (x.nx[i].take k))) 0))
  (λo=>∃(e':En) (s':HS) (av:aZ) (b v9:HV),o=.code (.exit 2) e' s'/\bH e' [(2,.aw x.c),(4,.ptr mI 0),(6,.ptr kf 0),(7,.fn 193 [] [.ptr sg 0,.ptr iZ 0,.ptr kf 0]),(8,iV i),(9,v9)]/\
   dF s' av ((b,1,(List.range (fW c0 x.nx[i])).map nC)::(M++[(v9,5,x.nx[i].map Eg.c)])) [(kf,[b]),(sg,[.mp u]),(mI,[vN,vF]),(iZ,[.psl (cls.map iC)])] u (kY GB (ua cls (fW c0 x.nx[i])) 0))
  0 (by omega) ⟨av,b,v9,d,by simpa[fW]using C⟩
  (λk e s r E ⟨av,b,v9,d,C⟩ I=>by
   have h2:(k:Int)<x.nx[i].length:=by omega
   have J:=aR E;have h3:=Y.to _ (cp hi) _ (cp E);have hle:=hb k _ J;have h4:fW c0 (x.nx[i].take k)<=x.nx.length:=fz (z6 _ _ _) h1;have h5:(x.nx[i].map Eg.c)[k]?=some (x.nx[i][k]).c:=by rw[fR,J];rfl
   have z:fW c0 (x.nx[i].take (k+1))=if(x.nx[i][k]).to=fW c0 (x.nx[i].take k)then fW c0 (x.nx[i].take k)+1 else fW c0 (x.nx[i].take k):=by rw[fC E,tj];rfl
   have h6:x.nx[i].take (k+1)=x.nx[i].take k++[x.nx[i][k]]:=fC E;generalize he:x.nx[i][k]=ed at*;generalize hc:fW c0 (x.nx[i].take k)=c at*;have A:=C.ds ed.c;have d1:=(A.k.bD 0 _ _ rfl).1.1;generalize O:HS.mk _ _ _ _=S1 at A d1;obtain⟨s2,h7,q,w,t⟩:=Zi Z hn D (a:=1) (p:=ed.to) h3 hle h4 A rfl rfl (sg:=sg) (iZ:=iZ) (by simp) (by simp);simp only[aQ,cd]at t;rw[<-z]at t;have d2:=(t.k.bD 0 _ _ rfl).1.1;have hg:((q,1,(List.range (fW c0 (x.nx[i].take (k+1)))).map nC)::(M++[(v9,5,(x.nx[i].take k).map Eg.c)]))[M.length+1]?=some (v9,5,(x.nx[i].take k).map Eg.c):=by simp
   obtain⟨B,s3,P,a3,k3,V⟩:=t.append (M.length+1) hg (new:=[ed.c]) (Sz.cons rfl Sz.nil) (by simp) (bw:=3518437208883) (by simp;omega);have X:((q,1,(List.range (fW c0 (x.nx[i].take (k+1)))).map nC)::(M++[(v9,5,(x.nx[i].take k).map Eg.c)])).set (M.length+1) (B,5,(x.nx[i].take k).map Eg.c++[ed.c])=(q,1,(List.range (fW c0 (x.nx[i].take (k+1)))).map nC)::(M++[(B,5,(x.nx[i].take (k+1)).map Eg.c)]):=by rw[h6];simp
   rw[X]at V;have hw:=bo (n:=6000) (show k<6000 by omega) (by omega);simp only[ab,ae]at d;simp only[Eg.c,az,aE,bF,Nat.reduceAdd,iV]at d1 d2 O h5 w a3;simp[U.wP,d,E,h2,he,O,d1,d2,ai,an,ao,w,a3,hw]at I;subst I;exact .inl ⟨_,_,rfl,P,q,B,by simp[d],V.tail⟩)
  (λe s r ⟨av,b,v9,d,C⟩ I=>by
   simp only[ab,ae]at d;simp[U.wP,d]at I;subst I;rw[my]at C;exact⟨by simp,_,_,av,b,v9,rfl,by simp[d],C⟩)
def Zk{x:Fa}(hx:cf x){cls:aY}(h6:cls.length=x.nx.length)(J:∀i j:Nat,i<x.nx.length->j<x.nx.length->cls.getD i 0=cls.getD j 0->i=j){c:Nat->Nat}(c0:c 0=1)(cn:c x.nx.length=x.nx.length)
  (hb:∀i,i<x.nx.length->i<c i/\c i<=x.nx.length/\c (i+1)=fW (c i) (x.nx.getD i [])/\∀k e,(x.nx.getD i [])[k]?=some e->e.to<=fW (c i) ((x.nx.getD i []).take k))
  {e:En}{s:HS}{o:Out}{sg iZ kf mI A:Ky}{d:HV}{av:aZ}
  (w:bH e [(2,.aw x.c),(4,.ptr mI 0),(6,.ptr kf 0),(7,.fn 193 [] [.ptr sg 0,.ptr iZ 0,.ptr kf 0]),(8,iV 0)])
  (q:dF s av [(d,1,(List.range 1).map nC),(.ah,1,[]),(.ah,1,[])] [(kf,[d]),(sg,[.mp A]),(mI,[.ah,.ah]),(iZ,[.psl (cls.map iC)])] A (kY GB (ua cls 1) 0))(ho:bJ R (.loop U.wQ) e s=o):
  ∃(e':En) (s':HS) (av:aZ) (d vN vF:HV) (aA:cE),o=.code (.exit 0) e' s'/\bH e' [(4,.ptr mI 0)]/\
   dF s' av ((d,1,(List.range x.nx.length).map nC)::(vN,1,aA.map gw)::(vF,1,x.fi.map bC)::aA) [(kf,[d]),(sg,[.mp A]),(mI,[vN,vF]),(iZ,[.psl (cls.map iC)])] A (kY GB (ua cls x.nx.length) 0)/\aA.map (·.2)=x.nx.map (λes=>(5,es.map Eg.c)):=by
 have hn:=hx.n;have h7:=hx.nf;have hf:=hx.pos;refine ba ho x.nx.length
  (λi e s=>∃(av:aZ) (d vN vF:HV) (aA:cE),bH e [(2,.aw x.c),(4,.ptr mI 0),(6,.ptr kf 0),(7,.fn 193 [] [.ptr sg 0,.ptr iZ 0,.ptr kf 0]),(8,iV i)]/\
   dF s av ((d,1,(List.range (c i)).map nC)::(vN,1,aA.map gw)::(vF,1,(x.fi.take i).map bC)::aA) [(kf,[d]),(sg,[.mp A]),(mI,[vN,vF]),(iZ,[.psl (cls.map iC)])] A (kY GB (ua cls (c i)) 0)/\aA.map (·.2)=(x.nx.take i).map (λes=>(5,es.map Eg.c))/\aA.length=i)
  (λo=>∃(e':En) (s':HS) (av:aZ) (d vN vF:HV) (aA:cE),o=.code (.exit 0) e' s'/\bH e' [(4,.ptr mI 0)]/\
   dF s' av ((d,1,(List.range x.nx.length).map nC)::(vN,1,aA.map gw)::(vF,1,x.fi.map bC)::aA) [(kf,[d]),(sg,[.mp A]),(mI,[vN,vF]),(iZ,[.psl (cls.map iC)])] A (kY GB (ua cls x.nx.length) 0)/\aA.map (·.2)=x.nx.map (λes=>(5,es.map Eg.c)))
  0 (by omega) ⟨av,d,.ah,.ah,[],w,by rw[c0];simpa using q,by simp,rfl⟩
  (λi e s r E ⟨av,d,vN,vF,aA,w,q,hI,O⟩ B=>by
   obtain⟨P,hq,z,V⟩:=hb i E;rw[getD_at E]at z V;have hs:(i:Int)<x.nx.length:=by omega
   have X:(i:Int)<c i:=by omega
   have Y:c (i+1)<=x.nx.length:=by
    by_cases hl:i+1<x.nx.length
    .exact(hb (i+1) hl).2.1
    rw[show i+1=x.nx.length by omega,cn];exact aW _
   obtain⟨of,rfl⟩:=(q.k.mem.own 0 _ _ _ rfl).gw (by intro h;have:=cC List.length h;simp at this;omega);rw[bG,BO]at q;have I:=(q.k.bD 0 _ _ rfl).1.1;have g1:=gX (q.k.mem.own 0 _ _ _ rfl) (i:=i) (by simpa using P);rw[BN]at g1;have hg:(x.nx.map nW)[i]?=some [.psl (x.nx[i].map Eg.c)]:=by rw[fR,aR E];rfl
   have hw:=bo (n:=400) (show i<400 by omega) (by omega);simp only[ab,ae]at w;simp only[az,aE,bF]at I;simp[U.wQ,w,I,P,X,E,g1]at B;generalize ho:bJ R (.loop U.wP) _ _=o at B;have Z:=q.push 5;simp only[bx]at Z;obtain⟨e2,s2,hj,ht,v9,rfl,C,b⟩:=Zj hx h6 J E (c0:=c i) (by rw[<-z];exact Y) V (M:=(vN,1,aA.map gw)::(vF,1,(x.fi.take i).map bC)::aA) (sg:=sg) (iZ:=iZ) (kf:=kf) (mI:=mI) (v9:=.ah) (by simp[w]) Z ho;clear ho;rw[<-z]at b;simp only[bx]at b;have t:i<c (i+1):=by have:=z6 (c i) x.nx[i] 0;simp only[List.take_zero]at this;have h2:fW (c i) []=c i:=rfl;rw[z];omega
   have h8:(i:Int)<c (i+1):=by omega
   obtain⟨h9,rfl⟩:=(b.k.mem.own 0 _ _ _ rfl).gw (by intro h;have:=cC List.length h;simp at this;omega);rw[bG,BO]at b;have c8:cellsOf v9=some [v9]:=(b.k.mem.own (aA.length+3) v9 5 _ (by simp;rfl)).one;have f1:=(b.k.bD 0 _ _ rfl).1.1;have f2:=(b.k.bD 2 _ _ rfl).1.1;have g2:=gX (b.k.mem.own 0 _ _ _ rfl) (i:=i) (by simpa using t);rw[BN]at g2;obtain⟨ha,s3,hk,a3,k3,u⟩:=b.append 1 rfl (new:=[[v9]]) (Sz.cons rfl Sz.nil) (by simp) (bw:=5864062014805) (by simp;omega);simp only[cd,aQ]at u;have f3:=(u.k.bD 0 _ _ rfl).1.1;have f4:=(u.k.bD 2 _ _ rfl).1.1;have g3:=gX (u.k.mem.own 0 _ _ _ rfl) (i:=i) (by simpa using t);rw[BN]at g3;have h1:i<x.fi.length:=by omega
   have hp:(i:Int)<x.fi.length:=by omega
   obtain⟨hd,s4,h3,a4,k4,h4⟩:=u.append 2 rfl (new:=[bC x.fi[i]]) (Sz.cons rfl Sz.nil) (by simp) (bw:=140737488355328) (by simp;omega);simp only[cd,aQ]at h4;obtain⟨s5,b5,h5⟩:=h4.xV (a:=2) rfl 0 (by simp) k3;simp only[cd,aQ]at h5;obtain⟨s6,b6,D⟩:=h5.xV (a:=2) rfl 1 (by simp) k4;simp only[cd,aQ]at D;simp only[bC]at a4;simp only[az,aE,bF,Nat.reduceAdd]at f1 f2 f3 f4;simp only[ab,ae]at C;simp[C,f1,f2,f3,f4,g2,g3,t,h1,c8,a3,a4,b5,b6,hw]at B;subst B;refine .inl ⟨_,_,rfl,h3,.sl h9 0 (c (i+1)) 1,ha,hd,aA++[(v9,5,x.nx[i].map Eg.c)],by simp[C],?_,?_,by simp[O]⟩
   .rw[show aA.map gw++[[v9]]=(aA++[(v9,5,x.nx[i].map Eg.c)]).map gw by simp,show(x.fi.take i).map bC++[bC x.fi[i]]=(x.fi.take (i+1)).map bC by rw[fC h1,fB];rfl]at D;exact D
   rw[fC E,fB,fB,hI];rfl)
  (λe s r ⟨av,d,vN,vF,aA,w,q,hI,O⟩ B=>by
   rw[cn]at q;obtain⟨of,rfl⟩:=(q.k.mem.own 0 _ _ _ rfl).gw (by intro h;have:=cC List.length h;rw[bG,BO]at this;simp only[aE]at this;omega);have I:=(q.k.bD 0 _ _ rfl).1.1;rw[bG,BO]at I;simp only[ab,ae]at w;simp only[az,aE,bF]at I;simp[U.wQ,w,I]at B;subst B;rw[my]at hI;rw[show x.fi.take x.nx.length=x.fi by rw[h7,my]]at q;exact⟨by simp,_,_,av,_,vN,vF,aA,rfl,by simp[w],q,hI⟩)
def Zl(x:Fa)(hx:cf x)(E:Dj x){cls:aY}(I:cls.length=x.nx.length)(A:∀i j:Nat,i<x.nx.length->j<x.nx.length->cls.getD i 0=cls.getD j 0->i=j):fL U.f201 R [.agg x.c,.psl (cls.map iC)]=true/\∀s,R (.call 175 [.agg x.c,.psl (cls.map iC)] s)=.val (.agg x.c) s:=by
 have hn:=hx.n;have J:=hx.pos;obtain⟨c,c0,cn,hb⟩:=E.bfs;generalize D:bJ R U.RI (bb [.agg x.c,.psl (cls.map iC)] 0) s0=r
 suffices h:n5 [.cell 4 (some 2)] r=some (.agg x.c)/\Tl [.cell 4 (some 2)] r=true by obtain⟨h,hf⟩:=h;rw[<-D]at h hf;exact⟨by rw[pz];exact hf,λs=>aeT h⟩
 have h0:aG s0 (λ_=>none) [] []:=⟨dR.start (by simp),by simp,by simp⟩;generalize hl:s0=S0 at h0 D;have M:=h0.ds [.psl (cls.map iC)];generalize O:HS.mk _ _ _ _=S1 at M;have P:=M.ds [.ah,.ah];generalize V:HS.mk _ _ _ _=S2 at P;have X:=P.mkm;generalize ha:HS.mk _ _ _ _=S3 at X;have Y:=X.ds [.fK];generalize Z:HS.mk _ _ _ _=S4 at Y;obtain⟨s5,b5,h1⟩:=Y.xV (a:=0) rfl 0 (by simp) (x:=.mp S2.nx) rfl;simp only[aQ]at h1;have B:=(h1.ds [.ah]).push 1;generalize h3:HS.mk _ _ _ _=S6 at B;simp only[bA]at B;obtain⟨s7,hj,vf,d,h5⟩:=Zi (L:=[(.ah,1,[])]) I hn A (c:=0) (p:=0) (a:=0) (sg:=S3.nx) (iZ:=S0.nx) J (aW _) (by omega) (by simpa[ua,kY]using B) rfl rfl (by simp) (by simp);simp only[aQ,bj,bF]at h5;have h6:=(h5.push 1).push 1;simp only[bx,bA]at h6;have d5:=gT b5 rfl;have d:R (.call 193 [.int .i64 0,.ptr S3.nx 0,.ptr S0.nx 0,.ptr s5.nx 0] S6)=.val (.int .i64 0) s7:=d;simp only[az,aE,bF,Nat.reduceAdd]at O V Z h3;simp[U.RI,O,V,ha,Z,b5,h3,d]at D;generalize ho:bJ R (.loop U.wQ) _ _=o at D;obtain⟨e9,s9,h7,hp,vN,vF,aA,rfl,z,q,hI⟩:=Zk hx I A c0 cn hb (sg:=S3.nx) (iZ:=S0.nx) (kf:=s5.nx) (mI:=S1.nx) (by simp) h6 ho;clear ho;have cN:cellsOf vN=some [vN]:=(q.k.mem.own 1 _ _ _ rfl).one;have cF:cellsOf vF=some [vF]:=(q.k.mem.own 2 _ _ _ rfl).one;have hC:=(q.k.bD 2 _ _ rfl).1.1;obtain⟨h8,FJ,b⟩:=q.k.put (a:=2) rfl (v:=.agg [vN,vF]) (new:=[vN,vF]) (by simp) rfl;simp only[cd,aQ]at b;have hE:=(b.bD 2 _ _ rfl).1.1;simp only[az,aE,bF,Nat.reduceAdd]at FJ hE hC;simp only[ab,ae]at z;simp[z,hC,ao,FJ]at D;subst D;have t:∀k,(C:k<aA.length)->∃u:k<x.nx.length,aA[k].2=(5,(x.nx[k]).map Eg.c)/\ck h8 aA[k].1 5 (λp=>h7 p=some (k+3)) ((x.nx[k]).map Eg.c):=by
  intro k C;have h2:=cC (λl=>l[k]?) hI;simp[C]at h2;have hlen:aA.length=x.nx.length:=by have:=cC List.length hI;simpa using this
  have u:k<x.nx.length:=by omega
  have h4:aA[k].2=(5,(x.nx[k]).map Eg.c):=by simp[u]at h2;exact h2.symm▸rfl
  exact⟨u,h4,b.mem.own (k+3) aA[k].1 5 ((x.nx[k]).map Eg.c) (by simp[C];rw[<-h4])⟩
 refine⟨?_,rW (v:=.agg [vN,vF]) (s':=h8) (by simp[z,hE,ao]) (Nd λv hv=>?_)⟩
 .simp[z,hE,ao];refine aH (.agg (.cons ?_ (.cons ?_ .nil)))
  .have hd:=((b.mem.own 1 _ _ _ rfl).vwH (f:=λe:xI=>e.1) (g:=λe:xI=>HV.psl e.2.2) (n:=14) (λy hy=>?_))
   .have:aA.map (λx=>[HV.psl x.2.2])=x.nx.map nW:=by
     have h:=cC (List.map λ(p:Nat×List aj)=>[HV.psl p.2]) hI;have h9:nW=λx:bq=>[HV.psl (List.map Eg.c x)]:=rfl
     rw[h9];simpa[Function.comp_def]using h
    rw[<-this];exact hd
   obtain⟨k,C,rfl⟩:=eH.1 hy;obtain⟨u,h4,w⟩:=t k C;rw[h4];exact w.vw (by simp)
  exact(b.mem.own 2 _ _ _ rfl).vw (by simp)
 rcases bk.1 hv with rfl|hv
 .refine zW (b.mem.own 1 _ _ _ rfl) λc E=>?_
  have hg:aB (aA.map gw)=aA.map (·.1):=by
   clear q b hI t E
   induction aA with|nil=>rfl|cons a l ih=>rw[cx,cV,ih];rfl
  rw[hg]at E;obtain⟨y,hy,rfl⟩:=dt.1 E;obtain⟨k,C,rfl⟩:=eH.1 hy;obtain⟨u,h4,w⟩:=t k C;exact pX w (Kc _)
 rw[dq.1 hv];exact pX (b.mem.own 2 _ _ _ rfl) (Gq _)
open Classical in
def agP(l:ft)(d:l.length<=6000)(s:HS):R (.call 134 [.psl (l.map Ei.c)] s)=.val (.bool (!decide (qQ l))) s:=by
 refine aef ?_;have h:=agl l d;by_cases b:qQ l
 .simp only[b,eO]at h;simp[U.QS,h,b,aa]
 simp only[b,kJ]at h;simp[U.QS,h,b,aa]
open Classical in
def Zm(x:Ax)(z:mw x)(s:HS):R (.call 165 [.psl (x.nx.map yC),.fn 134 [] []] s)=.val (iV (yZ (λl:ft=> !decide (qQ l)) x.nx)) s:=by
 refine XZ ?_ rfl (by simp[dX]);have M:=z.n;simp[U.Rz];generalize A:bJ R (.loop U.ns) _ _=o;have B:=jJ A x.nx.length (λi=>∀h:i<x.nx.length,qQ x.nx[i]) (λi=>[(0,.psl (x.nx.map yC)),(1,.fn 134 [] []),(7,iV x.nx.length),(8,iV i)]) [] 0 (λi o=>∃u,o=.code .ret u s0/\look u 4=some (iV i)) (by simp)
  (λi e r c d k=>by
   have q:(i:Int)<x.nx.length:=by omega
   have b:=agP x.nx[i] (z.row (aR c));simp only[ab,ae]at d;by_cases w:qQ x.nx[i]
   .simp only[w,eO,nV]at b;simp[U.ns,d,c,q,b,bo (n:=6000) (show i<6000 by omega) (by omega)]at k;subst k;exact .inl ⟨λ_=>w,_,rfl,by simp[d]⟩
   simp only[w,kJ,xT]at b;simp[U.ns,d,c,q,b]at k;subst k;exact .inr ⟨λh=>w (h c),by simp,_,rfl,by simp⟩)
  (λe r d k=>by
   simp only[ab,ae]at d;simp[U.ns,d]at k;subst k;exact⟨_,rfl,by simp⟩)
 clear A;rcases B with⟨i,c,C,D,u,rfl,E⟩|⟨t,u,rfl,_⟩
 .have I:¬qQ x.nx[i]:=λh=>D λ_=>h
  rw[vj (p:=λl:ft=> !decide (qQ l)) c (λj J=>by simpa using C j J (by omega)) (by simpa using I)];simp[E,aa]
 rw[mG (p:=λl:ft=> !decide (qQ l)) (λi c=>by simpa using t i c c)];simp[aa]
open Classical in
def Zn(x:Ax)(b:mw x)(s:HS):R (.call 138 [.psl (x.nx.map yC),.fn 134 [] []] s)=.val (.bool (x.nx.any λl=> !decide (qQ l))) s:=by refine XY ?_ rfl (by simp[dX]);have h:=Zm x b;simp only[iV]at h;rw[<-xZ];simp[U.QV,h,aa]
def Kr(l:bq):qQ (l.map Eg.i)↔uB l:=by unfold qQ uB;simp only[bG,Bu,Eg.i]
open Classical in
def Nk(x:Fa):(x.i.nx.any λl=> !decide (qQ l))= !decide (sZ x):=by
 by_cases b:sZ x
 .rw[ey b,nV,xJ];intro l c;obtain⟨k,d,rfl⟩:=dt.1 c;simp[(Kr k).2 (b k d)]
 rw[ef b,xT,sF];obtain⟨l,c⟩:=Classical.not_forall.1 b;obtain⟨d,q⟩:=Classical.not_imp.1 c;exact⟨l.map Eg.i,dt.2 ⟨l,d,rfl⟩,by simp[mt (Kr l).1 q]⟩
def gU{s s':HS}{o:Ky}{k n:Nat}{v:HV}{l:aj}(h:pR n (some (.ptr o k)) (some v) s=.v .undef s')(c:cellsOf v=some l)(d:l.length=n):jX s (ak s.h o) o k l=some s':=by
 rw[iO,c]at h;simp only[dG,d,bj,kR]at h;cases b:jX s (ak s.h o) o k l with
 |none=>rw[b]at h;cases h
 |some s2=>rw[b]at h;cases h;rfl
def z7{x:Fa}{cls:aY}{m:Mv}{P:Eg->Bool}:∀{l l':bq},l.map (λe=>(e.m,cls.getD e.to 0))=l'.map (λe=>(e.m,cls.getD e.to 0))->(∀e∈l,P e=decide (e.m=m))->(∀e∈l',P e=decide (e.m=m))->
  match l.find? P,l'.find? P with|none,none=>True|some e,some k=>cls.getD e.to 0=cls.getD k.to 0/\e∈l/\k∈l'|_,_=>False
 |[],[],_,_,_=>trivial
 |[],b::l',h,_,_=>by cases h
 |a::l,[],h,_,_=>by cases h
 |a::l,b::l',h,q,r=>by
  rw[cx,cx]at h;injection h with u w
  injection u with z A
  have c:=z7 (x:=x) (m:=m) (P:=P) w (λe d=>q e (by simp[d])) (λe d=>r e (by simp[d]));rw[ti,ti,q a (by simp),r b (by simp),z];by_cases t:b.m=m
  .simp only[t,eO];exact⟨A,by simp⟩
  simp only[t,kJ];cases B:l.find? P<;>cases C:l'.find? P<;>rw[B,C]at c
  .exact c
  .exact c
  .exact c
  exact⟨c.1,by simp[c.2.1,c.2.2]⟩
def Dt{x:Fa}(r:cf x)(B:Dj x){cls:aY}(z:r6 x cls λp=>p<x.nx.length):∀i j:Nat,i<x.nx.length->j<x.nx.length->cls.getD i 0=cls.getD j 0->i=j:=by
 intro i j C D t;have E:=r.nf;refine B.inj (λa b=>a<x.nx.length/\b<x.nx.length/\cls.getD a 0=cls.getD b 0) ⟨λa b ⟨k,q,d⟩=>?_,λa b ⟨k,q,d⟩ m=>?_⟩ i j ⟨C,D,t⟩
 .have c:=(z.eq a b k q d).1;rw[getD_at (by omega),getD_at (by omega)]at c;exact⟨k,q,by rw[aR (by omega),aR (by omega),c],by rw[yc,yc,ar k,ar q]⟩
 have A:∀p,∀e∈x.nx.getD p [],gQ (List.replicate x.nx.length true) m e=decide (e.m=m):=by intro p e t;have:=jt r p e t;unfold gQ;rw[eD,yc,ar this];simp
 have c:=z7 (x:=x) (m:=m) (z.eq a b k q d).2 (A a) (A b);cases u:(x.nx.getD a []).find? (gQ (List.replicate x.nx.length true) m)<;>cases w:(x.nx.getD b []).find? (gQ (List.replicate x.nx.length true) m)<;>rw[u,w]at c
 .trivial
 .exact c
 .exact c
 exact⟨jt r a _ c.2.1,jt r b _ c.2.2,c.1⟩
def agQ(x:Fa)(A:cf x)(hs:Ff x)(d:x=lD∨Dj x)(hq:x.nx.length<=24){s:HS}{av:aZ}{vN vF:HV}(h:aG s av [(vF,1,x.fi.map bC),(vN,1,x.nx.map nW)] []):
  ∃s',R (.call 140 [.agg [vN,vF]] s)=.val (.agg x.c) s':=by
 have hn:=A.n;have ht:=A.nf;have hy:=A.pos;obtain⟨t,rfl⟩:=(h.mem.own 1 _ _ _ rfl).gw (by intro h;have:=cC List.length h;rw[bG]at this;simp only[aE]at this;omega);obtain⟨w,rfl⟩:=(h.mem.own 0 _ _ _ rfl).gw (by intro h;have:=cC List.length h;rw[bG]at this;simp only[aE]at this;omega);rw[bG,bG,<-ht]at h;rw[bG,bG,<-ht];obtain⟨u,h4,h5,k0⟩:=agC x A;have kj:=h4.1;have q:∀{S:HS} {av:aZ} {K:dv},aG S av [(.sl w 0 x.nx.length 1,1,x.fi.map bC),(.sl t 0 x.nx.length 1,1,x.nx.map nW)] K->Vw S 16 (.agg [.sl t 0 x.nx.length 1,.sl w 0 x.nx.length 1]) (.agg x.c):=λh=>.agg (.cons ((h.mem.own 1 _ _ _ rfl).vw (n:=13) (pj _)) (.cons ((h.mem.own 0 _ _ _ rfl).vw (n:=13) (MR _)) .nil))
 have J:=h.ds [.ah,.ah];generalize h6:HS.mk _ _ _ _=B at J;have V:R (.call 169 [.agg [.sl t 0 x.nx.length 1,.sl w 0 x.nx.length 1]] B)=.val (.psl (u.map bC)) B:=aeL (by simp[cj,bV]) (.cons (q J) .nil) (by simp) h5 k0;have kk:=J.ds [.psl (u.map bC)];have hz:=J.ds [.ah];have dz:=(hz.bD 0 _ _ rfl).1.1;obtain⟨s3,b3,M⟩:=hz.xV (a:=0) rfl 0 (by simp) (x:=.psl (u.map bC)) rfl;simp only[aQ]at M;generalize h7:HS.mk (ax (some (.cells (cM [HV.ah]) 0 [HV.ah].length B.nx)) B.nx B.h) _ _ _=S2 at hz dz b3;have d3:=(M.bD 0 _ _ rfl).1.1;have u0:0<u.length:=by omega
 simp only[az,aE,bF,Nat.reduceAdd]at h6 h7 d3 dz;have h8:=gT b3 rfl;rw[dz]at h8;have k1:∃O s',ev R U.Js (bb [.agg [.sl t 0 x.nx.length 1,.sl w 0 x.nx.length 1]] 0) s=.code .ret O s'/\look O 2=some (.ptr s.nx 0)/\∃av K,aG s' av [(.sl w 0 x.nx.length 1,1,x.fi.map bC),(.sl t 0 x.nx.length 1,1,x.nx.map nW)] ((B.nx,[.psl (u.map bC)])::(s.nx,x.c)::K):=by
  generalize z:ev R U.Js (bb [.agg [.sl t 0 x.nx.length 1,.sl w 0 x.nx.length 1]] 0) s=r;rcases d with C|d
  .have h9:u[0]=false:=by
    cases hb:u[0]
    .rfl
    exfalso;have:=(h4.2 0).1 (by rw[aR u0,hb]);rw[C]at this;cases this with
    |fin hf=>simp[lD]at hf
    |HN hl he _=>simp[lD]at hl;subst hl;cases he
   have D:=agD;rw[<-C]at D;obtain⟨P,b4,k⟩:=M.put (a:=1) rfl (v:=.agg x.c) (new:=x.c) (by simp[cellsOf]) rfl;simp only[aQ,cd]at k;have k2:=gU (l:=x.c) b4 rfl rfl;simp only[az,aE,bF,Nat.reduceAdd,Fa.c]at b4 k2;simp only[Fa.c]at D;simp[U.Js,h6,V,h7,h8,d3,u0,h9,D,k2]at z;subst z;exact⟨_,P,rfl,by simp,_,[],k⟩
  have E:∀i,i<x.nx.length->u[i]?=some true:=λi X=>(h4.2 i).2 (d.live i X)
  have h9:u[0]=true:=by have:=E 0 hy;rw[aR u0]at this;exact lz this
  simp[U.Js,h6,V,h7,h8,d3,u0,h9]at z;generalize ho:ev R (.loop U.A3) _ _=o at z;have ha:∃(O:En) (s':HS) (av:aZ),o=.code (.exit 0) O s'/\bH O [(1,.aw [.sl t 0 x.nx.length 1,.sl w 0 x.nx.length 1]),(2,.ptr s.nx 0),(3,.ptr B.nx 0)]/\
    aG s' av [(.sl w 0 x.nx.length 1,1,x.fi.map bC),(.sl t 0 x.nx.length 1,1,x.nx.map nW)] [(B.nx,[.psl (u.map bC)]),(s.nx,[.ah,.ah])]:=by
   refine eU ho x.nx.length
    (λi e s'=>∃av,bH e [(1,.aw [.sl t 0 x.nx.length 1,.sl w 0 x.nx.length 1]),(2,.ptr s.nx 0),(3,.ptr B.nx 0),(16,iV x.nx.length),(17,iV i)]/\
     aG s' av [(.sl w 0 x.nx.length 1,1,x.fi.map bC),(.sl t 0 x.nx.length 1,1,x.nx.map nW)] [(B.nx,[.psl (u.map bC)]),(s.nx,[.ah,.ah])])
    (λo=>∃(O:En) (s':HS) (av:aZ),o=.code (.exit 0) O s'/\bH O [(1,.aw [.sl t 0 x.nx.length 1,.sl w 0 x.nx.length 1]),(2,.ptr s.nx 0),(3,.ptr B.nx 0)]/\
     aG s' av [(.sl w 0 x.nx.length 1,1,x.fi.map bC),(.sl t 0 x.nx.length 1,1,x.nx.map nW)] [(B.nx,[.psl (u.map bC)]),(s.nx,[.ah,.ah])])
    0 (by omega) ⟨_,by simp,M⟩
    (λi e s' r X ⟨av,hL,hM⟩ z=>by
     have k9:(i:Int)<x.nx.length:=by omega
     have ka:=A.row X;have dc:=(hM.bD 0 _ _ rfl).1.1;have g1:eG (ak s'.h t) i=some (.psl (x.nx[i].map Eg.c)):=by rw[(hM.mem.own 1 _ _ _ rfl).cell i (by simpa using X)];simp
     have k3:=YY u x.nx[i] ka (λe he=>E _ (A.to _ (cp X) e he)) dc;obtain⟨o1,P,q1,q2,k⟩:=hM.iY 1 rfl i (by simpa using X) (x:=.psl (x.nx[i].map Eg.c)) rfl;simp[X]at q1;obtain rfl:=q1;simp only[aQ,cd,iu]at k q2;have q3:=gT q2 rfl;have k4:(x.nx.map nW).set i [.psl (x.nx[i].map Eg.c)]=x.nx.map nW:=by
      refine qi (by simp) λj h1 h2=>?_
      by_cases k5:i=j
      .subst k5;simp
      rw[Ks k5]
     rw[k4]at k;have hw:=bo (n:=400) (show i<400 by omega) (by omega);simp only[ab,ae]at hL;simp[U.A3,hL,X,k9,g1,k3,q3,hw]at z;subst z;exact .inl ⟨_,_,rfl,av,by simp[hL],k⟩)
    (λe s' r ⟨av,hL,hM⟩ z=>by
     simp only[ab,ae]at hL;simp[U.A3,hL]at z;subst z;exact⟨by simp,_,_,av,rfl,by simp[hL],hM⟩)
  obtain⟨e4,P,ke,rfl,I,k⟩:=ha;obtain⟨Y,b,kb,hd,k6⟩:=agO x A hs d hq;obtain⟨Z,kc,hg,k7⟩:=agL x A hs;have kg:da [HV.agg x.c]=true:=by simp
  have h3:R (.call 173 [.agg [.sl t 0 x.nx.length 1,.sl w 0 x.nx.length 1]] P)=.val (.bM [.psl (Y.map iC),.bool b]) P:=aeQ (by simp[cj,bV]) (.cons (q k) .nil) (by simp) hd k6;have k8:R (.call 174 [.agg [.sl t 0 x.nx.length 1,.sl w 0 x.nx.length 1]] P)=.val (.psl (Z.map iC)) P:=aeS (by simp[cj,bV]) (.cons (q k) .nil) (by simp) hg k7;have a201:∀hj:aY,(r6 x hj λp=>p<x.nx.length)->R (.call 175 [.agg [.sl t 0 x.nx.length 1,.sl w 0 x.nx.length 1],.psl (hj.map iC)] P)=.val (.agg x.c) P:=λhj hG=>aeU (by simp[cj,bV]) (.cons (q k) (.cons (.data (by simp)) .nil)) (by simp) (Zl x A d hG.len (Dt A d hG)).1 (Zl x A d hG.len (Dt A d hG)).2
  obtain⟨s5,b5,hk⟩:=k.put (a:=1) rfl (v:=.agg x.c) (new:=x.c) (by simp[cellsOf]) rfl;simp only[aQ,cd]at hk;have hp:=gU (l:=x.c) b5 rfl rfl;simp only[az,aE,bF,Nat.reduceAdd,Fa.c]at b5 hp;simp only[Fa.c]at a201;simp only[ab,ae]at I;cases b
  .have a201:=a201 Y (kb rfl);simp[I,h3,a201,hp]at z;subst z;exact⟨_,s5,rfl,by simp[I],_,[],hk⟩
  have a201:=a201 Z kc;simp[I,h3,k8,a201,hp]at z;subst z;exact⟨_,s5,rfl,by simp[I],_,[],hk⟩
 obtain⟨O,s',hE,h2,ki,K',kd⟩:=k1;have hC:=(kd.bD 1 _ _ rfl).1.1;simp only[az,aE,bF,Nat.reduceAdd,Fa.c]at hC;exact⟨s',ael rfl ⟨.ret,_,s',hE,.inr rfl,by simp[h2,hC,ao]⟩⟩
def agR(x:Fa)(r:cf x)(J:sZ x)(B:gK x=x)(O:Ff x)(w:x.nx.length<=24)(s:HS):R (.call 118 [.agg x.c] s)=.val (iV 0) s:=by
 refine ad1 ?_;have z:=Tj r J B;have k:=agu x.i r.ok;have b:=ags x.i r.ok;have q:=Zn x.i r.ok;have d:=agy x.i x.i r.ok;simp only[Nk,J,eO,nV]at q;simp only[eO]at d;have A:lU x.i=true:=by unfold lU;simp only[bX];refine⟨by simp[Fa.i,r.pos],by simp[Fa.i,r.nf],λl B e P=>?_⟩;simp only[Fa.i,dt]at B;obtain⟨V,C,rfl⟩:=B;obtain⟨X,D,rfl⟩:=dt.1 P;have:=r.to V C X D;simp only[Eg.i,Fa.i,bG];omega
 rw[A]at b;have E:x.i.nx.map yC=x.nx.map nW:=by have M:=Fa.Yb x;simp only[Ax.c,Fa.c,qp,HV.psl.injEq,and_true]at M;exact M.1
 rw[E]at q;rw[Fa.Yb]at k b d;have h0:aG s0 (λ_=>none) [] []:=⟨dR.start (by simp),by simp,by simp⟩;obtain⟨vN,vF,Y,Z,K1,t,kN,kF,I⟩:=agF x r h0;obtain⟨s2,u⟩:=agQ x r O z w (av:=Z) (s:=Y) (vN:=vN) (vF:=vF) ⟨I.mem,by simp,by simp⟩;simp only[Fa.c]at k b d u t;simp[U.Wm,k,b,q,d,u,t,aa]
def Zo(row:aj)(x:Sn):Prop:=row=x.c∨(x.mn.op=[]/\row=[iV x.st,.ah,.bool x.mn.lost,.bool x.mn.forced,.bool x.mn.begun])
def Zp(row:aj)(x y:Sn)(d:Zo row x)(b:x.mn.op.length<=400)(s:HS):R (.call 71 [.agg row,.agg y.c] s)=.val (.bool (decide (x=y))) s:=by
 rcases d with rfl|⟨h0,rfl⟩
 .exact YK x y b s
 have h:=YK x y b s0;refine uD 71 U.f134 _ [.agg x.c,.agg y.c] _ s rfl rfl rfl ?_ (by simp[dX]) ?_ (by simp) h
 .have:=gi (y.mn.op.map Mv.c) (cq (λx=>by simp) _);simp[cj,bV,this,iV]
 have:=iw (y.mn.op.map Mv.c) (cq (λx=>by simp) _);simp[n9,nn,this,h0,iV]
def Zq(row:aj)(x:Mn):Prop:=row=x.c∨(x.op=[]/\row=[.ah,.bool x.lost,.bool x.forced,.bool x.begun])
def Ok(row:aj)(x:Mn)(b:Zq row x)(s:HS):R (.call 68 [.agg row] s)=.val (.bool x.over) s:=by
 rcases b with rfl|⟨h0,rfl⟩
 .exact YJ x s
 exact uD 68 U.f131 _ [.agg x.c] _ s rfl rfl rfl (by simp[cj,bV]) (by simp[dX]) (by simp[n9,nn,h0]) (by simp) (YJ x s0)
def Zr(a:Ar)(ok:dW a)(b:aI a=0)(row:aj)(x:Mn)(q:Zq row x)(d:x.op.length<=400)(m:Mv)(s:HS):R (.call 69 [.agg row,.agg a.c,.agg m.c] s)=.val (.bool (gS a x m)) s:=by
 rcases q with rfl|⟨h0,rfl⟩
 .exact YL a ok b x d m s
 have k:da a.c=true:=by simp
 refine uD 69 U.f132 _ [.agg x.c,.agg a.c,.agg m.c] _ s rfl rfl rfl ?_ (by simp[dX]) ?_ (by simp) (YL a ok b x d m s0)
 .have:=dy a.c k;simp only[cj,bV,this];simp[cj,bV]
 have:=kW a.c k;simp only[n9,nn,this];simp[n9,nn,h0]
def Zs(row:aj)(x:Mn)(k:Zq row x)(d:x.op.length<=400)(m:Mv)(b:de m=false->x.op≠ [])(s:HS):R (.call 70 [.agg row,.agg m.c] s)=.val (.agg (gp x m).c) s:=by
 rcases k with rfl|⟨h0,rfl⟩
 .exact YM x d m b s
 exact uD 70 U.f133 _ [.agg x.c,.agg m.c] _ s rfl rfl rfl (by simp[cj,bV]) (by simp[dX]) (by simp[n9,nn,h0]) (by simp) (YM x d m b s0)
def Kt(v:HV)(l:bc):Prop:=v=.psl (l.map Mv.c)∨(l=[]/\v=.ah)
def Ol(v b:HV)(l l':bc)(h:Kt v l)(d:Kt b l')(k:l.length<=400)(s:HS):R (.call 67 [v,b] s)=.val (.bool (decide (nH l=nH l'))) s:=by
 have h0:=agc l l' k;rcases h with rfl|⟨rfl,rfl⟩
 .rcases d with rfl|⟨rfl,rfl⟩
  .exact h0 s
  refine uD 67 U.f130 _ [.psl (l.map Mv.c),.psl []] _ s rfl rfl rfl ?_ (by simp[dX]) ?_ (by simp) (h0 s0)
  .have:=gi _ (pS l);simp[cj,bV,this]
  have:=iw _ (pS l);simp[n9,nn,this]
 rcases d with rfl|⟨rfl,rfl⟩
 .refine uD 67 U.f130 _ [.psl [],.psl (l'.map Mv.c)] _ s rfl rfl rfl ?_ (by simp[dX]) ?_ (by simp) (h0 s0)
  .have:=gi _ (pS l');simp[cj,bV,this]
  have:=iw _ (pS l');simp[n9,nn,this]
 exact uD 67 U.f130 _ [.psl [],.psl []] _ s rfl rfl rfl (by simp[cj,bV]) (by simp[dX]) (by simp[n9,nn]) (by simp) (h0 s0)
section
variable{y:Sn}
def agS{l:jL}{aq:aO}(E:aq.length=l.length)(I:∀i,(h:i<l.length)->Zo (aq[i]'(by omega)) l[i])(cU:∀x∈l,x.mn.op.length<=400)(Z:l.length<=3518437208883){e:En}{s:HS}{o:Out}{o8 o13:Ky}{v2 v3 v4 v5 v6 v7 v9 v10 v11 v12:HV}{F:bU}
  (d:bH e [(2,v2),(3,v3),(4,v4),(5,v5),(6,v6),(7,v7),(8,.sl o8 0 l.length 5),(9,v9),(10,v10),(11,v11),(12,v12),(13,.ptr o13 0),(14,.bool false),(15,iV 0)])
  (J:ck s (.sl o8 0 l.length 5) 5 F aq)(A:ak s.h o13=some (.cells (cM y.c) 0 5 o13))(M:bJ R (.loop U.zy) e s=o):
  ∃e',o=.code (.exit 4) e' s/\bH e' [(2,v2),(3,v3),(4,v4),(5,v5),(6,v6),(7,v7),(8,.sl o8 0 l.length 5),(9,v9),(10,v10),(11,v11),(12,v12),(13,.ptr o13 0),(14,.bool (l.any λx=>decide (x=y)))]:=by
 have O:=jJ M l.length (λ_=>True)
  (λi=>[(2,v2),(3,v3),(4,v4),(5,v5),(6,v6),(7,v7),(8,.sl o8 0 l.length 5),(9,v9),(10,v10),(11,v11),(12,v12),(13,.ptr o13 0),(14,.bool ((l.take i).any λx=>decide (x=y))),(15,iV i)])
  [(2,v2),(3,v3),(4,v4),(5,v5),(6,v6),(7,v7),(8,.sl o8 0 l.length 5),(9,v9),(10,v10),(11,v11),(12,v12),(13,.ptr o13 0),(14,.bool (l.any λx=>decide (x=y)))] 4 (λ_ _=>False) (by simpa using d)
  (λi e r t d b=>by
   have u:(i:Int)<l.length:=by omega
   have B:=bo (n:=3518437208883) (show i<3518437208883 by omega) (by omega);have w:((l.take (i+1)).any λx=>decide (x=y))=(((l.take i).any λx=>decide (x=y))||decide (l[i]=y)):=by rw[fC t,List.any_append];simp
   have q:=Zp aq[i] l[i] y (I i t) (cU _ (cp t));obtain⟨P,C,_,_,V⟩:=J.at (k:=.i64) i (by omega);have z:P=o8:=by simp[t]at C;exact C.symm
   subst z;simp only[ab,ae]at d;simp only[Sn.c,iV]at q A;cases D:(l.take i).any λx=>decide (x=y)
   .rw[D]at d w;simp[U.zy,d,t,u,B,V,A,ao,q]at b;subst b;exact .inl ⟨trivial,_,rfl,by simp[d,w]⟩
   rw[D]at d w;simp[U.zy,d,u,B]at b;subst b;exact .inl ⟨trivial,_,rfl,by simp[d,w]⟩)
  (λe r d b=>by
   simp only[ab,ae,my]at d;simp[U.zy,d]at b;subst b;exact⟨_,rfl,by simp[d]⟩)
 rcases O with⟨_,_,_,_,h⟩|⟨_,e',X,Y⟩
 .exact h.elim
 exact⟨e',X,Y⟩
end
def GC{a:Ar}{x:Mn}{m:Mv}(h:gS a x m=true)(b:de m=false):x.op≠ []:=by intro h0;unfold gS at h;rw[h0,b]at h;simp at h
def yg(l:jL)(b:Sn)(e:Eg):jL:=
 if l.any λx=>decide (x=⟨e.to,gp b.mn e.m⟩)then l else l++[⟨e.to,gp b.mn e.m⟩]
def jo(b:Sn)(l:jL)(es:bq):jL:=es.foldl (λl e=>yg l b e) l
def HZ(b:Sn)(l:jL)(es:bq)(e:Eg):jo b l (es++[e])=yg (jo b l es) b e:=by simp[jo]
def Du(x:Mn)(m:Mv):(gp x m).op.length<=x.op.length+1:=by
 unfold gp
 split
 .simp
 simp;omega
section
variable{s:HS}{av:aZ}{L:cE}{K:dv}
def aG.tail{k:Ky×List HV}(h:aG s av L (k::K)):aG s av L K:=
 ⟨h.mem,λa o c q=>h.bD (a+1) o c q,λa b o c d q r=>by have:=h.nd (a+1) (b+1) o c d q r;omega⟩
end
structure Dv(l:jL)(aq:aO)(D:Nat):Prop where
 len:aq.length=l.length
 row:∀i,(h:i<l.length)->Zo (aq[i]'(by omega)) l[i]
 op:∀x∈l,x.mn.op.length<=D
def Dv.snoc{l:jL}{aq:aO}{D:Nat}(h:Dv l aq D){y:Sn}(k:y.mn.op.length<=D):Dv (l++[y]) (aq++[y.c]) D:=by
 refine⟨by simp[h.len],λi q=>?_,λx r=>?_⟩
 .by_cases b:i<l.length
  .rw[Da (by rw[h.len];exact b),Da b];exact h.row i b
  have t:i=l.length:=by simp at q;omega
  subst t;left;rw[Fj (by rw[h.len];exact aW _),Fj (aW _)];simp
 rcases cP.1 r with d|d
 .exact h.op x d
 rw[dq.1 d];exact k
def agT(a:Ar)(ok:dW a)(hc:aI a=0)(x:Fa)(hx:cf x)(b:Sn)(O:b.st<x.nx.length){D:Nat}(hD:D<400)(k0:b.mn.op.length<=D)(P:jL)(hB:∀k,(jo b P (x.nx[b.st].take k)).length<3518437208883)
  {e:En}{s:HS}{o:Out}{o10:Ky}{v4 v5 v6 v7 v8 v9 vo:HV}{av:aZ}{E6 E7 aq:aO}(hf:Kt vo b.mn.op)
  (w:bH e [(2,.aw a.c),(3,.aw x.c),(4,v4),(5,v5),(6,v6),(7,v7),(8,v8),(9,v9),(10,.ptr o10 0),(11,iV 0)])
  (M:aG s av [(v6,1,E6),(v7,1,E7),(v8,5,aq)] [(o10,[iV b.st,vo,.bool b.mn.lost,.bool b.mn.forced,.bool b.mn.begun])])(u:Dv P aq (D+1))(h0:P≠ [])(ho:bJ R (.loop U.zz) e s=o):
  (∃k,∃h:k<x.nx[b.st].length,gS a b.mn x.nx[b.st][k].m=false/\∃e' s',o=.code .ret e' s'/\look e' 4=some .ah/\look e' 5=some (.bool false))∨
  ((∀k,(h:k<x.nx[b.st].length)->gS a b.mn x.nx[b.st][k].m=true)/\∃(e':En) (s':HS) (av:aZ) (v8:HV) (aq:aO),o=.code (.exit 2) e' s'/\bH e' [(2,.aw a.c),(3,.aw x.c),(4,v4),(5,v5),(6,v6),(7,v7),(8,v8),(9,v9)]/\
   aG s' av [(v6,1,E6),(v7,1,E7),(v8,5,aq)] []/\Dv (jo b P x.nx[b.st]) aq (D+1)):=by
 have ht:(b.st:Int)<x.nx.length:=by omega
 refine ba ho x.nx[b.st].length
  (λk e s=>(∀j,(h:j<x.nx[b.st].length)->j<k->gS a b.mn x.nx[b.st][j].m=true)/\∃(av:aZ) (v8:HV) (aq:aO),bH e [(2,.aw a.c),(3,.aw x.c),(4,v4),(5,v5),(6,v6),(7,v7),(8,v8),(9,v9),(10,.ptr o10 0),(11,iV k)]/\
   aG s av [(v6,1,E6),(v7,1,E7),(v8,5,aq)] [(o10,[iV b.st,vo,.bool b.mn.lost,.bool b.mn.forced,.bool b.mn.begun])]/\Dv (jo b P (x.nx[b.st].take k)) aq (D+1)/\jo b P (x.nx[b.st].take k)≠ [])
  (λo=>(∃k,∃h:k<x.nx[b.st].length,gS a b.mn x.nx[b.st][k].m=false/\∃e' s',o=.code .ret e' s'/\look e' 4=some .ah/\look e' 5=some (.bool false))∨
  ((∀k,(h:k<x.nx[b.st].length)->gS a b.mn x.nx[b.st][k].m=true)/\∃(e':En) (s':HS) (av:aZ) (v8:HV) (aq:aO),o=.code (.exit 2) e' s'/\bH e' [(2,.aw a.c),(3,.aw x.c),(4,v4),(5,v5),(6,v6),(7,v7),(8,v8),(9,v9)]/\
   aG s' av [(v6,1,E6),(v7,1,E7),(v8,5,aq)] []/\Dv (jo b P x.nx[b.st]) aq (D+1)))
  0 (by omega) ⟨λj h hj=>by omega,av,v8,aq,w,M,u,h0⟩
  (λk e s r hk ⟨A,av,v8,aq,w,M,u,h0⟩ B=>by
   have h6:(k:Int)<x.nx[b.st].length:=by omega
   have k1:=hx.row O;have hw:=bo (n:=6000) (show k<6000 by omega) (by omega);generalize hl:jo b P (x.nx[b.st].take k)=l at u h0;have k2:l.length<3518437208883:=by rw[<-hl];exact hB k
   obtain⟨o8,rfl⟩:=(M.mem.own 2 _ _ _ rfl).gw (by intro h;have h1:=u.len;rw[h]at h1;exact h0 (iJ h1.symm));rw[u.len]at w M;have h7:Zq [vo,.bool b.mn.lost,.bool b.mn.forced,.bool b.mn.begun] b.mn:=by
    rcases hf with rfl|⟨h1,rfl⟩
    .exact .inl rfl
    exact .inr ⟨h1,rfl⟩
   have q:=Zr a ok hc _ b.mn h7 (by omega) x.nx[b.st][k].m;have hC:=(M.bD 0 o10 _ rfl).1.1;have C:=M.ds (x.nx[b.st][k]).c;have hz:=(M.ds [HV.int .i64 0,.int .i64 0,.int .u8 0,.int .i64 0,.int .i64 0]).bD 1 o10 _ rfl;have V:=(C.bD 1 o10 _ rfl).1.1;have X:=(C.bD 0 _ _ rfl).1.1;generalize h4:HS.mk (ax (some (.cells (cM (x.nx[b.st][k]).c) 0 (x.nx[b.st][k]).c.length s.nx)) s.nx s.h) s.nx.succ (ax (some [s.nx]) s.nx s.gr) s.ty=Y at C V X;have hlen:=u.len;simp only[ab,ae]at w;simp only[az,aE,bF,Nat.reduceAdd,Eg.c]at hC V X h4;simp only[Ar.c,Mv.c]at q;cases E:gS a b.mn x.nx[b.st][k].m
   .rw[E]at q;simp[U.zz,w,O,hk,h6,hC,V,X,h4,ai,an,ao,q]at B;subst B;exact .inr ⟨by simp,.inl ⟨k,hk,E,_,_,rfl,by simp⟩⟩
   rw[E]at q;have h2:=Zs _ b.mn h7 (by omega) x.nx[b.st][k].m (λha=>GC E ha);have hz:=C.ds [HV.int .i64 0,.ah,.bool false,.bool false,.bool false];have h8:=(hz.bD 2 o10 _ rfl).1.1;have h3:=(hz.bD 1 _ _ rfl).1.1;generalize hy:(⟨(x.nx[b.st][k]).to,gp b.mn x.nx[b.st][k].m⟩:Sn)=y;have hg:[iV (x.nx[b.st][k]).to,.psl ((gp b.mn x.nx[b.st][k].m).op.map Mv.c),.bool (gp b.mn x.nx[b.st][k].m).lost,.bool (gp b.mn x.nx[b.st][k].m).forced,.bool (gp b.mn x.nx[b.st][k].m).begun]=y.c:=by rw[<-hy];rfl
   have I:=C.ds y.c;have Z:=(I.bD 0 _ _ rfl).1.1;generalize h5:HS.mk (ax (some (.cells (cM y.c) 0 y.c.length Y.nx)) Y.nx Y.h) Y.nx.succ (ax (some [Y.nx]) Y.nx Y.gr) Y.ty=S2 at I Z;rw[<-hg]at h5;simp only[az,aE,bF,Nat.reduceAdd,Eg.c,Mv.c,Mn.c,iV]at h8 h3 h5 h2;simp[U.zz,w,O,hk,h6,hC,V,X,h4,ai,an,ao,q,h2,h3,h5]at B;generalize ho:bJ R (.loop U.zy) _ _=o at B;obtain⟨e2,rfl,t⟩:=agS (y:=y) (o8:=o8) (o13:=Y.nx) (v2:=.aw a.c) (v3:=.aw x.c) (v4:=v4) (v5:=v5) (v6:=v6) (v7:=v7) (v9:=v9) (v10:=.ptr o10 0) (v11:=iV k) (v12:=.ptr s.nx 0) u.len u.row (λz hz=>by have:=u.op z hz;omega) (by omega) (by simp[w]) (I.mem.own 2 _ _ _ rfl) Z ho;clear ho;have d:jo b P (x.nx[b.st].take (k+1))=if l.any λx=>decide (x=y)then l else l++[y]:=by rw[fC hk,HZ,hl,yg,hy]
   have J:∀(j:Nat) (h:j<x.nx[b.st].length),j<k+1->gS a b.mn x.nx[b.st][j].m=true:=λj h hj=>by
    by_cases hq:j=k
    .subst hq;exact E
    exact A j h (by omega)
   have h9:y.mn.op.length<=D+1:=by rw[<-hy];have:=Du b.mn x.nx[b.st][k].m;simp only;omega
   simp only[ab,ae]at t;cases hp:l.any λx=>decide (x=y)
   .rw[hp]at t d;obtain⟨hs,s3,hb,a3,c3,hd⟩:=I.append 2 rfl (new:=[y.c]) (Sz.cons rfl Sz.nil) (by simp) (bw:=3518437208883) (by simp;omega);simp only[cd,aQ]at hd;simp only[Sn.c,az,aE,bF,Nat.reduceAdd,iV]at a3 Z;simp[t,Z,ao,a3,hw]at B;subst B;refine .inl ⟨_,_,rfl,J,hb,hs,aq++[y.c],by simp[t],hd.tail.tail,?_,?_⟩
    .rw[d];exact u.snoc h9
    rw[d];simp
   rw[hp]at t d;simp[t,hw]at B;subst B;refine .inl ⟨_,_,rfl,J,_,_,aq,by simp[t],I.tail.tail,?_,?_⟩
   .rw[d];exact u
   rw[d];exact h0)
  (λe s r ⟨A,av,v8,aq,w,M,u,h0⟩ B=>by
   have hC:=(M.bD 0 o10 _ rfl).1.1;simp only[az,aE,bF,Nat.reduceAdd]at hC;simp only[ab,ae]at w;simp[U.zz,w,hC,O]at B;subst B;rw[my]at u;exact⟨by simp,.inr ⟨λj h=>A j h h,_,_,av,v8,aq,rfl,by simp[w],M.tail,u⟩⟩)
structure Lg where
 l:jL
 op:List bc
 kn:cb
def BP(x:Fa)(g:Lg)(b:Sn):Bool:=
 (g.kn.getD b.st false&& !decide (nH (g.op.getD b.st [])=nH b.mn.op))||((x.fi.getD b.st false != b.mn.over)&& !(decide (x.nx.length=1)&& !(x.fi.getD 0 false)))
def nY(a:Ar)(x:Fa)(g:Lg)(i:Nat):Option Lg:=
 match g.l[i]?with
 |none=>some g
 |some b=>
  if BP x g b then none
  else if(x.nx.getD b.st []).all λe=>gS a b.mn e.m then some ⟨jo b g.l (x.nx.getD b.st []),g.op.set b.st b.mn.op,g.kn.set b.st true⟩else none
def eZ(a:Ar)(x:Fa):Nat->Option Lg
 |0=>some ⟨[⟨0,⟨[],false,false,false⟩⟩],List.replicate x.nx.length [],List.replicate x.nx.length false⟩
 |i+1=>(eZ a x i).bind λg=>nY a x g i
structure H0(op:List bc)(E6:aO):Prop where
 len:E6.length=op.length
 row:∀i,(h:i<op.length)->∃v,E6[i]'(by omega)=[v]/\Kt v op[i]/\cellsOf v=some [v]
def Kt.one{v:HV}{l:bc}(h:Kt v l):cellsOf v=some [v]:=by rcases h with rfl|⟨_,rfl⟩<;>rfl
def H0.set{op:List bc}{c:aO}(h:H0 op c){i:Nat}{v:HV}{l:bc}(d:Kt v l):H0 (op.set i l) (c.set i [v]):=by
 refine⟨by simp[h.len],λj k=>?_⟩;rw[jc]at k;by_cases b:i=j
 .subst b;exact⟨v,by simp,by simpa using d,d.one⟩
 obtain⟨w,q,r,t⟩:=h.row j k;exact⟨w,by rw[Ks b];exact q,by rw[Ks b];exact r,t⟩
def H0.start(n:Nat):H0 (List.replicate n []) (List.replicate n [.ah]):=
 ⟨by simp,λi b=>⟨.ah,by simp,by simp[Kt],rfl⟩⟩
def Zo.ex{row:aj}{x:Sn}(h:Zo row x):∃b,Kt b x.mn.op/\row=[iV x.st,b,.bool x.mn.lost,.bool x.mn.forced,.bool x.mn.begun]:=by
 rcases h with rfl|⟨h0,rfl⟩
 .exact⟨_,.inl rfl,rfl⟩
 exact⟨_,.inr ⟨h0,rfl⟩,rfl⟩
def Kt.mn{b:HV}{x:Mn}(h:Kt b x.op):Zq [b,.bool x.lost,.bool x.forced,.bool x.begun] x:=by
 rcases h with rfl|⟨c,rfl⟩
 .exact .inl rfl
 exact .inr ⟨c,rfl⟩
structure Ku(a:Ar)(x:Fa)(N D:Nat):Prop where
 d:D<399
 n:N<=3518437208883
 st:∀i g,eZ a x i=some g->(∀y∈g.l,y.st<x.nx.length/\y.mn.op.length<=D)/\(∀l∈g.op,l.length<=D)/\g.l≠ []/\g.l.length<3518437208883/\g.op.length=x.nx.length/\g.kn.length=x.nx.length
 le:∀i g cur,eZ a x i=some g->g.l[i]?=some cur->∀k,(jo cur g.l ((x.nx.getD cur.st []).take k)).length<3518437208883
 fin:∀g,eZ a x N=some g->g.l.length<=N
def agU(a:Ar)(ok:dW a)(hc:aI a=0)(x:Fa)(hx:cf x){N D:Nat}(hN:Ku a x N D){i:Nat}(hi:i<N){g:Lg}(hg:eZ a x i=some g){e:En}{s:HS}{r:Out}{v4 v5 v6 v7 v8:HV}{av:aZ}{E6 aq:aO}
  (Z:bH e [(2,.aw a.c),(3,.aw x.c),(4,v4),(5,v5),(6,v6),(7,v7),(8,v8),(9,iV i)])
  (hM:aG s av [(v6,1,E6),(v7,1,g.kn.map bC),(v8,5,aq)] [])(hE:H0 g.op E6)(hS:Dv g.l aq D)(u:i<g.l.length)(I:bJ R U.lB e s=r)(q:BP x g g.l[i]=true):
  ∃e' s',r=.code .ret e' s'/\look e' 4=some .ah/\look e' 5=some (.bool false):=by
 obtain⟨h9,ha,hb,hy,hd,h4⟩:=hN.st i g hg;have hD:=hN.d;have hn:=hx.n;have hz:=hx.nf;have hq:=hx.pos;generalize P:g.l[i]=b at q;have h7:b∈g.l:=by rw[<-P];exact cp u
 obtain⟨C,k0⟩:=h9 b h7;obtain⟨o6,rfl⟩:=(hM.mem.own 0 _ _ _ rfl).gw (by intro h;have:=hE.len;rw[h]at this;simp at this;omega);obtain⟨o7,rfl⟩:=(hM.mem.own 1 _ _ _ rfl).gw (by intro h;have:=cC List.length h;simp at this;rw[this]at h4;simp at h4;omega);obtain⟨o8,rfl⟩:=(hM.mem.own 2 _ _ _ rfl).gw (by intro h;have h1:=hS.len;rw[h]at h1;exact hb (iJ h1.symm));rw[hE.len,hd,bG,h4,hS.len]at Z hM;obtain⟨vo,h5,V⟩:=(hS.row i u).ex;rw[P]at h5 V;obtain⟨ob,g1,_,_,g4⟩:=(hM.mem.own 2 _ _ _ rfl).at (k:=.i64) i (by rw[hS.len];exact u);have hj:ob=o8:=by simp[u]at g1;exact g1.symm
 subst hj;rw[V]at g4;have J:=hM.ds [iV b.st,vo,.bool b.mn.lost,.bool b.mn.forced,.bool b.mn.begun];have hC:=(J.bD 0 _ _ rfl).1.1;generalize B:HS.mk _ _ _ _=S1 at J hC;obtain⟨vq,hl,ho,k1⟩:=hE.row b.st (by omega);have g6:eG (ak S1.h o6) b.st=some vq:=by rw[(J.mem.own 0 _ _ _ rfl).cell b.st (by rw[hE.len];omega),hl];rfl
 have X:eG (ak S1.h o7) b.st=some (.bool (g.kn[b.st]'(by omega))):=kV (J.mem.own 1 _ _ _ rfl) (aR (by omega));have w:=Ol vq vo _ _ ho h5 (by have:=ha _ (cp (show b.st<g.op.length by omega));omega);have A:=Ok _ b.mn h5.mn;unfold BP at q;rw[getD_at (by omega),getD_at (by omega),getD_at (by omega),getD_at (by omega)]at q;have z:(i:Int)<g.l.length:=by omega
 have hs:(b.st:Int)<x.nx.length:=by omega
 have M:b.st<x.fi.length:=by omega
 have ht:(b.st:Int)<x.fi.length:=by omega
 have h8:0<x.fi.length:=by omega
 simp only[ab,ae]at Z;simp only[az,aE,bF,Nat.reduceAdd,iV]at hC B g4;have E:(x.fi[b.st] != b.mn.over&& !(decide (x.nx.length=1)&& !x.fi[0]))=true->(g.kn[b.st]'(by omega)=true->nH g.op[b.st]=nH b.mn.op)->∃e' s',r=.code .ret e' s'/\look e' 4=some .ah/\look e' 5=some (.bool false):=by
  intro h1 h2;rw[aL]at h1;obtain⟨h1,h3⟩:=h1;have O:¬x.fi[b.st]=b.mn.over:=by simpa using h1
  cases Y:g.kn[b.st]'(by omega)
  .rw[Y]at X;by_cases h6:x.nx.length=1
   .have t:(x.nx.length:Int)=1:=by omega
    have hf:x.fi[0]=true:=by simpa[h6]using h3
    simp-implicitDefEqProofs[U.lB,Z,u,z,g4,B,ai,an,ao,hC,C,X,A,M,O,t,h8,hf]at I;subst I;exact⟨_,_,rfl,by simp⟩
   have t:¬(x.nx.length:Int)=1:=by omega
   simp-implicitDefEqProofs[U.lB,Z,u,z,g4,B,ai,an,ao,hC,C,X,A,M,O,t]at I;subst I;exact⟨_,_,rfl,by simp⟩
  have hp:=h2 Y;rw[Y]at X;rw[ey hp]at w;by_cases h6:x.nx.length=1
  .have t:(x.nx.length:Int)=1:=by omega
   have hf:x.fi[0]=true:=by simpa[h6]using h3
   simp-implicitDefEqProofs[U.lB,Z,u,z,g4,B,ai,an,ao,hC,C,g6,X,w,A,M,O,t,h8,hf]at I;subst I;exact⟨_,_,rfl,by simp⟩
  have t:¬(x.nx.length:Int)=1:=by omega
  simp-implicitDefEqProofs[U.lB,Z,u,z,g4,B,ai,an,ao,hC,C,g6,X,w,A,M,O,t]at I;subst I;exact⟨_,_,rfl,by simp⟩
 cases Y:g.kn[b.st]'(by omega)
 .rw[Y,xQ,vG]at q;exact E q (λh=>by rw[Y]at h;cases h)
 by_cases hp:nH g.op[b.st]=nH b.mn.op
 .rw[Y,ey hp,nV,xR,vG]at q;exact E q (λ_=>hp)
 rw[Y]at X;rw[ef hp]at w;simp-implicitDefEqProofs[U.lB,Z,u,z,g4,B,ai,an,hC,C,g6,X,w]at I;subst I;exact⟨_,_,rfl,by simp⟩
def Fk(h n:Nat):Nat:=min 9 (if h=0 then n else n-1)
def Zt(c:Nat):Nat:=(32+c%32)*2^(c/32)
def agV(l:ay):ay:=0::l.flatMap λc=>[Zt c,Zt c]
def Tz:eh:=[
 [4,54,92,127,161,194,226,259,292,325,357,390,422,454,486,518,550,582,614,646,677,708,731,750,770,787,805,824,842,862,878,898,915,932,943,960,971,986,999,1012,1028,1038,1054,1065,1076,1082,1089,1093,1098,1104,1113,1122,1129,1138,1144,1150,1154,1159,1164,1169],
 [0,38,73,107,140,173,206,239,272,305,338,370,402,434,466,498,530,562,594,625,655,676,693,712,731,748,769,785,804,821,840,853,868,881,897,908,923,936,948,963,974,979,985,992,997,1002,1010,1019,1028,1036,1041,1047,1052,1058,1063,1067,1072,1077,1083,1089],
 [0,38,73,107,140,173,206,239,272,305,337,369,401,433,465,497,529,560,590,611,628,647,666,683,704,719,739,756,771,783,800,811,826,839,850,866,877,882,888,894,900,905,913,922,931,939,944,949,955,961,966,970,975,980,985,992,995,999,1003,1006],
 [0,38,73,107,140,173,206,239,272,304,336,368,400,432,464,495,525,546,562,582,600,618,638,654,674,686,702,714,728,742,753,769,780,785,791,796,803,808,816,825,834,842,847,852,857,864,869,873,878,882,888,894,898,902,904,908,910,914,919,920],
 [0,38,73,107,140,173,206,239,271,303,335,367,399,430,460,481,497,517,535,553,573,588,605,617,631,645,656,672,683,688,693,699,706,711,719,728,737,745,750,754,760,766,772,776,780,785,791,795,801,803,807,808,812,816,817,818,824,825,827,832],
 [0,38,73,107,140,173,206,238,270,302,334,365,395,416,431,452,469,488,506,520,533,548,559,574,586,591,596,602,609,614,622,631,640,648,652,657,663,668,675,679,683,688,692,697,702,706,707,711,714,715,716,721,722,724,728,731,732,736,737,738],
 [0,38,73,107,140,173,205,237,269,300,330,350,366,387,404,422,436,451,462,477,489,494,499,505,512,517,525,534,543,551,555,560,565,571,578,582,586,590,594,599,603,606,610,613,614,615,619,620,622,625,628,629,632,633,636,638,640,641,642,643],
 [0,38,73,107,140,172,204,235,265,285,301,322,338,354,365,379,392,397,402,408,414,420,428,437,446,454,458,463,468,474,481,485,488,492,496,500,503,508,512,513,514,518,519,520,523,526,527,529,530,533,535,536,537,540,542,545,545,546,546,547],
 [0,38,73,107,139,170,200,219,236,257,268,282,295,300,305,311,313,323,331,340,349,357,361,366,371,377,384,387,391,394,398,400,405,408,410,412,417,418,419,422,424,425,427,428,431,432,433,434,437,439,441,442,443,444,446,448,449,450,451,451],
 [0,38,73,105,135,154,171,185,198,203,208,210,212,226,234,243,252,260,264,269,274,280,285,290,293,296,298,303,305,307,309,314,316,318,321,323,324,326,327,329,330,331,332,335,336,338,339,340,341,343,344,346,348,349,350,352,353,353,354,355],
 [0,38,69,87,101,106,107,108,115,129,137,146,155,163,167,172,177,182,187,192,195,197,201,203,205,207,211,213,215,217,221,223,225,226,228,229,230,231,233,234,236,237,238,239,240,241,243,245,246,247,248,249,250,251,254,255,256,257,257,258],
 [0,0,0,2,14,28,38,47,56,65,69,74,78,83,87,92,96,99,101,103,105,108,110,112,114,117,119,121,123,126,128,129,130,132,133,134,135,136,137,138,139,141,142,143,144,145,146,147,148,150,151,152,153,154,155,156,157,159,160,161]].map agV++[List.range 121]
def Dw(n c:Nat):ay->ay->Bool
 |a::t,b::u=>decide (4*n+c*a<=b)&&Dw n c t u
 |_,_=>true
def z8{n c:Nat}:∀{t u:ay},Dw n c t u=true->∀r (h:r<t.length) (k:r<u.length),4*n+c*t[r]<=u[r]
 |a::t,b::u,d,0,_,_=>by simp[Dw]at d;exact d.1
 |a::t,b::u,d,r+1,h,k=>by simp[Dw]at d;simpa using z8 d.2 r (by simpa using h) (by simpa using k)
def TA(h:Nat)(b t:ay):Bool:=decide (b.length=121)&&decide (t.length=121)&&(List.range 121).all λn=>Dw n (Fk h n) b (t.drop n)
def Kv{h:Nat}{b t:ay}(c:TA h b t=true){n r:Nat}(q:n+r<=120):4*n+Fk h n*b.getD r 0<=t.getD (n+r) 0:=by simp only[TA,aL,bX,fq,gd]at c;obtain⟨⟨u,w⟩,k⟩:=c;have d:=z8 (k n (by omega)) r (by omega) (by simp;omega);rw[List.getElem_drop]at d;rw[eD,eD,aR (by omega),aR (by omega)];exact d
def Dx(h r:Nat):Nat:=(Tz.getD h []).getD r 0
def TB:((List.range 12).all λh=>TA h (Tz.getD (h+1) []) (Tz.getD h []))=true:=by decide+kernel
def Nl:((List.range 121).all λr=>decide (Dx 12 r=r))=true:=by decide+kernel
def Nn:((List.range 121).all λr=>decide (Dx 0 r+130<3518437208883))=true:=by decide+kernel
def mJ(f:Nat->Nat)(h:Nat):Nat->Nat
 |0=>0
 |k+1=>f h+mJ f (h+1) k
def DP(M:Nat->Nat)(h:Nat):Nat:=if h<12 then 4*M h else M h
def dp{N M c:Nat->Nat}(t:∀h,M (h+1)=M h*c h)(u:∀h,h<12->c h<=Fk h (N h)):∀k h,h+k=12->mJ N h (k+1)<=120->mJ (λh=>N h*DP M h) h (k+1)<=M h*Dx h (mJ N h (k+1))
 |0,h,z,d=>by
  have q:h=12:=by omega
  subst q;simp only[mJ,gH,DP,gF,bn]at*;have:=Nl;simp only[fq,gd,bX]at this;rw[this _ (by omega),D4];exact aW _
 |k+1,h,z,d=>by
  have b:h<12:=by omega
  rw[mJ]at d;have A:=dp t u k (h+1) (by omega) (by omega);rw[mJ,mJ.eq_def N h (k+1+1)];simp only;generalize mJ N (h+1) (k+1)=r at*;have w:=TB;simp only[fq,gd]at w;have B:=Kv (w h b) (n:=N h) (r:=r) d
  calc N h*DP M h+mJ (λh=>N h*DP M h) (h+1) (k+1)<=N h*DP M h+M (h+1)*Dx (h+1) r:=Ke A _
   _=M h*(4*N h+c h*Dx (h+1) r):=by rw[t,Nat.mul_add,DP,ar b,D4 (N h),TC,TC,Nat.mul_left_comm 4]
   _<=M h*(4*N h+Fk h (N h)*Dx (h+1) r):=TD _ (Ke (jD _ (u h b)) _)
   _<=M h*Dx h (N h+r):=TD _ B
def Aa(M:Nat->Nat)(v:Nat)(l:ay):∀k h,mJ (λh=>(v::l).count h*M h) h k=(if h<=v/\v<h+k then M v else 0)+mJ (λh=>l.count h*M h) h k
 |0,h=>by rw[au (by omega)];rfl
 |k+1,h=>by
  rw[mJ,Aa M v l k (h+1),mJ];by_cases b:v=h
  .subst b;rw[List.count_cons_self,au (by omega),ar (by omega),qs];omega
  rw[List.count_cons_of_ne (λh=>b h)];by_cases c:h+1<=v/\v<h+1+k
  .rw[ar c,ar (by omega)];omega
  rw[au c,au (by omega)];omega
def BQ(M:Nat->Nat):∀l:ay,(∀v∈l,v<13)->(l.map M).sum=mJ (λh=>l.count h*M h) 0 13
 |[],_=>by simp[mJ]
 |v::l,h=>by have c:=h v (by simp);rw[Aa,ar (by omega),<-BQ M l (λw b=>h w (by simp[b]))];simp
def Fl{α:Type}{f g:α->Nat}:∀{l:List α},(∀x∈l,f x<=g x)->(l.map f).sum<=(l.map g).sum
 |[],_=>aW _
 |x::l,h=>by simp only[cx,Fm];exact Nat.add_le_add (h x (by simp)) (Fl λy b=>h y (by simp[b]))
def yh{α:Type}{p q r:α->Bool}(b:∀x,p x=true->r x=true)(c:∀x,q x=true->r x=true)(d:∀x,p x=true->q x=true->False):∀l:List α,l.countP p+l.countP q<=l.countP r
 |[]=>by simp
 |x::l=>by
  have u:=yh b c d l;simp only[tZ];cases k:p x<;>cases t:q x
  .simp;omega
  .rw[c x t];simp;omega
  .rw[b x k];simp;omega
  exact(d x k t).elim
def r9{α:Type}[BEq α][LawfulBEq α]:∀{l l':List α},l.Nodup->(∀x∈l,x∈l')->l.length<=l'.length
 |[],_,_,_=>by simp
 |x::l,l',b,d=>by
  rw[me]at b;have k:=d x (by simp);have:=r9 b.2 (l':=l'.erase x) (λy q=>by
   have c:y≠x:=λh=>by subst h;exact b.1 q
   exact(List.mem_erase_of_ne c).2 (d y (by simp[q])))
  rw[List.length_erase_of_mem k]at this;have:=List.length_pos_of_mem k;simp;omega
def TE{N M c:Nat->Nat}(h0:M 0=1)(r:∀h,M (h+1)=M h*c h)(l:ay)(d:∀h,N h=l.count h)(q:∀h,h<12->c h<=Fk h (N h))(k:∀v∈l,v<13)(hlen:l.length<=120):(l.map (DP M)).sum+130<3518437208883:=by
 have b:mJ N 0 13=l.length:=by
  have:=BQ (λ_=>1) l k;simp only[iu]at this;rw[show(l.map λ_=>1).sum=l.length by clear this hlen k q d;induction l with
   |nil=>rfl
   |cons _ _ t=>simp[t];omega]at this
  rw[this]
  congr 1
  exact funext d
 have u:mJ (λh=>N h*DP M h) 0 13<=M 0*Dx 0 (mJ N 0 13):=dp r q 12 0 rfl (by show mJ N 0 13<=120;rw[b];exact hlen);rw[b,h0,Nat.one_mul]at u;rw[BQ (DP M) l k,show(λh=>l.count h*DP M h)=λh=>N h*DP M h from funext λh=>by rw[d]];have:=Nn;simp only[fq,gd,bX]at this;have:=this l.length (by omega);omega
def dj(x:Fa)(p:Nat):bq:=x.nx.getD p []
def Ab:Sn:=⟨0,⟨[],false,false,false⟩⟩
structure qj(a:Ar)(x:Fa)(i:Nat)(g:Lg):Prop where
 nd:g.l.Nodup
 ne:g.l≠ []
 C6:g.op.length=x.nx.length
 Zu:g.kn.length=x.nx.length
 st:∀y∈g.l,y.st<x.nx.length
 gen:∀y∈g.l,y=Ab∨∃z∈g.l.take i,∃e∈dj x z.st,y=⟨e.to,gp z.mn e.m⟩
 can:∀z∈g.l.take i,∀e∈dj x z.st,gS a z.mn e.m=true
 kn:∀z∈g.l.take i,g.kn.getD z.st false=true/\nH (g.op.getD z.st [])=nH z.mn.op
 kz:∀p,g.kn.getD p false=true->∃z∈g.l.take i,z.st=p
 opz:∀l∈g.op,l=[]∨∃z∈g.l.take i,z.mn.op=l
 Ve:∀y∈g.l,∀q m,y.mn.op=q++[m]->de m=true/\∃z∈g.l.take i,z.mn.op=q/\∃e∈dj x z.st,e.m=m
def vr(c:Sn):∀(es:bq) (l:jL),l.Nodup->∃t,jo c l es=l++t/\(l++t).Nodup/\(∀y∈t,∃e∈es,y=⟨e.to,gp c.mn e.m⟩)/\t.length<=es.length
 |[],l,h=>⟨[],by simp[jo],by simpa using h,by simp⟩
 |e::es,l,h=>by
  have E:jo c l (e::es)=jo c (yg l c e) es:=by simp[jo]
  rw[E];unfold yg;generalize I:(⟨e.to,gp c.mn e.m⟩:Sn)=y;cases D:l.any λx=>decide (x=y)
  .simp only[cz,bn];have q:y ∉ l:=by intro J;rw[xJ]at D;exact D y J (by simp)
   obtain⟨t,r,u,w,M⟩:=vr c es (l++[y]) (by
    rw[AF];refine⟨h,by simp,λa O b P=>?_⟩;rw[dq.1 P];intro A;exact q (A▸O))
   refine⟨y::t,by rw[r];simp,by simpa using u,λz k=>?_,by simp;omega⟩;rcases bk.1 k with rfl|k
   .exact⟨e,by simp,I.symm⟩
   obtain⟨B,d,C⟩:=w z k;exact⟨B,by simp[d],C⟩
  simp only[bj];obtain⟨t,r,u,w,M⟩:=vr c es l h;refine⟨t,r,u,λz k=>?_,by simp;omega⟩;obtain⟨B,d,C⟩:=w z k;exact⟨B,by simp[d],C⟩
def jG{α:Type}(l:List α)(i j:Nat)(v d:α)(b:i<l.length):(l.set i v).getD j d=if i=j then v else l.getD j d:=by
 rw[eD,gP,eD];by_cases h:i=j
 .subst h;simp[b]
 simp[h]
def Kw{α:Type}{l q:List α}{a m:α}(h:l++[a]=q++[m]):l=q/\a=m:=by have b:=cC List.dropLast h;have c:=cC List.getLast? h;simp at b c;exact⟨b,c⟩
def qj.start(a:Ar)(x:Fa)(c:0<x.nx.length):qj a x 0 ⟨[Ab],List.replicate x.nx.length [],List.replicate x.nx.length false⟩ where
 nd:=by simp
 ne:=by simp
 C6:=by simp
 Zu:=by simp
 st:=by intro y b;rw[dq.1 b];exact c
 gen:=by intro y b;exact .inl (dq.1 b)
 can:=by simp
 kn:=by simp
 kz:=by
  intro p h;rw[eD,yc]at h
  split at h<;>simp at h
 opz:=by intro l hl;exact .inl (zP hl)
 Ve:=by intro y b q m h;rw[dq.1 b]at h;simp[Ab]at h
def qj.step{a:Ar}{x:Fa}{i:Nat}{g g':Lg}(h:qj a x i g)(hx:cf x)(B:nY a x g i=some g'):qj a x (i+1) g':=by
 unfold nY at B
 split at B
 .rename_i hn;cases B;have hlen:=BA.1 hn;have ht:g.l.take (i+1)=g.l.take i:=by rw[iH (by omega),iH hlen]
  refine⟨h.nd,h.ne,h.C6,h.Zu,h.st,?_,?_,?_,?_,?_,?_⟩<;>rw[ht]
  .exact h.gen
  .exact h.can
  .exact h.kn
  .exact h.kz
  .exact h.opz
  exact h.Ve
 rename_i b C
 split at B
 .cases B
 rename_i D
 split at B
 case isFalse=>cases B
 rename_i P;cases B;obtain⟨Y,Z⟩:=aS.1 C;have E:b∈g.l:=Z▸cp Y;have u:=h.st b E;obtain⟨t,h3,h4,J,_⟩:=vr b (x.nx.getD b.st []) g.l h.nd;have k:∀z,z∈(g.l++t).take (i+1)↔z∈g.l.take i∨z=b:=by intro z;rw[C0 (by omega),Kx,C];simp
 have hk:g.kn.getD b.st false=true->nH (g.op.getD b.st [])=nH b.mn.op:=by intro hk;simp only[BP,hk,iI,nS,not_or]at D;simpa using D.1
 have cU:b.st<g.op.length:=by rw[h.C6];exact u
 have V:b.st<g.kn.length:=by rw[h.Zu];exact u
 have M:∀e∈dj x b.st,gS a b.mn e.m=true:=λe I=>fq.1 P e I
 constructor<;>simp only[h3]
 .exact h4
 .simp[h.ne]
 .simp[h.C6]
 .simp[h.Zu]
 .intro y c;rcases cP.1 c with c|c
  .exact h.st y c
  obtain⟨e,I,rfl⟩:=J y c;rw[getD_at u]at I;exact hx.to _ (cp u) e I
 .intro y c;rcases cP.1 c with c|c
  .rcases h.gen y c with h0|⟨z,d,h0⟩
   .exact .inl h0
   exact .inr ⟨z,(k z).2 (.inl d),h0⟩
  obtain⟨e,I,rfl⟩:=J y c;exact .inr ⟨b,(k b).2 (.inr rfl),e,I,rfl⟩
 .intro z d;rcases(k z).1 d with d|rfl
  .exact h.can z d
  exact M
 .intro z d;rw[jG _ _ _ _ _ cU,jG _ _ _ _ _ V];rcases(k z).1 d with d|rfl
  .obtain⟨O,X⟩:=h.kn z d;by_cases A:b.st=z.st
   .rw[ar A,ar A];refine⟨rfl,?_⟩;rw[<-hk (A▸O),A,X]
   rw[au A,au A];exact⟨O,X⟩
  simp
 .intro p hp;rw[jG _ _ _ _ _ V]at hp;by_cases A:b.st=p
  .exact⟨b,(k b).2 (.inr rfl),A⟩
  rw[au A]at hp;obtain⟨z,d,h0⟩:=h.kz p hp;exact⟨z,(k z).2 (.inl d),h0⟩
 .intro l hl;rcases xH hl with hl|rfl
  .rcases h.opz l hl with h0|⟨z,d,h0⟩
   .exact .inl h0
   exact .inr ⟨z,(k z).2 (.inl d),h0⟩
  exact .inr ⟨b,(k b).2 (.inr rfl),rfl⟩
 intro y c q m r;rcases cP.1 c with c|c
 .obtain⟨O,z,d,h0⟩:=h.Ve y c q m r;exact⟨O,z,(k z).2 (.inl d),h0⟩
 obtain⟨e,I,rfl⟩:=J y c;simp only[gp]at r;cases ha:de e.m
 .rw[ha]at r;simp only[cz,bn]at r;have h5:b.mn.op≠ []:=by intro h0;rw[h0]at r;simp at r
  obtain⟨_,z,d,h0,_⟩:=h.Ve b E _ _ (TF h5).symm;rw[r]at h0;obtain⟨O,w,hw,X⟩:=h.Ve z (lr d) q m h0;exact⟨O,w,(k w).2 (.inl hw),X⟩
 rw[ha]at r;simp only[bj]at r;obtain⟨rfl,rfl⟩:=Kw r;exact⟨ha,b,(k b).2 (.inr rfl),rfl,e,I,rfl⟩
def qj.run{a:Ar}{x:Fa}(c:cf x):∀(i:Nat) {g:Lg},eZ a x i=some g->qj a x i g
 |0,g,b=>by cases b;exact qj.start a x c.pos
 |i+1,g,b=>by
  rw[eZ]at b;cases h:eZ a x i with
  |none=>rw[h]at b;cases b
  |some d=>rw[h]at b;exact(qj.run c i h).step c b
def dd{α:Type}[DecidableEq α]:List α->List α
 |[]=>[]
 |x::l=>if x∈dd l then dd l else x::dd l
def yi{α:Type}[DecidableEq α]{y:α}:∀{l:List α},y∈dd l↔y∈l
 |[]=>by simp[dd]
 |x::l=>by
  rw[dd]
  split
  .rename_i h;rw[yi,bk];exact⟨.inr,λb=>b.elim (λc=>c▸yi.1 h) id⟩
  rw[bk,yi,bk]
def Kz{α:Type}[DecidableEq α]:∀l:List α,(dd l).Nodup
 |[]=>by simp[dd]
 |x::l=>by
  rw[dd]
  split
  .exact Kz l
  rename_i h;exact me.2 ⟨h,Kz l⟩
def KA{α:Type}[DecidableEq α]:∀l:List α,(dd l).length<=l.length
 |[]=>by simp[dd]
 |x::l=>by
  have:=KA l;rw[dd]
  split<;>simp<;>omega
def iQ{a:Ar}{x:Mn}{m:Mv}(h:gS a x m=true):fv a m=true:=by
 unfold gS at h
 split at h
 .assumption
 cases h
def yj{a:Ar}{x:Mn}{m:Mv}(h:gS a x m=true)(h0:x.op=[]):x.begun=false/\m.id=0:=by
 unfold gS at h;rw[ar (iQ h)]at h;cases b:x.begun
 .simp[b]at h;exact⟨rfl,h.1⟩
 simp[b,h0]at h
def yk{a:Ar}{x:Mn}{m top:Mv}(h:gS a x m=true)(q:x.begun=true)(r:x.op.getLast?=some top)(c:de m=true):
  x.lost=false/\x.forced=false/\((0<top.id/\top.arg=0)->m.id=top.id/\0<m.arg)/\(¬(0<top.id/\top.arg=0)->0<m.id/\m.arg=0):=by
 unfold gS at h;rw[ar (iQ h),ar q,r]at h;simp only at h;have t:m.kind≠3:=by intro u;simp[de,u]at c
 cases d:x.lost<;>cases k:x.forced
 .refine⟨rfl,rfl,λb=>?_,λb=>?_⟩
  .simp[d,k,c,b.1,b.2]at h;exact h
  simp only[d,k,c,TG,cz,bn,bj]at h;rw[au (by simpa using b)]at h;simpa using h
 all_goals
  simp[d,k,uF,t]at h
section
variable{a:Ar}{x:Fa}{i:Nat}{g:Lg}(h:qj a x i g)
include h
theorem qj.begun{y:Sn}(b:y∈g.l)(h0:y.mn.op≠ []):y.mn.begun=true:=by
 rcases h.gen y b with rfl|⟨z,_,e,_,rfl⟩
 .exact(h0 rfl).elim
 simp only[gp]
 split<;>rfl
theorem qj.pre:∀(n:Nat) (y:Sn),y∈g.l->y.mn.op.length=n->∀(j:Nat) (m:Mv),y.mn.op[j]?=some m->de m=true/\∃z∈g.l.take i,z.mn.op=y.mn.op.take j/\∃e∈dj x z.st,e.m=m
 |0,y,_,c,j,m,b=>by rw[iJ c]at b;simp at b
 |n+1,y,B,c,j,m,b=>by
  have d:y.mn.op≠ []:=by intro h0;rw[h0]at c;cases c
  have k:=(TF d).symm;obtain⟨C,z,A,t,D⟩:=h.Ve y B _ _ k;generalize y.mn.op.getLast d=last at*;generalize y.mn.op.dropLast=q at*;rw[k]at c b ⊢;simp at c;by_cases u:j<q.length
  .rw[ea u,<-t]at b;rw[C0 (by omega),<-t];exact qj.pre n z (lr A) (by rw[t];exact c) j m b
  obtain⟨r,_⟩:=aS.1 b;have w:j=q.length:=by simp at r;omega
  subst w;rw[iG (aW _),oz]at b;simp at b;subst b;rw[List.take_left];exact⟨C,z,A,t,D⟩
theorem qj.ask{y:Sn}(w:y∈g.l){j:Nat}{m:Mv}(A:y.mn.op[j]?=some m):de m=true/\fv a m=true/\(j=0->m.id=0)/\∀k top,k+1=j->y.mn.op[k]?=some top->
  ((0<top.id/\top.arg=0)->m.id=top.id/\0<m.arg)/\(¬(0<top.id/\top.arg=0)->0<m.id/\m.arg=0):=by
 obtain⟨q,z,r,t,e,B,rfl⟩:=h.pre _ y w rfl j m A;have d:=h.can z r e B;refine⟨q,iQ d,λh0=>?_,λk top C u=>?_⟩
 .subst h0;exact(yj d (by rw[t];rfl)).2
 subst C;obtain⟨D,E⟩:=aS.1 u;have c:z.mn.op=y.mn.op.take k++[top]:=by rw[t,Kx,u];rfl
 have b:z.mn.op.getLast?=some top:=by rw[c];simp
 exact(yk d (h.begun (lr r) (by rw[c];simp)) b q).2.2
theorem qj.par{y:Sn}(k:y∈g.l):∀{j:Nat} {m:Mv},y.mn.op[j]?=some m->((0<m.id/\m.arg=0)↔j%2=1)
 |0,m,b=>by
  have:=(h.ask k b).2.2.1 rfl;constructor
  .intro c;omega
  intro c;omega
 |j+1,m,b=>by
  obtain⟨r,_⟩:=aS.1 b;have q:=aR (show j<y.mn.op.length by omega);have c:=qj.par k q;obtain⟨t,u⟩:=(h.ask k b).2.2.2 j _ rfl q;by_cases d:0<(y.mn.op[j]'(by omega)).id/\(y.mn.op[j]'(by omega)).arg=0
  .have:=t d;have:=c.1 d;constructor
   .intro w;omega
   intro w;omega
  have z:=u d;have:¬j%2=1:=λA=>d (c.2 A)
  constructor
  .intro _;omega
  intro _;exact z
theorem qj.plc{z b:Sn}(d:z∈g.l.take i)(c:b∈g.l.take i)(k:z.st=b.st):nH z.mn.op=nH b.mn.op:=by rw[<-(h.kn z d).2,<-(h.kn b c).2,k]
end
def No{a:Ar}(k:aI a=0){m:Mv}(d:fv a m=true)(w:0<m.arg){b:Bs}{e:Bool}(c:di a m.id 0=some (b,e))(hid:0<m.id):b.cell=false:=by
 unfold fv cu lC at d;unfold di at c d;rw[au (by omega)]at c d;by_cases z:1<=m.id/\m.id<=a.ids.length
 .rw[ar z]at c d;cases q:a.ids[(m.id-1).toNat]?with
  |none=>rw[q]at c;cases c
  |some t=>
   rw[q]at c d;simp only[bj]at c;simp only[bL,lx]at c;obtain⟨rfl,_⟩:=c;simp only[au (show¬m.arg=0 by omega)]at d;have r:t.ps≠ []:=by intro h0;rw[h0]at d;rw[au (by simp;omega)]at d;simp at d
   unfold aI at k
   split at k
   .cases k
   split at k
   .cases k
   rename_i A;simp only[nS,not_or,BD,xJ]at A;have B:=A.2 t (cG q);simp only[fS,Bool.not_eq_false',aL,nS]at B;cases u:t.res.cell
   .rfl
   have C:t.ps.isEmpty=false:=by cases D:t.ps with|nil=>exact(r D).elim|cons _ _=>rfl
   simp[u,C]at B
 rw[au z]at c;cases c
def Ac(a:Ar):Prop:=∀id arg b e,di a id arg=some (b,e)->b.n<=8
def Zv{a:Ar}{m:Mv}(q:fv a m=true)(d:de m=true):m∈cu a m.id m.arg:=by
 unfold fv at q;simp only[bX,KB,nS]at q;rcases q with b|b
 .exact b
 exfalso;unfold lC at b
 split at b
 .simp at b
 unfold pg at b;rcases cP.1 b with c|c
 .split at c
  .rw[dq.1 c]at d;simp[de]at d
  simp at c
 rw[dt]at c;obtain⟨k,_,r⟩:=c;rw[<-r]at d;simp[de,pf]at d
def TH{a:Ar}(c:Ac a)(id arg:Int):(cu a id arg).length<=9:=by
 unfold cu
 split
 .simp
 rename_i b e d;have:=c _ _ _ _ d;unfold dK
 split<;>simp<;>omega
def TI{a:Ar}{id arg:Int}(c:∀b e,di a id arg=some (b,e)->b.cell=false):(cu a id arg).length<=1:=by
 unfold cu
 split
 .simp
 rename_i b e h0;have:=c _ _ h0;simp[dK,this]
def yl:∀{l:ay} {x:Nat},x∈l->x<=l.sum
 |a::l,x,h=>by
  rw[Fm];rcases bk.1 h with rfl|h
  .omega
  have:=yl h;omega
def ym(v:Nat->bc):Nat->List bc
 |0=>[[]]
 |d+1=>(ym v d).flatMap λq=>(v d).map λm=>q++[m]
def yn{α β γ:Type}(f:α->β->γ)(vs:List β):∀l:List α,(l.flatMap λq=>vs.map (f q)).length=l.length*vs.length
 |[]=>by simp
 |x::l=>by rw[mB,cA,yn f vs l,bG,az,jE];omega
def Dy{v:Nat->bc}{l:bc}:∀d,d<=l.length->(∀j m,j<d->l[j]?=some m->m∈v j)->l.take d∈ym v d
 |0,_,_=>by simp[ym]
 |d+1,q,b=>by have k:=Dy d (by omega) (λj m r=>b j m (by omega));have c:=aR (show d<l.length by omega);rw[ym,qT];refine⟨_,k,?_⟩;rw[dt];exact⟨_,b d _ (by omega) c,by rw[Kx,c];rfl⟩
def qk(c:Nat->Nat):Nat->Nat
 |0=>1
 |h+1=>qk c h*c h
def GD{v:Nat->bc}{c:Nat->Nat}:∀d,(∀j,j<d->(v j).length<=if j%2=0 then c (j/2)else 1)->(ym v d).length<=qk c ((d+1)/2)
 |0,_=>by simp[ym,qk]
 |d+1,q=>by
  have k:=GD d (λj t=>q j (by omega));have b:=q d (by omega);rw[ym,yn];by_cases r:d%2=0
  .rw[ar r]at b;rw[show(d+1+1)/2=d/2+1 by omega,qk];rw[show(d+1)/2=d/2 by omega]at k;exact TJ k b
  rw[au r]at b;rw[show(d+1+1)/2=(d+1)/2 by omega];have:=TJ k b;omega
def BR(x:Fa)(g:Lg):List (Nat×Eg):=(List.range x.nx.length).flatMap λp=>if g.kn.getD p false then(dj x p).map λe=>(p,e)else []
def Fo(g:Lg)(p:Nat):Nat:=(g.op.getD p []).length
def y6(g:Lg)(d:Nat)(q:Nat×Eg):Bool:=de q.2.m&&decide (Fo g q.1=d)
def vq(a:Ar)(x:Fa)(g:Lg)(d:Nat)(ρ:Int×Int):bc:=
 dd ((((BR x g).filter (y6 g d)).map λq=>q.2.m).filter λm=>decide (m.id=ρ.1/\m.arg=ρ.2)&&(fv a m&&de m))
def vp(a:Ar)(x:Fa)(g:Lg)(p:Nat)(j:Nat):bc:=vq a x g j ((nH (g.op.getD p [])).getD j (0,0))
def aN(x:Fa)(g:Lg)(d:Nat):Nat:=(BR x g).countP (y6 g d)
def cN(x:Fa)(g:Lg)(h:Nat):Nat:=min 9 (aN x g (2*h))
def tq(g:Lg)(q:Nat×Eg):Nat:=if de q.2.m then(Fo g q.1+1)/2 else Fo g q.1/2
def Zw(a:Ar)(x:Fa)(g:Lg)(q:Nat×Eg):jL:=
 if de q.2.m then(ym (vp a x g q.1) (Fo g q.1)).map λl=>⟨q.2.to,⟨l++[q.2.m],false,false,true⟩⟩
 else(ym (vp a x g q.1) (Fo g q.1-1)).flatMap λl=>[(false,false),(false,true),(true,false),(true,true)].map λf=>⟨q.2.to,⟨l,f.1,f.2,true⟩⟩
def BS{x:Fa}{g:Lg}{p:Nat}{e:Eg}:(p,e)∈BR x g↔p<x.nx.length/\g.kn.getD p false=true/\e∈dj x p:=by
 unfold BR;rw[qT];constructor
 .rintro⟨q,c,h⟩
  split at h
  .rename_i d;rw[dt]at h;obtain⟨u,b,h⟩:=h;cases h;exact⟨gd.1 c,d,b⟩
  cases h
 rintro⟨k,r,t⟩
 exact⟨p,gd.2 k,by rw[ar r,dt];exact⟨e,t,rfl⟩⟩
def Np(x:Fa)(g:Lg):(BR x g).length<=(x.nx.map List.length).sum:=by
 have b:(x.nx.map List.length)=(List.range x.nx.length).map λp=>(dj x p).length:=by
  refine qi (by simp) λi b c=>?_
  simp at b;simp[dj,b]
 rw[b];unfold BR;rw[TK];refine Fl λp _=>?_
 split<;>simp
def GF(l:bc):(nH l).length=l.length:=by simp[nH]
def Zx{a:Ar}{x:Fa}{g:Lg}(j:Nat)(ρ:Int×Int):(vq a x g j ρ).length<=aN x g j:=by unfold vq aN;refine fz (KA _) (fz (Kf _ _) ?_);rw[bG,Tq];exact aW _
section
variable{a:Ar}{x:Fa}{i:Nat}{g:Lg}(h:qj a x i g)
include h
theorem qj.dep{z:Sn}(b:z∈g.l.take i):Fo g z.st=z.mn.op.length:=by have:=cC List.length (h.kn z b).2;rwa[GF,GF]at this
theorem qj.known{z:Sn}(b:z∈g.l.take i){e:Eg}(c:e∈dj x z.st):(z.st,e)∈BR x g:=BS.2 ⟨h.st z (lr b),(h.kn z b).1,c⟩
theorem qj.inv{z:Sn}(k:z∈g.l.take i){j:Nat}{m:Mv}(c:z.mn.op[j]?=some m):m∈vp a x g z.st j:=by
 have d:=lr k;obtain⟨q,r,b,u,e,t,rfl⟩:=h.pre _ z d rfl j m c;obtain⟨w,_⟩:=aS.1 c;unfold vp vq;rw[yi,sB,dt,(h.kn z k).2];refine⟨⟨(r.st,e),sB.2 ⟨h.known b t,?_⟩,rfl⟩,?_⟩
 .simp only[y6,aL,bX];exact⟨q,by rw[h.dep b,u,oA];omega⟩
 have A:(nH z.mn.op).getD j (0,0)=(e.m.id,e.m.arg):=by rw[eD,nH,fR,c];rfl
 rw[A];simp[q,iQ (h.can r b e t)]
theorem qj.Zy(j:Nat)(ρ:Int×Int):(vq a x g j ρ).length<=(cu a ρ.1 ρ.2).length:=by
 refine r9 (Kz _) λm b=>?_
 unfold vq at b;rw[yi,sB]at b;have c:=b.2;simp only[aL,bX]at c;obtain⟨⟨d,k⟩,q,r⟩:=c;rw[<-d,<-k];exact Zv q r
theorem qj.few(J:aI a=0)(M:Ac a){z:Sn}(A:z∈g.l.take i){d:Nat}(hd:d<=z.mn.op.length)(O:d<z.mn.op.length∨d=0∨∃e∈dj x z.st,de e.m=true):(ym (vp a x g z.st) d).length<=qk (cN x g) ((d+1)/2):=by
 have q:=lr A;refine GD d λj hj=>?_
 split
 .rename_i P;unfold cN;rw[show 2*(j/2)=j by omega];exact Nat.le_min.2 ⟨fz (h.Zy j _) (TH M _ _),Zx j _⟩
 rename_i P;have r:=aR (show j<z.mn.op.length by omega);generalize z.mn.op[j]=top at r;obtain⟨hid,c⟩:=(h.par q r).2 (by omega);have B:(nH (g.op.getD z.st [])).getD j (0,0)=(top.id,top.arg):=by rw[(h.kn z A).2,eD,nH,fR,r];rfl
 unfold vp;rw[B];refine fz (h.Zy j _) ?_;simp only;have V:∃m:Mv,m.id=top.id/\0<m.arg/\fv a m=true:=by
  by_cases C:j+1<z.mn.op.length
  .have D:=aR C;obtain⟨_,E,_,X⟩:=h.ask q D;obtain⟨t,u⟩:=(X j top rfl r).1 ⟨hid,c⟩;exact⟨_,t,u,E⟩
  rcases O with E|E|⟨e,Y,I⟩
  .omega
  .omega
  have k:=h.can z A e Y;have Z:z.mn.op.getLast?=some top:=by rw[Tc,show z.mn.op.length-1=j by omega,r]
  obtain⟨t,u⟩:=(yk k (h.begun q (by intro h0;rw[h0]at r;simp at r)) Z I).2.2.1 ⟨hid,c⟩;exact⟨_,t,u,iQ k⟩
 obtain⟨m,t,u,h7⟩:=V;refine TI λb e w=>?_
 rw[c,<-t]at w;exact No J h7 u w (by omega)
theorem qj.deep{z:Sn}(k:z∈g.l.take i):z.mn.op.length+1<=x.nx.length:=by
 have:=r9 (l:=List.range (z.mn.op.length+1)) (l':=(List.range x.nx.length).map (Fo g)) List.nodup_range (λj r=>by
  rw[gd]at r;rw[dt];have b:=lr k;by_cases d:j<z.mn.op.length
  .obtain⟨_,q,c,t,_⟩:=h.pre _ z b rfl j _ (aR d);exact⟨q.st,gd.2 (h.st q (lr c)),by rw[h.dep c,t,oA];omega⟩
  exact⟨z.st,gd.2 (h.st z b),by rw[h.dep k];omega⟩)
 simpa using this
theorem qj.big{y:Sn}(B:y∈g.l):y∈Ab::(BR x g).flatMap (Zw a x g):=by
 rcases h.gen y B with rfl|⟨z,k,e,u,rfl⟩
 .simp
 refine cS _ (qT.2 ⟨(z.st,e),h.known k u,?_⟩);have q:=lr k;have b:=h.can z k e u;have c:∀d,d<=z.mn.op.length->z.mn.op.take d∈ym (vp a x g z.st) d:=λd C=>Dy d C λj m _ D=>h.inv k D
 unfold Zw gp;simp only;rw[h.dep k];cases E:de e.m
 .simp only[cz,bn];rw[qT];refine⟨_,c (z.mn.op.length-1) (by omega),?_⟩;rw[dt];rw[J7];exact⟨(_,_),(show∀I J:Bool,(I,J)∈[(false,false),(false,true),(true,false),(true,true)] by decide) _ _,rfl⟩
 simp only[bj];rw[dt];refine⟨z.mn.op,by simpa using c z.mn.op.length (aW _),?_⟩;have M:z.mn.lost=false:=by
  by_cases h0:z.mn.op=[]
  .have r:=(yj b h0).1;rcases h.gen z q with t|⟨w,_,O,_,t⟩
   .rw[t];rfl
   rw[t]at r;simp only[gp]at r
   split at r<;>cases r
  cases A:z.mn.op.getLast? with|none=>exact(h0 (TL.1 A)).elim|some top=>exact(yk b (h.begun q h0) A E).1
 rw[M]
theorem qj.KC(r:aI a=0)(t:Ac a)(I:x.nx.length<=24){q:Nat×Eg}(C:q∈BR x g):(Zw a x g q).length<=DP (qk (cN x g)) (tq g q)/\tq g q<13:=by
 obtain⟨p,e⟩:=q;obtain⟨J,D,u⟩:=BS.1 C;obtain⟨z,b,rfl⟩:=h.kz p D;have E:=h.deep b;have c:=h.can z b e u;unfold Zw tq DP;simp only;rw[h.dep b];cases w:de e.m
 .simp only[cz,bn];have k:=GC c w;have A:0<z.mn.op.length:=xK.2 k;have B:=h.few r t b (d:=z.mn.op.length-1) (by omega) (.inl (by omega));rw[show(z.mn.op.length-1+1)/2=z.mn.op.length/2 by omega]at B;rw[yn,ar (by omega)];simp only[az,aE];omega
 simp only[bj,bG];have B:=h.few r t b (d:=z.mn.op.length) (aW _) (.inr (.inr ⟨e,u,w⟩))
 split<;>omega
theorem qj.cap:∀k,k<12->cN x g k<=Fk k (((BR x g).map (tq g)).count k):=by
 intro k _;have r:((BR x g).map (tq g)).count k=(BR x g).countP λq=>tq g q==k:=by rw[To,Tp];rfl
 have b:∀d,(d+1)/2=k->∀q,y6 g d q=true->(tq g q==k)=true:=by intro d O q c;simp only[y6,aL,bX]at c;simp only[tq,c.1,bj,c.2,O,DZ]
 unfold cN Fk;rw[r];refine Nat.le_min.2 ⟨Ea _ _,?_⟩;by_cases C:k=0
 .subst C;rw[ar rfl];exact fz (TM _ _) (List.countP_mono_left λq _ c=>b 0 rfl q c)
 rw[au C];by_cases t:aN x g (2*k)=0
 .rw[t];simp
 have D:=yh (b (2*k) (by omega)) (b (2*k-1) (by omega)) (λq E w=>by
  simp only[y6,aL,bX]at E w;omega) (BR x g)
 have I:1<=(BR x g).countP (y6 g (2*k-1)):=by
  have h0:0<(BR x g).countP (y6 g (2*k)):=by unfold aN at t;omega
  obtain⟨⟨p,e⟩,c,J⟩:=TN.1 h0;obtain⟨E,w,h3⟩:=BS.1 c;obtain⟨z,M,rfl⟩:=h.kz p w;simp only[y6,aL,bX]at J;rw[h.dep M]at J;have A:=lr M;obtain⟨P,V,u,X,Y,B,Z⟩:=h.pre _ z A rfl (2*k-1) _ (aR (by omega));refine TN.2 ⟨(V.st,Y),h.known u B,?_⟩;simp only[y6,aL,bX];exact⟨by rw[Z];exact P,by rw[h.dep u,X,oA];omega⟩
 refine fz (TM _ _) ?_;unfold aN;omega
theorem qj.bound(d:aI a=0)(r:Ac a)(t:x.nx.length<=24)(w:(x.nx.map List.length).sum<=120):g.l.length+129<3518437208883:=by
 have z:=r9 h.nd (λy A=>h.big A);rw[az,TK]at z;have D:((BR x g).map λq=>(Zw a x g q).length).sum<=((BR x g).map λq=>DP (qk (cN x g)) (tq g q)).sum:=Fl λq b=>(h.KC d r t b).1
 have u:=TE (N:=λk=>((BR x g).map (tq g)).count k) (M:=qk (cN x g)) (c:=cN x g) rfl (λ_=>rfl) ((BR x g).map (tq g)) (λ_=>rfl) h.cap (λv B=>by
  obtain⟨q,b,rfl⟩:=dt.1 B;exact(h.KC d r t b).2) (by rw[bG];exact fz (Np x g) w)
 rw[sv]at u;have C:(DP (qk (cN x g))∘tq g)=λq=>DP (qk (cN x g)) (tq g q):=rfl
 rw[C]at u;omega
end
def TO{a:Ar}{x:Fa}(hx:cf x)(hc:aI a=0)(ht:Ac a)(hn:x.nx.length<=24)(he:(x.nx.map List.length).sum<=120):Ku a x 3518437208883 24 where
 d:=by omega
 n:=aW _
 st:=λi g b=>by
  have h:=qj.run hx i b;have hb:=h.bound hc ht hn he;refine⟨λy u=>⟨h.st y u,?_⟩,λl hl=>?_,h.ne,by omega,h.C6,h.Zu⟩
  .rcases h.gen y u with rfl|⟨z,r,e,_,rfl⟩
   .simp[Ab]
   have:=h.deep r;have:=Du z.mn e.m;simp only;omega
  rcases h.opz l hl with rfl|⟨z,r,rfl⟩
  .simp
  have:=h.deep r;omega
 le:=λi g cur b c k=>by
  have h:=qj.run hx i b;have hb:=h.bound hc ht hn he;obtain⟨t,w,_,_,A⟩:=vr cur ((x.nx.getD cur.st []).take k) g.l h.nd;rw[w,cA];have B:(x.nx.getD cur.st []).length<=120:=by have q:=h.st cur (cG c);rw[getD_at q];refine fz ?_ he;exact yl (dt.2 ⟨_,cp q,rfl⟩)
  have h4:=List.length_take_le k (x.nx.getD cur.st []);have h5:=List.length_take_le' k (x.nx.getD cur.st []);omega
 fin:=λg b=>by have:=(qj.run hx _ b).bound hc ht hn he;omega
section
variable{s:HS}{av:aZ}{L:cE}{K:dv}
def Zz(h:aG s av L K)(a:Mv)(t:bc)(M:t.length<=100000):∃v s' b,R (.call 178 [.psl (a.c::t.map Mv.c)] s)=.val v s'/\cellsOf v=some [v]/\aG s' b (L++[(v,4,(a::t).map Mv.c)]) K:=by
 obtain⟨B,C⟩:=h.HT 4;generalize q:HS.mk _ _ _ _=O at C;have E:(L++[(HV.sl s.nx 0 0 4,4,([]:aO))])[L.length]?=some (.sl s.nx 0 0 4,4,[]):=by simp
 obtain⟨v,s2,d,u,I,D⟩:=C.vx L.length E (new:=(a::t).map Mv.c) (Sz.map (f:=Mv.c) (λx=>rfl) _) (bw:=4398046511104) (by simp;omega);have k:(L++[(HV.sl s.nx 0 0 4,4,([]:aO))]).set L.length (v,4,[]++(a::t).map Mv.c)=L++[(v,4,(a::t).map Mv.c)]:=by simp
 rw[k]at D;rw[cx]at u;have w:∃z,ev R U.Jw (bb [.psl (a.c::t.map Mv.c)] 0) s=.code .ret z s2/\look z 2=some v:=by generalize A:ev R U.Jw (bb [.psl (a.c::t.map Mv.c)] 0) s=r;simp only[Mv.c]at u A ⊢;simp[U.Jw,q,u]at A;subst A;exact⟨_,rfl,by simp⟩
 obtain⟨z,w,J⟩:=w;exact⟨v,s2,d,aeZ ⟨.ret,_,s2,w,.inr rfl,by simp[J]⟩,I,D⟩
def ZA(h:aG s av L K)(l:bc)(k:l.length<=100000):∃v s' b d,R (.call 178 [.psl (l.map Mv.c)] s)=.val v s'/\cellsOf v=some [v]/\aG s' b (L++d) K/\((l=[]/\v=.psl []/\d=[])∨d=[(v,4,l.map Mv.c)]):=by cases l with|nil=>exact⟨.psl [],s,av,[],aeY,rfl,by simpa using h,.inl ⟨rfl,rfl,rfl⟩⟩|cons a t=>obtain⟨v,s',b,q,r,u⟩:=Zz h a t (by simp at k;omega);exact⟨v,s',b,[(v,4,(a::t).map Mv.c)],q,r,u,.inr rfl⟩
end
def agW(m:Mv)(s:HS):R (.call 179 [.agg m.c] s)=.val (.bool (cJ m)) s:=by refine ae0 ?_;by_cases h:m.kind=3<;>simp[U.WL,h,aa,cJ]
def Vf(m:Mv)(b:Bool):Bool:=decide (m.kind≠3)&&decide (0<m.id)&&(decide (0<m.arg)==b)
def ZB(m:Mv)(b:Bool)(s:HS):R (.call 180 [.agg m.c,.bool b] s)=.val (.bool (Vf m b)) s:=by
 refine ae1 ?_;unfold Vf;by_cases h:m.kind=3
 .simp[U.RM,h,aa]
 by_cases d:0<m.id<;>simp[U.RM,h,d,aa]
def n7(x:Mn):aj:=[.psl (x.op.map Mv.c),.bool x.forced,.bool x.lost]
section
variable{a:Ar}{x:Mn}{m:Mv}
def yo(h:de m=true):m.kind≠3:=by intro b;simp[de,b]at h
def ZC(ok:dW a)(I:aI a=0)(b:gS a ⟨[],false,false,false⟩ m=true)(s:HS):
  R (.call 142 [.agg (n7 ⟨[],false,false,false⟩),.agg a.c,.agg m.c,.bool true] s)=.val (.bM [.agg (n7 (gp ⟨[],false,false,false⟩ m)),.bool true]) s:=by
 refine St ?_ rfl (by simp[n7]);have d:=MU a ok m;rw[pU,iQ b,I]at d;have hid:=(yj b rfl).2;have k:de m=true:=by unfold gS at b;rw[ar (iQ b)]at b;simp at b;exact b.2
 have J:=yo k;have h0:aG s0 (λ_=>none) [] []:=⟨dR.start (by simp),by simp,by simp⟩;have u:=h0.ds [.ah,.bool false,.bool false];generalize w:HS.mk _ _ _ _=A at u;obtain⟨M,q⟩:=u.Kj (sz:=4) (t:=[m.c]) (Sz.cons rfl Sz.nil);generalize z:HS.mk _ _ _ _=O at q;simp only[bA,az,aE,bF]at q;obtain⟨s3,B,r⟩:=q.put (a:=0) rfl (v:=.agg [.sl A.nx 0 1 4,.bool false,.bool false]) (new:=[.sl A.nx 0 1 4,.bool false,.bool false]) (by simp[cellsOf]) rfl;have C:=gU (l:=[.sl A.nx 0 1 4,.bool false,.bool false]) B rfl rfl;simp only[aQ]at r;have D:=(r.bD 0 _ _ rfl).1.1;have E:=(r.mem.own 0 _ _ _ rfl).vw (n:=12) (by simp[eM,da,dX]);simp only[Mv.c,hid]at E;simp only[eO,iI,iV,Ar.c,Mv.c,hid]at d;simp only[az,aE,bF,Nat.reduceAdd,cV,ml,BB,Mv.c,hid]at w z B C D;unfold gp;rw[ar k];simp[U.qF,n7,d,hid,J,w,z,B,D,ao];refine aH (.bM (.cons (.agg (.cons E (.data (by simp)))) (.data (by simp))))
end
section
variable{a:Ar}{m top:Mv}{l:bc}{n:Nat}
def ZD(ok:dW a)(hc:aI a=0)(hl:l.length<=400)(hn:l.length=n+1)(I:l[n]?=some top)(J:fv a m=true)(M:de m=true)
  (h1:(0<top.id/\top.arg=0)->m.id=top.id/\0<m.arg)(h2:¬(0<top.id/\top.arg=0)->0<m.id/\m.arg=0)(s:HS):
  R (.call 142 [.agg [.psl (l.map Mv.c),.bool false,.bool false],.agg a.c,.agg m.c,.bool false] s)=.val (.bM [.agg [.psl ((l++[m]).map Mv.c),.bool false,.bool false],.bool true]) s:=by
 refine St ?_;have k:=MU a ok m;rw[pU,J,hc]at k;have O:=yo M;obtain⟨z,A⟩:=aS.1 I;have h6:(n:Int)<l.length:=by omega
 have h7:¬(l.length:Int)=0:=by omega
 have t:l≠ []:=λh=>by rw[h]at hn;cases hn
 have hw:bQ .i64 ((l.length:Int)-1)=n:=by rw[hn];simp;exact bT (by omega) (by omega)
 have h0:aG s0 (λ_=>none) [] []:=⟨dR.start (by simp),by simp,by simp⟩;have B:=h0.ds [.ah,.bool false,.bool false];generalize u:HS.mk _ _ _ _=S1 at B;have C:=B.ds top.c;have hz:=B.ds [.int .i64 0,.int .i64 0,.int .u8 0,.int .i64 0];have E:=(C.bD 0 _ _ rfl).1.1;generalize q:HS.mk _ _ _ _=S2 at C E;obtain⟨v,s3,c3,L',r,k3,P,h3⟩:=ZA C l (by omega);rcases h3 with⟨h,_⟩|rfl
 .exact(t h).elim
 have d3:=(P.bD 0 _ _ rfl).1.1;obtain⟨v4,s4,c4,a4,k4,V⟩:=P.append 0 rfl (new:=[m.c]) (Sz.cons rfl Sz.nil) (by simp) (bw:=4398046511104) (by simp;omega);simp only[bA,aQ]at V;obtain⟨s5,X,D⟩:=V.put (a:=1) rfl (v:=.agg [v4,.bool false,.bool false]) (new:=[v4,.bool false,.bool false]) (by simp[cellsOf]) rfl;have h4:=gU (l:=[v4,.bool false,.bool false]) X (by simp[cellsOf]) rfl;simp only[cd,aQ]at D;have d5:=(D.bD 1 _ _ rfl).1.1;have hv:=(D.mem.own 0 _ _ _ rfl).vw (n:=12) (by rw[show l.map Mv.c++[m.c]=(l++[m]).map Mv.c by simp];exact cq (λx=>by simp[da,dX]) _);have b:=ZB m false;have d:=ZB m true;have hQ:Vf m false=(decide (0<m.id)&& !decide (0<m.arg)):=by unfold Vf;simp[O]
 have h5:Vf m true=(decide (0<m.id)&&decide (0<m.arg)):=by unfold Vf;simp[O]
 rw[hQ]at b;rw[h5]at d;simp only[eO,iI,iV,Ar.c,Mv.c]at k;simp only[Mv.c]at b d a4 q E d3;simp only[az,aE,bF,Nat.reduceAdd]at u q E d3 d5;simp only[az,aE,bF,Nat.reduceAdd]at X h4;by_cases Y:0<top.id
 .by_cases w:top.arg=0
  .obtain⟨Z,q2⟩:=h1 ⟨Y,w⟩;have q3:0<m.id:=by omega
   simp only[q3,q2,eO,nV,xR,jb]at b d;simp[U.qF,k,t,hw,z,A,O,u,q,E,ai,an,ao,Y,cQ w,b,d,cQ Z,r,a4,k4,X,d5];exact aH (.bM (.cons (.agg (.cons (by simpa using hv) (.data (by simp)))) (.data (by simp))))
  obtain⟨Z,q2⟩:=h2 (λh=>w h.2);have q4:¬0<m.arg:=by omega
  simp only[Z,q4,eO,kJ,xT,xR,jb]at b d;simp[U.qF,k,t,hw,z,A,O,u,q,E,ai,an,ao,Y,w,b,r,a4,k4,X,d5];exact aH (.bM (.cons (.agg (.cons (by simpa using hv) (.data (by simp)))) (.data (by simp))))
 obtain⟨Z,q2⟩:=h2 (λh=>Y h.1);have q4:¬0<m.arg:=by omega
 simp only[Z,q4,eO,kJ,xT,xR,jb]at b d;simp[U.qF,k,t,hw,z,A,O,u,q,E,ai,an,ao,Y,b,r,a4,k4,X,d5];exact aH (.bM (.cons (.agg (.cons (by simpa using hv) (.data (by simp)))) (.data (by simp))))
end
set_option maxHeartbeats 4000000
section
variable{a:Ar}{m top:Mv}{l:bc}{n:Nat}
def ZE(ok:dW a)(hc:aI a=0)(w J:Bool)(hl:l.length<=400)(hn:l.length=n+1)(ho:l[n]?=some top)(hd:fv a m=true)(hk:m.kind=3)
  (X:m.id=top.id)(I:m.arg=top.arg)(h3:(J||w)=true->m.n= -1)
  (h4:(J||w)=false->m.n= -1->0<top.arg∨(top.arg=0/\0<top.id/\a.jumps=true))(h5:(J||w)=false->¬m.n= -1->top.kind=1∨m.n=0)(s:HS):
  R (.call 142 [.agg [.psl (l.map Mv.c),.bool J,.bool w],.agg a.c,.agg m.c,.bool false] s)=
   .val (.bM [.agg [.psl (l.dropLast.map Mv.c),.bool (cJ m&&decide (0<m.arg)),.bool (w||(cJ m&&decide (0<m.id)&&decide (m.arg=0)&& !J))],.bool true]) s:=by
 refine St ?_;have d:=MU a ok m;rw[pU,hd,hc]at d;obtain⟨g1,g2,g3,_,g5⟩:=eY hd;obtain⟨C,D⟩:=aS.1 ho;have hx:(n:Int)<l.length:=by omega
 have hy:¬(l.length:Int)=0:=by omega
 have E:l≠ []:=λh=>by rw[h]at hn;cases hn
 have hw:bQ .i64 ((l.length:Int)-1)=n:=by rw[hn];simp;exact bT (by omega) (by omega)
 have h0:aG s0 (λ_=>none) [] []:=⟨dR.start (by simp),by simp,by simp⟩;have hp:=h0.ds [.ah,.bool false,.bool false];generalize z:HS.mk _ _ _ _=S1 at hp;have hf:=hp.ds top.c;have d2:=(hf.bD 0 _ _ rfl).1.1;generalize u:HS.mk _ _ _ _=S2 at hf d2;have hr:(l.map Mv.c).take n=l.dropLast.map Mv.c:=by rw[J7,hn];simp
 obtain⟨v,s3,c3,L',q,k3,hq,hs⟩:=ZA hf l.dropLast (by simp;omega);have d3:=(hq.bD 0 _ _ rfl).1.1;have A:cZ 4 (l.map Mv.c)=true:=mo (Sz.map (f:=Mv.c) (λ_=>rfl) l);have hg:=hq.ds [.ah,.bool false,.bool false];generalize B:HS.mk _ _ _ _=S4 at hg;have d4:=(hg.bD 1 _ _ rfl).1.1;have H:∀fb lb:Bool,∃s5 s6,(pR 3 (some (.ptr s3.nx 0)) (some (.agg [v,.bool fb,.bool lb])) S4=.v .undef s5)/\(pR 3 (some (.ptr s0.nx 0)) (some (.agg [v,.bool fb,.bool lb])) s5=.v .undef s6)/\ak s5.h s3.nx=some (.cells (cM [v,.bool fb,.bool lb]) 0 3 s3.nx)/\ak s5.h S1.nx=some (.cells (cM top.c) 0 4 S1.nx)/\ak s6.h S1.nx=some (.cells (cM top.c) 0 4 S1.nx)/\ak s6.h s0.nx=some (.cells (cM [v,.bool fb,.bool lb]) 0 3 s0.nx)/\∀b,zG (.val (.bM [.agg [v,.bool fb,.bool lb],.bool b]) s6)=some (.bM [.agg [.psl (l.map Mv.c).dropLast,.bool fb,.bool lb],.bool b]):=by
  intro fb lb;rw[<-List.map_dropLast];obtain⟨s5,P,h8⟩:=hg.put (a:=0) rfl (v:=.agg [v,.bool fb,.bool lb]) (new:=[v,.bool fb,.bool lb]) (by simp[cellsOf]) rfl;simp only[aQ]at h8;obtain⟨s6,V,h9⟩:=h8.put (a:=2) rfl (v:=.agg [v,.bool fb,.bool lb]) (new:=[v,.bool fb,.bool lb]) (by simp[cellsOf]) rfl;simp only[cd,aQ]at h9;refine⟨s5,s6,P,V,(h8.bD 0 _ _ rfl).1.1,(h8.bD 1 _ _ rfl).1.1,(h9.bD 1 _ _ rfl).1.1,(h9.bD 2 _ _ rfl).1.1,λb=>aH (.bM (.cons (.agg (.cons ?_ (.data (by simp)))) (.data (by simp))))⟩;rcases hs with⟨h,rfl,rfl⟩|rfl
  .rw[h];exact .data rfl
  exact(h9.mem.own 0 _ _ _ rfl).vw (n:=12) (cq (λx=>by simp[da,dX]) _)
 have k:=agW m;have r:n<=l.length:=by omega
 rw[<-hr]at q;simp only[eO,iI,iV,Ar.c,Mv.c]at d;simp only[Mv.c]at u d2 q k A;simp only[az,aE,bF,Nat.reduceAdd]at z u B d2 d3 d4;by_cases M:m.n= -1
 .have h6:cJ m=true:=by simp[cJ,hk,M]
  rw[h6]at k ⊢;simp only[iI];by_cases ha:0<top.arg
  .have t:¬top.arg=0:=by omega
   have O:0<top.id:=by rw[<-X];exact g3 (by rw[I];exact ha)
   have hb:decide (0<m.arg)=true:=by rw[I];simpa using ha
   have h7:(w||(decide (0<m.id)&&decide (m.arg=0)&& !J))=w:=by rw[I];simp[t]
   rw[hb,h7];obtain⟨s5,s6,P,V,Y,Z,e6,d6,hv⟩:=H true w;cases J<;>cases w<;>simp-implicitDefEqProofs[U.qF,d,E,hw,C,r,D,cQ hk,z,u,B,d2,d3,k3,ai,an,ao,cQ M,ha,t,O,cQ X,cQ I,q,k,A,P,V,d4,Y,Z,e6,d6]<;>exact hv _
  have t:top.arg=0:=by rw[I]at g2;omega
  have hb:decide (0<m.arg)=false:=by rw[I];simpa using ha
  by_cases O:0<top.id
  .have h7:(w||(decide (0<m.id)&&decide (m.arg=0)&& !J))=(w|| !J):=by rw[X,I];simp[t,O]
   rw[hb,h7];cases J
   .obtain⟨s5,s6,P,V,Y,Z,e6,d6,hv⟩:=H false true;cases w
    .have hj:a.jumps=true:=by rcases h4 rfl M with h|⟨_,_,h⟩;exact(ha h).elim;exact h
     rw[hj]at d;simp-implicitDefEqProofs[U.qF,d,E,hw,C,r,D,cQ hk,z,u,B,d2,d3,k3,ai,an,ao,cQ M,ha,cQ t,O,hj,cQ X,cQ I,q,k,A,P,V,d4,Y,Z,e6,d6];exact hv _
    simp-implicitDefEqProofs[U.qF,d,E,hw,C,r,D,cQ hk,z,u,B,d2,d3,k3,ai,an,ao,cQ M,ha,cQ t,O,cQ X,cQ I,q,k,A,P,V,d4,Y,Z,e6,d6];exact hv _
   obtain⟨s5,s6,P,V,Y,Z,e6,d6,hv⟩:=H false w;cases w<;>simp-implicitDefEqProofs[U.qF,d,E,hw,C,r,D,cQ hk,z,u,B,d2,d3,k3,ai,an,ao,cQ M,ha,cQ t,O,cQ X,cQ I,q,k,A,P,V,d4,Y,Z,e6,d6]<;>exact hv _
  have h7:(w||(decide (0<m.id)&&decide (m.arg=0)&& !J))=w:=by rw[X];simp[O]
  rw[hb,h7];obtain⟨s5,s6,P,V,Y,Z,e6,d6,hv⟩:=H false w;have hj:J=true∨w=true:=by
   cases J<;>cases w<;>simp;rcases h4 rfl M with h|⟨_,h,_⟩
   .exact(ha h).elim
   exact(O h).elim
  rcases hj with rfl|rfl
  .cases w<;>simp-implicitDefEqProofs[U.qF,d,E,hw,C,r,D,cQ hk,z,u,B,d2,d3,k3,ai,an,ao,cQ M,ha,O,cQ X,cQ I,q,k,A,P,V,d4,Y,Z,e6,d6]<;>exact hv _
  cases J<;>simp-implicitDefEqProofs[U.qF,d,E,hw,C,r,D,cQ hk,z,u,B,d2,d3,k3,ai,an,ao,cQ M,ha,O,cQ X,cQ I,q,k,A,P,V,d4,Y,Z,e6,d6]<;>exact hv _
 have h6:cJ m=false:=by simp[cJ,hk,M]
 rw[h6]at k ⊢;have ht:(J||w)=false:=by cases h:(J||w)with|false=>rfl|true=>exact(M (h3 h)).elim
 obtain⟨rfl,rfl⟩:J=false/\w=false:=by simpa using ht
 simp only[xQ,TG];obtain⟨s5,s6,P,V,Y,Z,e6,d6,hv⟩:=H false false;by_cases ha:0<top.arg
 .have t:¬top.arg=0:=by omega
  have O:0<top.id:=by rw[<-X];exact g3 (by rw[I];exact ha)
  by_cases hu:top.kind=1
  .simp-implicitDefEqProofs[U.qF,d,E,hw,C,r,D,cQ hk,z,u,B,d2,k3,ai,an,ao,M,cQ hu,t,O,cQ X,cQ I,q,k,A,P,V,d4,Y,Z,e6,d6];exact hv _
  simp-implicitDefEqProofs[U.qF,d,E,hw,C,r,D,cQ hk,z,u,B,d2,k3,ai,an,ao,M,hu,cQ ((h5 rfl M).resolve_left hu),t,O,cQ X,cQ I,q,k,A,P,V,d4,Y,Z,e6,d6];exact hv _
 have t:top.arg=0:=by rw[I]at g2;omega
 by_cases hu:top.kind=1
 .by_cases O:0<top.id<;>simp-implicitDefEqProofs[U.qF,d,E,hw,C,r,D,cQ hk,z,u,B,d2,k3,ai,an,ao,M,cQ hu,cQ t,O,cQ X,cQ I,q,k,A,P,V,d4,Y,Z,e6,d6]<;>exact hv _
 by_cases O:0<top.id<;>simp-implicitDefEqProofs[U.qF,d,E,hw,C,r,D,cQ hk,z,u,B,d2,k3,ai,an,ao,M,hu,cQ ((h5 rfl M).resolve_left hu),cQ t,O,cQ X,cQ I,q,k,A,P,V,d4,Y,Z,e6,d6]<;>exact hv _
end
section
variable{a:Ar}{x:Mn}{m:Mv}
def agX(ok:dW a)(C:aI a=0)(b:gS a x m=true)(hlen:x.op.length<=400)(X:x.begun=false->x.op=[]/\x.forced=false/\x.lost=false)(s:HS):
  R (.call 142 [.agg (n7 x),.agg a.c,.agg m.c,.bool (!x.begun)] s)=.val (.bM [.agg (n7 (gp x m)),.bool true]) s:=by
 obtain⟨op,r,t,Y⟩:=x;cases Y with
 |false=>obtain⟨I,J,M⟩:=X rfl;simp only at I J M;subst I J M;exact ZC ok C b s
 |true=>
  have d:=iQ b;obtain⟨g1,Z,g3,g4,g5⟩:=eY d;unfold gS at b;rw[ar d]at b;simp only[bj]at b hlen;cases B:op.getLast? with
  |none=>rw[B]at b;cases b
  |some top=>
   rw[B]at b;simp only at b;have O:op.length=op.length-1+1:=by cases op with|nil=>simp at B|cons _ _=>simp
   have q:op[op.length-1]?=some top:=by rw[<-List.getLast?_eq_getElem?];exact B
   have z:cJ m=true->m.kind=3/\m.n= -1:=by intro h;simpa[cJ]using h
   have D:de m=true->m.kind≠3:=yo;have A:uF top m=true->m.id=top.id/\m.arg=top.arg/\m.kind=3/\(top.kind=1∨m.n<=0):=by intro h;simpa[uF,and_assoc]using h
   cases u:de m with
   |true=>
    have k:(r||t)=false:=by cases h:(r||t)with|false=>rfl|true=>rw[h]at b;simp at b;exact(D u (z b.2).1).elim
    obtain⟨rfl,rfl⟩:r=false/\t=false:=by simpa using k
    simp only[Bool.or_self,cz,bn,u,bj]at b;have:=ZD ok C hlen O q d u (λh=>by simpa[h.1,h.2]using b) (λh=>by
     rw[au (by simpa using h)]at b;simpa using b) s
    unfold gp;rw[ar u];exact this
   |false=>
    have w:m.kind=3:=by
     have:¬(m.kind=1∨m.kind=2):=by intro h;simp[de,h]at u
     rcases g4 with h|h|h
     .exact(this (.inl h)).elim
     .exact(this (.inr h)).elim
     exact h
    have hA:uF top m=true/\((r||t)=true->cJ m=true)/\((r||t)=false->cJ m=true->top.arg=0->0<top.id/\a.jumps=true):=by
     cases k:(r||t)with
     |true=>rw[k]at b;simp at b;exact⟨b.1,λ_=>b.2,λh=>by cases h⟩
     |false=>
      rw[k]at b;simp only[cz,bn,u]at b;cases E:cJ m with
      |false=>rw[E]at b;simp at b;exact⟨b,λh=>(by cases h),λ_ h=>(by cases h)⟩
      |true=>
       by_cases h0:top.arg=0
       .rw[E,h0]at b;simp at b;exact⟨b.1.1,λh=>(by cases h),λ_ _ _=>⟨b.1.2,b.2⟩⟩
       rw[E]at b;simp[h0]at b;exact⟨b,λh=>(by cases h),λ_ _ h=>(h0 h).elim⟩
    obtain⟨q1,q2,q3⟩:=hA;obtain⟨i1,P,i3,i4⟩:=A q1;have:=ZE ok C r t hlen O q d w i1 P (λh=>(z (q2 (by rw[E8];exact h))).2) (λh V=>by
      by_cases h0:top.arg=0
      .obtain⟨r1,r2⟩:=q3 (by rw[E8];exact h) (by simp[cJ,w,V]) h0;exact .inr ⟨h0,r1,r2⟩
      .rw[P]at Z;exact .inl (by omega)) (λh V=>by
      rcases i4 with h|h
      .exact .inl h
      have:=g5 w;exact .inr (by omega)) s
    unfold gp;rw[au (by rw[u];decide)];exact this
end
def lI(n:Nat):ay:=if n<128 then [n]else [192+n/64,128+n%64]
def Nq(v:bO)(s:HS):cR:=match v with|some (.int _ (.ofNat n))=>bif Nat.blt n 128 then .v (.str [n]) s else bif Nat.blt n 2048 then .v (.str [192+n/64,128+n%64]) s else .bad|_=>.bad
@[simp]def aa0{e:En}{s:HS}{x:X}:cU (.cis x) e s=Nq (bp x e) s:=rfl
def Dz{s:HS}{k:IntKind}{n:Nat}(h:n<2048):Nq (some (.int k (n:Int))) s=.v (.str (lI n)) s:=by
 show(bif Nat.blt n 128 then cR.v (.str [n]) s else bif Nat.blt n 2048 then .v (.str [192+n/64,128+n%64]) s else .bad)=_;unfold lI;by_cases b:n<128
 .rw[ch.2 b,ar b];rfl
 have:Nat.blt n 128=false:=by cases c:Nat.blt n 128 with|false=>rfl|true=>exact(b (ch.1 c)).elim
 rw[this,ch.2 h,au b];rfl
def DA{n:Nat}(h:n<2048):∀k∈lI n,k<256:=by
 intro k b;unfold lI at b
 split at b
 .simp at b;omega
 simp at b;omega
def tw(n:Nat):(lI n).length<=2:=by unfold lI;split<;>simp
section
variable{s:HS}{av:aZ}{L:cE}{K:dv}
def nJ.keep{s':HS}{o:Ky}{p v:HV}{F:bU}{aq:aO}(q:nJ s o p v)(B:o.toNat<s.nx.toNat)(w:ck s v 1 F aq)(z:∀k,k.toNat<s.nx.toNat->ak s'.ty k=ak s.ty k):nJ s' o p v:=by
 refine⟨by rw[z o B];exact q.ty,q.pp,λr a b c d=>?_⟩;have u:r.toNat<s.nx.toNat:=by
  rcases w.2.2 with⟨h,_⟩|⟨E,t,I,g,A,C,_,_,_,_,_,D,_⟩
  .rw[h]at d;cases d
  rw[C]at d;cases d;exact w.2.1 _ (D _ (by simp))
 rw[z r u];exact q.tv r a b c d
def Om{a i:Nat}{o:Ky}{p v:HV}{l:ay}(O:aG s av L K)(A:K[a]?=some (o,[p,v]))(Z:L[i]?=some (v,1,l.map uC))(B:nJ s o p v)(t:ay)(hl:l.length+t.length<=140737488355328):
  ∃c s' d,R (.call 181 [.ptr o 0,.str t] s)=.val (.bM [iV t.length,.fQ]) s'/\aG s' d (L.set i (c,1,(l++t).map uC)) (K.set a (o,[.ptr o 0,c]))/\nJ s' o (.ptr o 0) c/\(∀k,k.toNat<s.nx.toNat->ak s'.ty k=ak s.ty k):=by
 obtain⟨s1,h1,q,C,P⟩:=Ts O A B;have D:=(aS.1 A).1;have E:=(O.bD a o _ A).1.2.2;have u:(K.set a (o,[.ptr o 0,v]))[a]?=some (o,[.ptr o 0,v]):=by rw[gn D]
 have V:=(q.bD a o _ u).1.1;obtain⟨c,s2,w,h2,k2,I,tv,X,n2⟩:=Kh q Z (by rw[C];exact B.tv) t hl;obtain⟨s3,h3,b,J,n3⟩:=I.Ng u 1 (by simp) k2;rw[BM]at b;simp only[cd,aQ]at b;simp only[az,aE,bF,Nat.reduceAdd]at V;have M:∃z,ev R U.EF (bb [.ptr o 0,.str t] 0) s=.code .ret z s3/\look z 4=some (iV t.length)/\look z 5=some .fQ:=by generalize Y:ev R U.EF (bb [.ptr o 0,.str t] 0) s=r;simp[U.EF,h1,V,h2,h3]at Y;subst Y;exact⟨_,rfl,by simp⟩
 obtain⟨z,M,h4,h5⟩:=M;refine⟨c,s3,w,X0 rfl ⟨.ret,_,s3,M,.inr rfl,by simp[h4,h5]⟩,b,⟨?_,.inr rfl,by rw[J];exact tv⟩,λk hk=>by rw[J,X k (by rw[P];exact hk),C]⟩;rw[J,X o (by rw[P];exact E),C];exact B.ty
def On{F:bU}{o:Ky}{p v:HV}{l:ay}(r:gJ s o [p,v])(q:ck s v 1 F (l.map uC))(C:nJ s o p v)(h0:v=.ah∨l≠ [])(D:l.length<=4611686018427387904)(E:∀n∈l,n<256):
  ∃s',R (.call 104 [.ptr o 0] s)=.val (.str l) s'/\cX F s s':=by
 have I:=r.1;have d:s.load o 1 none=some v:=by show s.cell o 1=_;rw[Ba,I];simp
 rcases h0 with rfl|h0
 .have u:l=[]:=by
   rcases q.2.2 with⟨_,h⟩|⟨J,t,w,g,c,z,_⟩
   .exact Fe.1 h
   cases z
  subst u;refine⟨s,dr ?_ trivial,aW _,rfl,λ_ _ _=>rfl,λ_ _ _=>rfl⟩;show lN LU [.ptr o 0] s=_;unfold lN;simp only[d]
 obtain⟨A,rfl⟩:=q.gw (by intro h;exact h0 (Fe.1 h));obtain⟨m,M⟩:=C.tv _ _ _ _ rfl;have b:=q.cells.2;rcases q.2.2 with⟨h,_⟩|⟨J,t,w,g,c,z,B,X,Y,O,_,P,_⟩
 .cases h
 cases z;refine⟨{h:=fh s.h (A::c),nx:=s.nx,gr:=s.gr,ty:=s.ty},dr ?_ trivial,aW _,rfl,λk _ V=>(jk s.h (A::c) k).2 (λh=>V (P _ h)),λ_ _ _=>rfl⟩;show lN LU [.ptr o 0] s=_;unfold lN;have hlen:0<l.length:=xK.2 h0;rw[bG]at d b;rw[iu,vm,B]at b;simp only[d,M,ib,b,ye l E,B,O];rw[show Nat.beq 5 LU.H9=true from rfl,ch.2 hlen,show Nat.ble l.length 4611686018427387904=true from zc D];rfl
end
def mvS(m:Mv):Prop:=0<=m.id/\m.id<=8/\0<=m.arg/\m.arg<=8/\1<=m.kind/\m.kind<=3
def yp(m:Mv):ay:=lI (64*m.id+m.arg+1).toNat++[32]
def sa(m:Mv):ay:=lI m.kind.toNat
def KD(b:Bool):ay:=if b then [121]else [110]
def wrap32{n:Int}(h0:0<=n)(b:n<2048):bQ .i32 n=n:=by show IntKind.wrap .i32 n=n;obtain⟨k,rfl⟩:=Int.eq_ofNat_of_zero_le h0;simp[IntKind.wrap,IntKind.bits,IntKind.signed];omega
def mK{f:Mv->ay}{c:Nat}(b:∀m,(f m).length<=c):∀l:bc,(l.flatMap f).length<=c*l.length
 |[]=>by simp
 |a::l=>by have:=mK b l;have:=b a;rw[mB,cA,az,Nat.mul_succ];omega
def yq(m:Mv):(yp m).length<=3:=by have:=tw (64*m.id+m.arg+1).toNat;simp[yp];omega
def yr(m:Mv):(sa m).length<=2:=tw _
def ZF{l:bc}(hl:l.length<=400)(hS:∀m∈l,mvS m){e:En}{s:HS}{o:Out}{u w:Ky}{q b t d v1:HV}{av:aZ}
  (B:bH e [(1,v1),(4,.ptr u 0),(5,.ptr w 0),(10,.psl (l.map Mv.c)),(11,iV l.length),(12,iV 0)])
  (J:aG s av [(b,1,[]),(d,1,[])] [(w,[t,d]),(u,[q,b])])(C:nJ s u q b)(D:nJ s w t d)(h0:b=.ah/\d=.ah)(ho:bJ R (.loop U.wH) e s=o):
  ∃(e':En) (s':HS) (av:aZ) (q b t d:HV),o=.code (.exit 0) e' s'/\bH e' [(1,v1),(4,.ptr u 0),(5,.ptr w 0)]/\
   aG s' av [(b,1,(l.flatMap yp).map uC),(d,1,(l.flatMap sa).map uC)] [(w,[t,d]),(u,[q,b])]/\nJ s' u q b/\nJ s' w t d/\(l=[]->b=.ah/\d=.ah):=by
 refine ba ho l.length
  (λi e s=>∃(av:aZ) (q b t d:HV),bH e [(1,v1),(4,.ptr u 0),(5,.ptr w 0),(10,.psl (l.map Mv.c)),(11,iV l.length),(12,iV i)]/\
   aG s av [(b,1,((l.take i).flatMap yp).map uC),(d,1,((l.take i).flatMap sa).map uC)] [(w,[t,d]),(u,[q,b])]/\nJ s u q b/\nJ s w t d/\(l=[]->b=.ah/\d=.ah))
  (λo=>∃(e':En) (s':HS) (av:aZ) (q b t d:HV),o=.code (.exit 0) e' s'/\bH e' [(1,v1),(4,.ptr u 0),(5,.ptr w 0)]/\
   aG s' av [(b,1,(l.flatMap yp).map uC),(d,1,(l.flatMap sa).map uC)] [(w,[t,d]),(u,[q,b])]/\nJ s' u q b/\nJ s' w t d/\(l=[]->b=.ah/\d=.ah))
  0 (by omega) ⟨av,q,b,t,d,B,by simpa using J,C,D,λ_=>h0⟩
  (λi e s r E ⟨av,q,b,t,d,B,J,C,D,h0⟩ M=>by
   have Z:(i:Int)<l.length:=by omega
   have h1:=aR E;obtain⟨g1,g2,g3,g4,g5,g6⟩:=hS _ (cp E);have h4:(l.map Mv.c)[i]?=some (l[i]).c:=by rw[fR,h1];rfl
   have h5:l.take (i+1)=l.take i++[l[i]]:=fC E;generalize he:l[i]=m at*;have hx:=mK yq (l.take i);have hy:=mK yr (l.take i);have hz:(l.take i).length<=400:=by simp;omega
   have z:=J.ds m.c;have I:=(z.bD 0 _ _ rfl).1.1;have O:nJ {h:=ax (some (.cells (cM m.c) 0 m.c.length s.nx)) s.nx s.h,nx:=s.nx.succ,gr:=ax (some [s.nx]) s.nx s.gr,ty:=s.ty} u q b:=⟨C.ty,C.pp,C.tv⟩;have P:nJ {h:=ax (some (.cells (cM m.c) 0 m.c.length s.nx)) s.nx s.h,nx:=s.nx.succ,gr:=ax (some [s.nx]) s.nx s.gr,ty:=s.ty} w t d:=⟨D.ty,D.pp,D.tv⟩;generalize V:HS.mk _ _ _ _=S1 at z I O P;have k1:=yq m;have k2:=yr m;obtain⟨h6,s2,c2,h2,A,h7,t2⟩:=Om (a:=2) (i:=0) z rfl rfl O (yp m) (by omega);have h8:=P.keep (z.bD 1 _ _ rfl).1.2.2 (z.mem.own 1 _ _ _ rfl) t2;simp only[aQ,cd]at A;have X:=(A.bD 0 _ _ rfl).1.1;have h9:=(A.bD 2 _ _ rfl).1.2.2;obtain⟨ha,s3,c3,h3,Y,hb,t3⟩:=Om (a:=1) (i:=1) A rfl rfl h8 (sa m) (by omega);have hd:=h7.keep h9 (A.mem.own 0 _ _ _ rfl) t3;simp only[aQ,cd]at Y;have hf:bQ .i64 (64*m.id)=64*m.id:=bT (by omega) (by omega);have hg:bQ .i64 (64*m.id+m.arg)=64*m.id+m.arg:=bT (by omega) (by omega);have hj:bQ .i64 (64*m.id+m.arg+1)=64*m.id+m.arg+1:=bT (by omega) (by omega);have hk:bQ .i32 (64*m.id+m.arg+1)=64*m.id+m.arg+1:=wrap32 (by omega) (by omega);have hp:bQ .i32 m.kind=m.kind:=wrap32 (by omega) (by omega);have hq:∀s,Nq (some (.int .i32 (64*m.id+m.arg+1))) s=.v (.str (lI (64*m.id+m.arg+1).toNat)) s:=by intro s;have:=Dz (s:=s) (k:=.i32) (n:=(64*m.id+m.arg+1).toNat) (by omega);rwa[JR (by omega)]at this
   have hs:∀s,Nq (some (.int .i32 m.kind)) s=.v (.str (lI m.kind.toNat)) s:=by intro s;have:=Dz (s:=s) (k:=.i32) (n:=m.kind.toNat) (by omega);rwa[JR (by omega)]at this
   have k0:=tw (64*m.id+m.arg+1).toNat;have ht:∀s,ny false .add (some (.str (lI (64*m.id+m.arg+1).toNat))) (some (.str [32])) s=.v (.str (lI (64*m.id+m.arg+1).toNat++[32])) s:=λs=>pC (by simp;omega)
   have hw:=bo E (by omega);simp only[Mv.c,az,aE,bF,Nat.reduceAdd]at I X V h4;unfold yp at h2;unfold sa at h3;simp only[ab,ae]at B;simp[U.wH,B,E,Z,he,V,I,ai,an,hf,hg,hj,hk,hp,hq,hs,ht,h2,X,h3,hw]at M;subst M;refine .inl ⟨_,_,rfl,c3,_,h6,_,ha,by simp[B],?_,hd,hb,λh=>by rw[h]at E;exact(Nat.not_lt_zero _ E).elim⟩;rw[h5,tb,tb];simpa using Y.Gr)
  (λe s r ⟨av,q,b,t,d,B,J,C,D,h0⟩ M=>by
   simp only[ab,ae]at B;simp[U.wH,B]at M;subst M;rw[iH (aW _)]at J;exact⟨by simp,_,_,av,q,b,t,d,rfl,by simp[B],J,C,D,h0⟩)
def qU(l:bc):ay:=l.flatMap yp
def n8(x:Mn):ay:=x.op.flatMap sa++KD x.forced++KD x.lost
abbrev Oo:Kd:=⟨false,[1]⟩
section
variable{s:HS}{o:Ky}
def agY(h:ak s.h o=some (.mp [])):SK Oo (some (.mp o)) (some (HV.bool false)) (some (HV.str [110])) s=.v .undef (s.aK o (.mp [(HV.bool false,HV.str [110])])):=by
 show(match ak s.h o with
   |some (.mp es)=>(match dM Oo es (HV.bool false) 0 with
    |some (i,some _)=>cR.v .undef (s.aK o (.mp (lL es i (HV.str [110]))))
    |some (_,none)=>.v .undef (s.aK o (.mp (es++[(HV.bool false,HV.str [110])])))
    |none=>.bad)
   |_=>.bad)=_
 rw[h];rfl
def agZ(h:ak s.h o=some (.mp [(HV.bool false,HV.str [110])])):SK Oo (some (.mp o)) (some (HV.bool true)) (some (HV.str [121])) s=.v .undef (s.aK o (.mp [(HV.bool false,HV.str [110]),(HV.bool true,HV.str [121])])):=by
 show(match ak s.h o with
   |some (.mp es)=>(match dM Oo es (HV.bool true) 0 with
    |some (i,some _)=>cR.v .undef (s.aK o (.mp (lL es i (HV.str [121]))))
    |some (_,none)=>.v .undef (s.aK o (.mp (es++[(HV.bool true,HV.str [121])])))
    |none=>.bad)
   |_=>.bad)=_
 rw[h];rfl
def Vg(h:ak s.h o=some (.mp [(HV.bool false,HV.str [110]),(HV.bool true,HV.str [121])]))(b:Bool):Yn Oo (some (.mp o)) (some (HV.bool b)) (HV.str []) false s=.v (HV.str (KD b)) s:=by
 show(match ak s.h o with
   |some (.mp es)=>(match dM Oo es (HV.bool b) 0 with
    |some (_,some v)=>cR.v v s
    |some (_,none)=>.v (HV.str []) s
    |none=>.bad)
   |_=>.bad)=_
 rw[h];cases b<;>rfl
end
def ag0{x:Mn}(hl:x.op.length<=400)(hS:∀m∈x.op,mvS m)(s:HS):R (.call 143 [.agg (n7 x)] s)=.val (.bM [.str (qU x.op),.str (n8 x)]) s:=by
 refine aen ?_ rfl (by simp[n7]);have h0:aG s0 (λ_=>none) [] []:=⟨dR.start (by simp),by simp,by simp⟩;have z:=((h0.ds [.dO,.ah]).ty (ax (some (188,2)) s0.nx s0.ty));simp only[az,aE,bF,Nat.reduceAdd]at z;have V:nJ (HS.mk (ax (some (.cells (cM [.dO,.ah]) 0 2 s0.nx)) s0.nx s0.h) s0.nx.succ (ax (some [s0.nx]) s0.nx s0.gr) (ax (some (188,2)) s0.nx s0.ty)) s0.nx .dO .ah:=⟨by simp only;rw[af,ar rfl],.inl rfl,λo a b c h=>by cases h⟩;generalize h2:HS.mk _ _ _ _=d at z V;have I:=((((z.ds [.dO,.ah]).ty (ax (some (188,2)) d.nx d.ty)).push 1).push 1);simp only[az,aE,bF,Nat.reduceAdd,bA,bx]at I;have A:=(z.bD 0 _ _ rfl).1.2.2;have h3:s0.nx≠d.nx:=λe=>by rw[e]at A;exact(gF _ A).elim
 have B:nJ (HS.mk (ax (some (.cells (cM [.dO,.ah]) 0 2 d.nx)) d.nx d.h) d.nx.succ (ax (some [d.nx]) d.nx d.gr) (ax (some (188,2)) d.nx d.ty)) s0.nx .dO .ah:=⟨by simp only;rw[af,au (λe=>h3 e)];exact V.ty,.inl rfl,λo a b c h=>by cases h⟩;have X:nJ (HS.mk (ax (some (.cells (cM [.dO,.ah]) 0 2 d.nx)) d.nx d.h) d.nx.succ (ax (some [d.nx]) d.nx d.gr) (ax (some (188,2)) d.nx d.ty)) d.nx .dO .ah:=⟨by simp only;rw[af,ar rfl],.inl rfl,λo a b c h=>by cases h⟩;generalize h4:HS.mk _ _ _ _=Sb at I B X;simp[U.Wv,n7,h2,h4];generalize ho:bJ R (.loop U.wH) _ _=o;obtain⟨e2,s2,Y,pA,vA,pB,vB,rfl,hL,hM,hA,hB,C⟩:=ZF (v1:=.aw (n7 x)) hl hS (by simp[n7]) I B X ⟨rfl,rfl⟩ ho;clear ho;have r:cX (λ_=>False) s2 (((HS.mk (ax (some (.mp [])) s2.nx s2.h) s2.nx.succ s2.gr s2.ty).aK s2.nx (.mp [(HV.bool false,HV.str [110])])).aK s2.nx (.mp [(HV.bool false,HV.str [110]),(HV.bool true,HV.str [121])])):=by
  have h5:=Ky.aV s2.nx;refine⟨by simp only[HS.aK];omega,rfl,λp hp _=>?_,λ_ _ _=>rfl⟩;have J:p≠s2.nx:=λe=>by rw[e]at hp;exact gF _ hp
  simp only[HS.aK];rw[af,au J,af,au J,af,au J]
 have m1:SK Oo (some (.mp s2.nx)) (some (.bool false)) (some (.str [110])) (HS.mk (ax (some (.mp [])) s2.nx s2.h) s2.nx.succ s2.gr s2.ty)=.v .undef _:=agY (by simp only;rw[af,ar rfl]);have m2:SK Oo (some (.mp s2.nx)) (some (.bool true)) (some (.str [121])) ((HS.mk (ax (some (.mp [])) s2.nx s2.h) s2.nx.succ s2.gr s2.ty).aK s2.nx (.mp [(HV.bool false,HV.str [110])]))=.v .undef _:=agZ (by simp only[HS.aK];rw[af,ar rfl]);have u:ak (((HS.mk (ax (some (.mp [])) s2.nx s2.h) s2.nx.succ s2.gr s2.ty).aK s2.nx (.mp [(HV.bool false,HV.str [110])])).aK s2.nx (.mp [(HV.bool false,HV.str [110]),(HV.bool true,HV.str [121])])).h s2.nx=some (.mp [(HV.bool false,HV.str [110]),(HV.bool true,HV.str [121])]):=by simp only[HS.aK];rw[af,ar rfl]
 have q:s2.nx.toNat<(((HS.mk (ax (some (.mp [])) s2.nx s2.h) s2.nx.succ s2.gr s2.ty).aK s2.nx (.mp [(HV.bool false,HV.str [110])])).aK s2.nx (.mp [(HV.bool false,HV.str [110]),(HV.bool true,HV.str [121])])).nx.toNat:=by have h5:=Ky.aV s2.nx;simp only[HS.aK];omega
 generalize HS.aK _ _ _=s4 at m1 m2 r u q;generalize HS.aK _ _ _=s5 at m2 r u q;have t:=hM.frame r;have h8:nJ s5 s0.nx pA vA:=⟨by rw[r.2.1];exact hA.ty,hA.pp,by rw[r.2.1];exact hA.tv⟩;have M:nJ s5 d.nx pB vB:=⟨by rw[r.2.1];exact hB.ty,hB.pp,by rw[r.2.1];exact hB.tv⟩;have k0:=mK yq x.op;have k1:=mK yr x.op;have h9:∀n∈x.op.flatMap yp,n<256:=by
  intro n w;obtain⟨m,hm,w⟩:=qT.1 w;obtain⟨g1,g2,g3,g4,g5,g6⟩:=hS m hm;rcases cP.1 w with w|w
  .exact DA (by omega) n w
  simp at w;omega
 have ha:∀n∈x.op.flatMap sa,n<256:=by intro n w;obtain⟨m,hm,w⟩:=qT.1 w;obtain⟨g1,g2,g3,g4,g5,g6⟩:=hS m hm;exact DA (by omega) n w
 have hb:vA=.ah∨x.op.flatMap yp≠ []:=by cases hx:x.op with|nil=>exact .inl (C hx).1|cons m l=>exact .inr (by simp[yp])
 have hd:vB=.ah∨x.op.flatMap sa≠ []:=by cases hx:x.op with|nil=>exact .inl (C hx).2|cons m l=>exact .inr (by simp only[mB,sa,lI];split<;>simp)
 obtain⟨s6,h6,O⟩:=On (t.bD 1 _ _ rfl).1 (t.mem.own 0 _ _ _ rfl) h8 hb (by omega) h9;have cB:=(t.bD 0 _ _ rfl);have Z:=cB.1.frame O (by rw[cB.2];simp);have h1:=(t.mem.own 1 _ _ _ rfl).frame O (λk hk h=>by rw[hk]at h;cases h);have hf:nJ s6 d.nx pB vB:=⟨by rw[O.2.1];exact M.ty,M.pp,by rw[O.2.1];exact M.tv⟩;obtain⟨s7,h7,f7⟩:=On Z h1 hf hd (by omega) ha;have P:Y s2.nx=none:=by cases h:Y s2.nx with|none=>rfl|some i=>exact absurd (hM.mem.bd _ _ h) (gF _)
 have D:ak s7.h s2.nx=some (.mp [(HV.bool false,HV.str [110]),(HV.bool true,HV.str [121])]):=by rw[f7.2.2.1 _ (dZ q O.1) (by show¬Y s2.nx=some 1;rw[P];simp),O.2.2.1 _ q (by show¬Y s2.nx=some 0;rw[P];simp)];exact u
 have E:ak s6.h s2.nx=some (.mp [(HV.bool false,HV.str [110]),(HV.bool true,HV.str [121])]):=by rw[O.2.2.1 _ q (by show¬Y s2.nx=some 0;rw[P];simp)];exact u
 have hg:=Vg D x.forced;have hj:=Vg D x.lost;have hq:=Vg E x.forced;have hr:=Vg E x.lost;have hs:=Vg u x.forced;have ht:=Vg u x.lost;have hy:∀b,(KD b).length=1:=by intro b;cases b<;>rfl
 have e1:∀s,ny false .add (some (.str (x.op.flatMap sa))) (some (.str (KD x.forced))) s=.v (.str (x.op.flatMap sa++KD x.forced)) s:=λs=>pC (by rw[hy];omega)
 have hz:∀s,ny false .add (some (.str (x.op.flatMap sa++KD x.forced))) (some (.str (KD x.lost))) s=.v (.str (x.op.flatMap sa++KD x.forced++KD x.lost)) s:=λs=>pC (by rw[cA,hy,hy];omega)
 simp only[ab,ae]at hL;simp only[n7]at hL;simp[hL,m1,m2,h6,h7,hg,hj,hq,hr,hs,ht,e1,hz,aa,qU,n8]
def nK(s:HS)(v:HV)(sz:Nat)(F:bU)(aq:aO):Prop:=
 Sz sz aq/\(∀k,F k->k.toNat<s.nx.toNat)/\∃o t d c q g b,v=.sl o c aq.length sz/\ak s.h o=some (.cells t d q g)/\d<=c/\c+aq.length*sz<=q/\(∀j,j<aq.length*sz->fE t (c+j)=(aB aq)[j]?)/\ak s.gr g=some (o::b)/\o ∉ b/\(∀m∈o::b,F m)/\F g
section
variable{s:HS}{v:HV}{sz:Nat}{F:bU}{aq:aO}
def ck.toO(h:ck s v sz F aq)(h0:v≠ .ah):nK s v sz F aq:=by
 obtain⟨c,d,k⟩:=h;rcases k with⟨rfl,_⟩|⟨o,t,q,g,b,rfl,r,D,u,w,z,A,B⟩
 .exact(h0 rfl).elim
 exact⟨c,d,o,t,0,0,q,g,b,rfl,r,aW _,by omega,λj C=>by rw[bF];exact u j C,w,z,A,B⟩
def nK.frame{s':HS}{G:bU}(h:nK s v sz F aq)(c:cX G s s')(w:∀k,F k->¬G k):nK s' v sz F aq:=by obtain⟨B,d,o,t,C,q,D,g,b,rfl,E,I,r,J,M,O,z,u⟩:=h;have A:=z o dm;exact⟨B,λk P=>dZ (d k P) c.1,o,t,C,q,D,g,b,rfl,by rw[c.2.2.1 o (d o A) (w o A)];exact E,I,r,J,by rw[c.2.2.2 g (d g u) (w g u)];exact M,O,z,u⟩
def nK.iz(h:nK s v sz F aq):iz v=true:=by obtain⟨d,k,o,t,q,c,r,g,b,rfl,_⟩:=h;rfl
def nK.one(h:nK s v sz F aq):cellsOf v=some [v]:=by obtain⟨d,k,o,t,q,c,r,g,b,rfl,_⟩:=h;rfl
def nK.len{s1:HS}(h:nK s v sz F aq):xh 0 (some v) s1=.v (.int .i64 (aq.length:Int)) s1:=by obtain⟨d,k,o,t,q,c,r,g,b,rfl,_⟩:=h;simp
def nK.head{r:aj}(h:nK s v sz F (r::aq)):∃o bm,(∀k,EN (some v) (some (.int k 0)) sz s=.v (.ptr o bm) s)/\F o/\fI (ak s.h o) bm sz=some r:=by obtain⟨u,D,o,t,w,bm,c,g,d,rfl,z,A,b,q,E,I,B,J⟩:=h;have C:r.length=sz:=u r dm;refine⟨o,bm,λk=>by simp,B o dm,?_⟩;rw[az,jE]at b q;rw[z];show(if w<=bm then if bm+sz<=c then mO t sz bm else none else none)=_;rw[ar A,ar (by omega),qJ t r _ _ (λi c=>by rw[q i (by omega),cV,ea (by omega)]) C.symm]
def nK.tail{e:En}{r:aj}(h:nK s v sz F (r::aq)):∃u,C1 (some v) (λd=>fu e d (some (.k (.int .i64 1)))) (λd=>fu e d none) none sz s=.v u s/\nK s u sz F aq:=by
 obtain⟨w,A,o,t,B,b,C,g,c,rfl,D,V,q,z,E,I,J,M⟩:=h;have O:r.length=sz:=w r dm;rw[az,jE]at q z;refine⟨.sl o (b+1*sz) ((r::aq).length-1) sz,?_,λx P=>w x (cS _ P),A,o,t,B,b+1*sz,C,g,c,rfl,D,by omega,by omega,λj X=>?_,E,I,J,M⟩
 .rw[MI];show bN (some 1) _ _=_;simp only[dG,az,HH];rw[ar ⟨by omega,by omega⟩]
 rw[show b+1*sz+j=b+(sz+j) by omega,z (sz+j) (by omega),cV,iG (by omega),O,show sz+j-sz=j by omega]
def nK.append{bw:Nat}{new:aO}(h:nK s v sz F aq)(X:Sz sz new)(h0:new≠ [])(w:aq.length+new.length<=bw):
    ∃v' s',lS sz bw none (some v) (some (.psl new)) s=.v v' s'/\nK s' v' sz (λk=>F k∨k=s.nx) (aq++new)/\cX F s s'/\s'.nx=s.nx.succ:=by
  have Y:new.length≠0:=by simpa using h0
  have Z:=Ky.aV s.nx;rw[mr h.iz h0 X];obtain⟨hs,B,o,t,u,b,C,g,c,rfl,hb,h3,hh,h4,hg,h5,d,I⟩:=h;rw[mb Y hb hg];obtain⟨k1,k2⟩:=jI c s.h 11;rw[show(12:Nat)=11+1 from rfl,qI];generalize ha:(eL s.h 11 c).1=D at k1;generalize hd:(eL s.h 11 c).2=E at k2;obtain⟨j1,j2⟩:=gO o (b+aq.length*sz) (b+aq.length*sz+aM (aB new)) E D;have q:=jZ D o (b+aq.length*sz) (b+aq.length*sz+aM (aB new)) E;generalize hf:(bI D o (b+aq.length*sz) (b+aq.length*sz+aM (aB new)) E).1=J at j1 q;generalize hl:(bI D o (b+aq.length*sz) (b+aq.length*sz+aM (aB new)) E).2=A at j2 q;have r:∀m∈A,m∈c:=λm w=>k2 m (j2 m w)
  have ho:ak J o=some (.cells t u C g):=by rw[j1 o (.inr rfl),k1 o h5,hb]
  have M:MG s sz bw none o b aq.length (aB new) new.length g (D,o::E)=.v (.sl s.nx b (aq.length+new.length) sz) {h:=ax (some (.cells (cY (aB new) (b+aq.length*sz) t) b (b+aq.length*sz+(aB new).length) g)) s.nx (ax (some (.cells t u (b+aq.length*sz) g)) o J),nx:=s.nx.succ,gr:=ax (some (s.nx::o::A)) g s.gr,ty:=s.ty}:=by
    show(match bI D o (b+aq.length*sz) (b+aq.length*sz+aM (aB new)) (o::E)with
        |(h',O)=>match ak h' o with
          |some (.cells t u C _)=>
            bif iW o O&&Nat.ble u b&&Nat.ble (b+aq.length*sz) C&&Nat.ble (aq.length+new.length) bw then
              cR.v (.sl s.nx b (aq.length+new.length) sz) {h:=ax (some (.cells (cY (aB new) (b+aq.length*sz) t) b (b+aq.length*sz+aM (aB new)) g)) s.nx (ax (some (.cells t u (b+aq.length*sz) g)) o h'),nx:=s.nx.succ,gr:=ax (some (s.nx::O)) g s.gr,ty:=lJ none o s}
            else .bad
          |_=>.bad)=_
    rw[q];show(match ak J o with
          |some (.cells t u C _)=>
            bif iW o (o::A)&&Nat.ble u b&&Nat.ble (b+aq.length*sz) C&&Nat.ble (aq.length+new.length) bw then
              cR.v (.sl s.nx b (aq.length+new.length) sz) {h:=ax (some (.cells (cY (aB new) (b+aq.length*sz) t) b (b+aq.length*sz+aM (aB new)) g)) s.nx (ax (some (.cells t u (b+aq.length*sz) g)) o J),nx:=s.nx.succ,gr:=ax (some (s.nx::o::A)) g s.gr,ty:=lJ none o s}
            else .bad
          |_=>.bad)=_
    rw[ho];show(bif iW o (o::A)&&Nat.ble u b&&Nat.ble (b+aq.length*sz) C&&Nat.ble (aq.length+new.length) bw then
              cR.v (.sl s.nx b (aq.length+new.length) sz) {h:=ax (some (.cells (cY (aB new) (b+aq.length*sz) t) b (b+aq.length*sz+aM (aB new)) g)) s.nx (ax (some (.cells t u (b+aq.length*sz) g)) o J),nx:=s.nx.succ,gr:=ax (some (s.nx::o::A)) g s.gr,ty:=lJ none o s}
            else .bad)=_
    rw[show iW o (o::A)=true by simp[iW,(Ky.beq_iff o o).2 rfl],bZ,bZ,bZ,ey h3,ey hh,ey w,cH];rfl
  have hle:(aB aq).length=aq.length*sz:=cI hs;have h6:(aB new).length=new.length*sz:=cI X;refine⟨_,_,M,⟨Sz.append hs X,λk hk=>?_,s.nx,_,b,b,_,g,o::A,by rw[cA],by rw[af,ar rfl],aW _,?_,λj hj=>?_,by rw[af,ar rfl],?_,λm w=>?_,.inl I⟩,⟨by simp only;omega,rfl,λp hp V=>?_,λp hp V=>?_⟩,rfl⟩
  . simp only
    rcases hk with hk|rfl
    . have:=B k hk;omega
    omega
  . rw[cA,h6,qs];omega
  . rw[cA,qs]at hj
    rw[fj,jY];by_cases h7:j<aq.length*sz
    . rw[au (by omega),h4 j h7,ea (by omega)]
    rw[ar (by omega),iG (by omega),hle,show b+j-(b+aq.length*sz)=j-aq.length*sz by omega]
  . intro z
    rcases bk.1 z with z|z
    . have:=B o (d o dm);rw[<-z]at this;omega
    have:=B _ (d _ (cS _ (r _ z)));omega
  . rcases bk.1 w with rfl|w
    . exact .inr rfl
    refine .inl (d m ?_);rcases bk.1 w with rfl|w
    . exact dm
    exact cS _ (r _ w)
  . have h8:p≠o:=λe=>by subst e;exact V (d p dm)
    have P:p ∉ c:=λz=>V (d p (cS _ z))
    have h9:p≠s.nx:=λe=>by subst e;omega
    simp only;rw[af,au h9,af,au h8,j1 p (.inl λz=>P (k2 p z)),k1 p P]
  simp only;rw[af,au λe=>by subst e;exact V I]
end
def ZG(K:Kd)(m k:bO)(z:HV)(s:HS):cR:=match m,k with
  |some (.mp o),some key=>bif p9 K key then(match ak s.h o with
   |some (.mp es)=>(match dM K es key 0 with
    |some (i,some v)=>.v (.bM [v,.int .i64 (.ofNat i)]) s
    |some (_,none)=>.v (.bM [z,.int .i64 (.ofNat (aM es))]) (s.aK o (.mp (es++[(key,z)])))
    |none=>.bad)
   |_=>.bad)else .bad
  |_,_=>.bad
def ZH(m i v:bO)(s:HS):cR:=match m,i,v with
  |some (.mp o),some (.int _ (.ofNat i)),some v=>(match ak s.h o with
   |some (.mp es)=>bif Nat.blt i (aM es)then .v .undef (s.aK o (.mp (lL es i v)))else .bad
   |_=>.bad)
  |_,_,_=>.bad
@[simp]def aa1{e:En}{s:HS}{K:Kd}{m k:X}{z:HV}:cU (.men K m k z) e s=ZG K (bp m e) (bp k e) z s:=rfl
@[simp]def aa2{e:En}{s:HS}{m i v:X}:cU (.mes m i v) e s=ZH (bp m e) (bp i e) (bp v e) s:=rfl
section
variable{α:Type}[DecidableEq α]{f:α->HV}{K:Kd}
def gq(f:α->HV)(l:List (α×HV)):List (HV×HV):=l.map λp=>(f p.1,p.2)
def lkp(t:α):List (α×HV)->bO
 |[]=>none
 |(k,v)::r=>if t=k then some v else lkp t r
def DB(t:α):List (α×HV)->Nat
 |[]=>0
 |(k,_)::r=>if t=k then 0 else DB t r+1
def DC(c:∀a b,ql K (f a) (f b)=some (decide (a=b)))(t:α):∀(l:List (α×HV)) (n:Nat),dM K (gq f l) (f t) n=some (n+DB t l,lkp t l)
 |[],n=>rfl
 |(k,v)::r,n=>by
  show(match ql K (f t) (f k)with|some true=>some (n,some v)|some false=>dM K (gq f r) (f t) (Nat.succ n)|none=>none)=_;rw[c];unfold lkp DB;by_cases h:t=k
  .rw[ey h,ar h,ar h];rfl
  rw[ef h,au h,au h];simp only[DC c t r (Nat.succ n)];rw[show n.succ+DB t r=n+(DB t r+1) by omega]
def yt{t:α}:∀{l:List (α×HV)},lkp t l=none↔t ∉ l.map Prod.fst
 |[]=>by simp[lkp]
 |(k,v)::r=>by
  unfold lkp;by_cases h:t=k
  .simp[h]
  simp[h,yt (l:=r)]
def vt{t:α}{v:HV}:∀{l:List (α×HV)},lkp t l=some v->(t,v)∈l
 |[]=>by simp[lkp]
 |(k,w)::r=>by
  unfold lkp;by_cases h:t=k
  .subst h;simp;intro h;exact .inl h.symm
  rw[au h];intro h;exact cS _ (vt h)
def yu{t:α}{v:HV}:∀{l:List (α×HV)},lkp t l=some v->l[DB t l]?=some (t,v)
 |[]=>by simp[lkp]
 |(k,w)::r=>by
  unfold lkp DB;by_cases h:t=k
  .subst h;simp
  rw[au h,au h];intro h;simpa using yu h
omit [DecidableEq α]in
def yw(v:HV):∀(l:List (α×HV)) (i:Nat) (k:α) (w:HV),l[i]?=some (k,w)->lL (gq f l) i v=gq f (l.set i (k,v))
 |[],i,k,w=>by simp
 |(b,c)::r,0,k,w=>by intro h;simp at h;obtain⟨rfl,rfl⟩:=h;rfl
 |(b,c)::r,i+1,k,w=>by intro h;simp at h;show(f b,c)::lL (gq f r) i v=_;rw[yw v r i k w h];rfl
variable{s:HS}{o:Ky}{l:List (α×HV)}
def Nr(c:∀a b,ql K (f a) (f b)=some (decide (a=b)))(d:∀a,p9 K (f a)=true)(h:ak s.h o=some (.mp (gq f l)))(t:α)(z:HV):
  Yn K (some (.mp o)) (some (f t)) z true s=.v (.bM [(lkp t l).getD z,.bool (lkp t l).isSome]) s:=by
 show(bif p9 K (f t)then(match ak s.h o with
   |some (.mp es)=>(match dM K es (f t) 0 with
    |some (_,some v)=>cR.v (.bM [v,.bool true]) s
    |some (_,none)=>.v (.bM [z,.bool false]) s
    |none=>.bad)
   |_=>.bad)else .bad)=_
 rw[d,h];simp only[DC c,cond_true];cases lkp t l<;>rfl
def ZI(c:∀a b,ql K (f a) (f b)=some (decide (a=b)))(d:∀a,p9 K (f a)=true)(h:ak s.h o=some (.mp (gq f l)))(t:α)(z:HV):
  Yn K (some (.mp o)) (some (f t)) z false s=.v ((lkp t l).getD z) s:=by
 show(bif p9 K (f t)then(match ak s.h o with
   |some (.mp es)=>(match dM K es (f t) 0 with
    |some (_,some v)=>cR.v v s
    |some (_,none)=>.v z s
    |none=>.bad)
   |_=>.bad)else .bad)=_
 rw[d,h];simp only[DC c,cond_true];cases lkp t l<;>rfl
def mL(t:α)(v:HV)(l:List (α×HV)):List (α×HV):=match lkp t l with|some _=>l.set (DB t l) (t,v)|none=>l++[(t,v)]
def muV(c:∀a b,ql K (f a) (f b)=some (decide (a=b)))(d:∀a,p9 K (f a)=true)(h:ak s.h o=some (.mp (gq f l)))(t:α)(v:HV):
  SK K (some (.mp o)) (some (f t)) (some v) s=.v .undef (s.aK o (.mp (gq f (mL t v l)))):=by
 show(bif p9 K (f t)then(match ak s.h o with
   |some (.mp es)=>(match dM K es (f t) 0 with
    |some (i,some _)=>cR.v .undef (s.aK o (.mp (lL es i v)))
    |some (_,none)=>.v .undef (s.aK o (.mp (es++[(f t,v)])))
    |none=>.bad)
   |_=>.bad)else .bad)=_
 rw[d,h];simp only[DC c,cond_true];unfold mL;cases k:lkp t l with|none=>simp[gq]|some w=>simp only;rw[yw v l _ t w (by rw[bF];exact yu k),bF]
def ZJ(c:∀a b,ql K (f a) (f b)=some (decide (a=b)))(d:∀a,p9 K (f a)=true)(h:ak s.h o=some (.mp (gq f l)))(t:α)(z:HV):
  ZG K (some (.mp o)) (some (f t)) z s=match lkp t l with
   |some v=>.v (.bM [v,iV (DB t l)]) s
   |none=>.v (.bM [z,iV l.length]) (s.aK o (.mp (gq f (l++[(t,z)])))):=by
 show(bif p9 K (f t)then(match ak s.h o with
   |some (.mp es)=>(match dM K es (f t) 0 with
    |some (i,some v)=>cR.v (.bM [v,.int .i64 (.ofNat i)]) s
    |some (_,none)=>.v (.bM [z,.int .i64 (.ofNat (aM es))]) (s.aK o (.mp (es++[(f t,z)])))
    |none=>.bad)
   |_=>.bad)else .bad)=_
 rw[d,h];simp only[DC c,cond_true];cases k:lkp t l with|none=>simp[gq,cH,iV]|some w=>simp[iV]
omit [DecidableEq α]in
def ZK(h:ak s.h o=some (.mp (gq f l))){i:Nat}{t:α}{w:HV}(c:l[i]?=some (t,w))(v:HV):
  ZH (some (.mp o)) (some (iV i)) (some v) s=.v .undef (s.aK o (.mp (gq f (l.set i (t,v))))):=by
 have b:=(aS.1 c).1;show(match ak s.h o with
   |some (.mp es)=>bif Nat.blt i (aM es)then cR.v .undef (s.aK o (.mp (lL es i v)))else .bad
   |_=>.bad)=_
 rw[h];simp only;rw[cH,show Nat.blt i (gq f l).length=true from ch.2 (by simpa[gq]using b),yw v l i t w c];rfl
end
abbrev H2:Kd:=⟨true,[0,2]⟩
def j4(p:Int×List Nat):HV:=.agg [iV p.1,.str p.2]
def nL(p:Int×List Nat):p9 H2 (j4 p)=true:=rfl
def kZ(a b:Int×List Nat):ql H2 (j4 a) (j4 b)=some (decide (a=b)):=by unfold j4;rw[vc _ _ _ rfl rfl,ee _ _ _ _ _ _ (fg ..) (ee _ _ _ _ _ _ (MF ..) u9)];obtain⟨_,_⟩:=a;obtain⟨_,_⟩:=b;simp[Bg]
section
variable{s s':HS}{av:aZ}{L:cE}{K:dv}{F G:bU}{v:HV}{aq:aO}{Q:List (Ky×List (HV×HV))}
def aG.Fp(h:aG s av L K)(d:cX G s s')(r:∀k i,av k=some i->¬G k)(t:∀(a:Nat) o c,K[a]?=some (o,c)->¬G o):aG s' av L K:=
 ⟨⟨λk i b=>dZ (h.mem.bd k i b) d.1,h.mem.top,λi v sz aq u=>(h.mem.own i v sz aq u).frame d (λk b=>r k i b)⟩,λa o c q=>⟨(h.bD a o c q).1.frame d (t a o c q),(h.bD a o c q).2⟩,h.nd⟩
structure ct(s:HS)(F:bU)(v:HV)(aq:aO)(av:aZ)(L:cE)(K:dv)(Q:List (Ky×List (HV×HV))):Prop where
 k:aG s av L K
 q:nK s v 2 F aq
 fc:∀p,F p->av p=none
 fk:∀(a:Nat) o c,K[a]?=some (o,c)->¬F o
 mp:∀(a:Nat) o es,Q[a]?=some (o,es)->ak s.h o=some (.mp es)/\o.toNat<s.nx.toNat/\av o=none/\¬F o
 nd:∀(a b:Nat) o es KY,Q[a]?=some (o,es)->Q[b]?=some (o,KY)->a=b
def ct.ne(h:ct s F v aq av L K Q){a b:Nat}{o p:Ky}{c:aj}{es:List (HV×HV)}(q:K[a]?=some (p,c))(r:Q[b]?=some (o,es)):o≠p:=by intro e;subst e;have d:=(h.k.bD a o c q).1.1;rw[(h.mp b o es r).1]at d;cases d
def ct.frame(h:ct s F v aq av L K Q)(b:cX (λ_=>False) s s'):ct s' F v aq av L K Q:=
 ⟨h.k.frame b,h.q.frame b (λ_ _ h=>h),h.fc,h.fk,λa o es d=>by
  obtain⟨r,c,t,u⟩:=h.mp a o es d;exact⟨by rw[b.2.2.1 o c (λh=>h)];exact r,dZ c b.1,t,u⟩,h.nd⟩
def ct.ds(h:ct s F v aq av L K Q)(c:aj):ct {h:=ax (some (.cells (cM c) 0 c.length s.nx)) s.nx s.h,nx:=s.nx.succ,gr:=ax (some [s.nx]) s.nx s.gr,ty:=s.ty} F v aq av L ((s.nx,c)::K) Q:=by have r:=h.k.ds c;have d:=cX.alloc (s:=s) (.cells (cM c) 0 c.length s.nx) [s.nx];refine⟨r,(h.frame d).q,h.fc,λa o t b=>?_,(h.frame d).mp,h.nd⟩;cases a with|zero=>simp at b;obtain⟨rfl,_⟩:=b;exact λu=>gF _ (h.q.2.1 _ u)|succ a=>exact h.fk a o t b
def ct.tail(h:ct s F v aq av L K Q){n:Nat}:ct s F v aq av L (K.drop n) Q:=
 ⟨⟨h.k.mem,λa o c r=>h.k.bD (n+a) o c (by rwa[l6]at r),λa b o c d r t=>by
  have:=h.k.nd (n+a) (n+b) o c d (by rwa[l6]at r) (by rwa[l6]at t);omega⟩,h.q,h.fc,λa o c r=>h.fk (n+a) o c (by rwa[l6]at r),h.mp,h.nd⟩
def ct.cell(h:ct s F v aq av L K Q){a:Nat}{o:Ky}{c c':aj}(t:K[a]?=some (o,c))(z:gJ s' o c')(u:cX (λp=>p=o) s s'):ct s' F v aq av L (K.set a (o,c')) Q:=by
 refine⟨h.k.cell t z u,h.q.frame u (λk A e=>h.fk a o c t (by rw[<-e];exact A)),h.fc,λb p d r=>?_,λb p es r=>?_,h.nd⟩
 .rw[gP]at r
  split at r
  .split at r
   .simp at r;obtain⟨rfl,_⟩:=r;exact h.fk a _ c t
   cases r
  exact h.fk b p d r
 obtain⟨B,w,C,D⟩:=h.mp b p es r;exact⟨by rw[u.2.2.1 p w (h.ne t r)];exact B,dZ w u.1,C,D⟩
def ct.put(h:ct s F v aq av L K Q){a:Nat}{o:Ky}{c new:aj}(b:K[a]?=some (o,c)){x:HV}(d:cellsOf x=some new)(q:new.length=c.length):∃s',pR c.length (some (.ptr o 0)) (some x) s=.v .undef s'/\ct s' F v aq av L (K.set a (o,new)) Q:=by obtain⟨s',r,t,u,_⟩:=(h.k.bD a o c b).1.put d q;exact⟨s',r,h.cell b t u⟩
def ct.xV(h:ct s F v aq av L K Q){a:Nat}{o:Ky}{c:aj}(b:K[a]?=some (o,c))(k:Nat)(d:k<c.length){x:HV}(q:cellsOf x=some [x]):∃s',pR 1 (some (.ptr o k)) (some x) s=.v .undef s'/\ct s' F v aq av L (K.set a (o,c.set k x)) Q:=by obtain⟨s',r,t,u,_⟩:=(h.k.bD a o c b).1.set k d x q;exact⟨s',r,h.cell b t u⟩
def ct.KE(h:ct s F v aq av L K Q){b:Nat}{o:Ky}{es:List (HV×HV)}(A:Q[b]?=some (o,es))(r:List (HV×HV)):ct (s.aK o (.mp r)) F v aq av L K (Q.set b (o,r)):=by
 obtain⟨g1,P,I,J⟩:=h.mp b o es A;have M:cX (λp=>p=o) s (s.aK o (.mp r)):=⟨aW _,rfl,λp _ V=>by simp only[HS.aK];rw[af,au V],λ_ _ _=>rfl⟩;have X:=(aS.1 A).1;refine⟨h.k.Fp M (λk i B e=>by rw[e,I]at B;cases B) (λa p c z e=>h.ne z A e.symm),h.q.frame M (λk B e=>J (by rw[<-e];exact B)),h.fc,h.fk,λa p t z=>?_,λa O p d t u C=>?_⟩
 .rw[gP]at z
  split at z
  .rename_i w
   try rw[ar (by omega)]at z
   cases z;exact⟨by simp only[HS.aK];rw[af,ar rfl],P,I,J⟩
  rename_i w;obtain⟨Y,Z,k3,k4⟩:=h.mp a p t z;have D:p≠o:=λe=>by subst e;exact w (h.nd b a p es t A z)
  exact⟨by simp only[HS.aK];rw[af,au D];exact Y,Z,k3,k4⟩
 have key:∀(a:Nat) d,(Q.set b (o,r))[a]?=some (p,d)->∃E,Q[a]?=some (p,E):=by
  intro a d u;rw[gP]at u
  split at u
  .rename_i w
   try rw[ar (by omega)]at u
   cases u;exact⟨es,by rw[<-w];exact A⟩
  exact⟨d,u⟩
 obtain⟨_,u⟩:=key a d u;obtain⟨_,C⟩:=key O t C;exact h.nd a O p _ _ u C
def ct.ag1(h:ct s F v aq av L K Q){new:aO}(B:Sz 2 new)(h0:new≠ []){bw:Nat}(C:aq.length+new.length<=bw):
  ∃d s',lS 2 bw none (some v) (some (.psl new)) s=.v d s'/\ct s' (λk=>F k∨k=s.nx) d (aq++new) av L K Q:=by
 obtain⟨d,s',D,E,t,O⟩:=h.q.append B h0 C;refine⟨d,s',D,h.k.Fp t (λk i z b=>by rw[h.fc k b]at z;cases z) h.fk,E,λp u=>?_,λa o c r b=>?_,λa o es r=>?_,h.nd⟩
 .rcases u with u|rfl
  .exact h.fc p u
  cases I:av s.nx with|none=>rfl|some i=>exact absurd (h.k.mem.bd _ _ I) (gF _)
 .rcases b with b|rfl
  .exact h.fk a o c r b
  exact gF _ (h.k.bD a _ c r).1.2.2
 obtain⟨J,w,M,A⟩:=h.mp a o es r;refine⟨by rw[t.2.2.1 o w A];exact J,dZ w t.1,M,λb=>?_⟩;rcases b with b|rfl
 .exact A b
 exact gF _ w
def ct.ZL{e:En}{r:aj}(h:ct s F v (r::aq) av L K Q):∃b,C1 (some v) (λd=>fu e d (some (.k (.int .i64 1)))) (λd=>fu e d none) none 2 s=.v b s/\ct s F b aq av L K Q:=by obtain⟨b,c,t⟩:=h.q.tail (e:=e);exact⟨b,c,h.k,t,h.fc,h.fk,h.mp,h.nd⟩
def ct.push(h:ct s F v aq av L K Q)(sz:Nat):ct s F v aq av (L++[(.ah,sz,[])]) K Q:=⟨h.k.push sz,h.q,h.fc,h.fk,h.mp,h.nd⟩
def ct.ZM(h:ct s F v aq av L K Q)(i:Nat){w:HV}{sz:Nat}{es:aO}(D:L[i]?=some (w,sz,es)){new:aO}(E:Sz sz new)(h0:new≠ []){bw:Nat}(I:es.length+new.length<=bw):
  ∃w' s' b,lS sz bw none (some w) (some (.psl new)) s=.v w' s'/\cellsOf w'=some [w']/\ct s' F v aq b (L.set i (w',sz,es++new)) K Q:=by
 obtain⟨J,s',M,O,P,d⟩:=h.k.mem.vi i D E h0 I;refine⟨J,s',_,M,O,⟨P,λa p c r=>?_,h.k.nd⟩,h.q.frame d (λk V e=>by rw[h.fc k V]at e;cases e),λp u=>?_,h.fk,λa o t r=>?_,h.nd⟩
 .obtain⟨z,A⟩:=h.k.bD a p c r;have X:=z.2.2;exact⟨z.frame d (by rw[A];simp),by rw[au λe=>by subst e;omega];exact A⟩
 .have:=h.q.2.1 p u;rw[au λe=>by subst e;omega];exact h.fc p u
 obtain⟨Y,B,C,Z⟩:=h.mp a o t r;exact⟨by rw[d.2.2.1 o B (by show¬av o=some i;rw[C];simp)];exact Y,dZ B d.1,by rw[au λe=>by subst e;omega];exact C,Z⟩
end
structure Oq(a:Ar)(x:Fa)(S:Sn->Prop):Prop where
 st:S Ab
 pl:∀y,S y->y.st<x.nx.length
 fin:∀y,S y->x.fi.getD y.st false=true->y.mn.over=true
 can:∀y,S y->∀e∈dj x y.st,gS a y.mn e.m=true
 K7:∀y,S y->∀e∈dj x y.st,S ⟨e.to,gp y.mn e.m⟩
 shp:∀y z,S y->S z->y.st=z.st->qU y.mn.op=qU z.mn.op
 len:∀y,S y->y.mn.op.length+1<=x.nx.length
 sm:∀y,S y->∀m∈y.mn.op,mvS m
 bg:∀y,S y->y.mn.begun=false->y=Ab
def sb(b:Sn):∀(es:bq) (l:jL) (y:Sn),y∈l->y∈jo b l es
 |[],l,y,h=>h
 |e::es,l,y,h=>by
  show y∈jo b (yg l b e) es;refine sb b es _ y ?_;unfold yg
  split
  .exact h
  exact Au _ h
def DD(b:Sn):∀(es:bq) (l:jL) (e:Eg),e∈es->(⟨e.to,gp b.mn e.m⟩:Sn)∈jo b l es
 |c::es,l,e,h=>by
  show _∈jo b (yg l b c) es;rcases bk.1 h with rfl|h
  .refine sb b es _ _ ?_;unfold yg
   split
   .rename_i d;obtain⟨y,k,q⟩:=sF.1 d;rw[<-of_decide_eq_true q];exact k
   simp
  exact DD b es _ e h
def DE(b:Sn)(es:bq):∀(l:jL),l<+:jo b l es:=by
 induction es with
 |nil=>intro l;exact BF l
 |cons e es c=>
  intro l;show l<+:jo b (yg l b e) es;refine List.IsPrefix.trans ?_ (c _);unfold yg
  split
  .exact BF l
  exact BG l _
structure LgJ(x:Fa)(i:Nat)(g:Lg):Prop where
 s0:Ab∈g.l
 K7:∀z∈g.l.take i,∀e∈dj x z.st,(⟨e.to,gp z.mn e.m⟩:Sn)∈g.l
 fin:∀z∈g.l.take i,z.st<x.nx.length->x.fi.getD z.st false=true->z.mn.over=true
def LgJ.run{a:Ar}{x:Fa}:∀(i:Nat) {g:Lg},eZ a x i=some g->LgJ x i g
 |0,g,r=>by cases r;exact⟨by simp[Ab],by simp,by simp⟩
 |i+1,P,r=>by
  rw[eZ]at r;cases h:eZ a x i with
  |none=>rw[h]at r;cases r
  |some g=>
   rw[h]at r;have u:=LgJ.run i h;have q:nY a x g i=some P:=r;unfold nY at q
   split at q
   .rename_i V;have D:=lz q;subst D;have hlen:=BA.1 V;have C:g.l.take (i+1)=g.l.take i:=by rw[iH (by omega),iH hlen]
    exact⟨u.s0,by rw[C];exact u.K7,by rw[C];exact u.fin⟩
   rename_i b A
   split at q
   .cases q
   rename_i c
   split at q
   .cases q;obtain⟨E,B⟩:=aS.1 A;obtain⟨t,C⟩:=DE b (x.nx.getD b.st []) g.l;have k:(jo b g.l (x.nx.getD b.st [])).take (i+1)=g.l.take i++[b]:=by rw[<-C,C0 (by omega),fC E,B]
    refine⟨sb b _ _ _ u.s0,λz d e I=>?_,λz d M w=>?_⟩
    .simp only at d;rw[k]at d;rcases cP.1 d with d|d
     .exact sb b _ _ _ (u.K7 z d e I)
     rw[dq.1 d]at I ⊢;exact DD b _ _ e I
    simp only at d;rw[k]at d;rcases cP.1 d with d|d
    .exact u.fin z d M w
    rw[dq.1 d]at M w ⊢;unfold BP at c;rw[w]at c;cases J:b.mn.over with
    |true=>rfl
    |false=>
     rw[J]at c;simp at c;obtain⟨X,O⟩:=c.2;have:b.st=0:=by omega
     rw[this]at w;rw[<-List.getD_eq_getElem?_getD]at O;rw[O]at w;cases w
   cases q
def BT:∀l:bc,qU l=(nH l).flatMap λp=>lI (64*p.1+p.2+1).toNat++[32]
 |[]=>rfl
 |m::l=>by have:=BT l;unfold qU nH at this ⊢;rw[mB,cx,mB,this];rfl
def yx{a:Ar}(d:aI a=0){m:Mv}(h:fv a m=true):m.id<=8/\m.arg<=5:=by
 obtain⟨b,e,c⟩:=nD h;have u:a.ids.length<=8/\∀t∈a.ids,t.ps.length<=5:=by
  unfold aI at d
  split at d
  .cases d
  rename_i r;rw[not_or]at r;refine⟨by omega,λt k=>?_⟩;have:=r.2;simp only[BD,xJ]at this;have:=this t k;simp[pc]at this;omega
 unfold di at c
 split at c
 .rename_i h0;omega
 split at c
 .rename_i w
  split at c
  .cases c
  rename_i t k;have q:=cG k;have:=u.2 t q
  split at c
  .omega
  split at c
  .omega
  cases c
 cases c
def BU{a:Ar}{x:Fa}(r:cf x)(t:aI a=0){N:Nat}{g:Lg}(k:eZ a x N=some g)(u:g.l.length<=N):Oq a x (λy=>y∈g.l):=by
 have h:=qj.run r N k;have j:=LgJ.run N k;have w:g.l.take N=g.l:=iH u;have c:∀y∈g.l,y∈g.l.take N:=λy b=>by rw[w];exact b
 exact{
  st:=j.s0
  pl:=h.st
  fin:=λy b=>j.fin y (c y b) (h.st y b)
  can:=λy b=>h.can y (c y b)
  K7:=λy b=>j.K7 y (c y b)
  shp:=λy z b B e=>by rw[BT,BT,h.plc (c y b) (c z B) e]
  len:=λy b=>h.deep (c y b)
  sm:=λy b m C=>by obtain⟨i,D,rfl⟩:=eH.1 C;obtain⟨M,q,_⟩:=h.ask b (aR D);obtain⟨E,I,_,O,_⟩:=eY q;obtain⟨J,P⟩:=yx t q;exact⟨E,J,I,by omega,by omega,by omega⟩
  bg:=λy b d=>by
   rcases h.gen y b with rfl|⟨z,_,e,_,rfl⟩
   .rfl
   unfold gp at d
   split at d<;>cases d}
abbrev kh:=Int×List Nat
@[simp]def ez(p:kh):aj:=[iV p.1,.str p.2]
@[simp]def gu(a:Ar)(x:Fa):aj:=[.psl (a.ids.map Ty.c),.bool a.root.cell,.int .i64 a.root.n,.bool a.jumps,.psl (x.nx.map nW),.psl (x.fi.map bC)]
def la(sp:kh)(y:Sn)(w:HV)(b d:Bool):Prop:=(sp=(0,[])/\y=Ab/\w=.ah/\b=false/\d=false)∨(y.mn.begun=true/\sp=((y.st:Int),n8 y.mn)/\w=.psl (y.mn.op.map Mv.c)/\b=y.mn.forced/\d=y.mn.lost)
def Ns(x:Mn):n8 x≠ []:=by unfold n8;cases x.lost<;>simp[KD]
def la.zero{sp:kh}{y:Sn}{w:HV}{d k:Bool}(h:la sp y w d k):decide (sp=(0,[]))= !y.mn.begun:=by
 rcases h with⟨b,c,_⟩|⟨b,c,_⟩
 .rw[b,c];rfl
 rw[b,c];have:=Ns y.mn;simp[this]
def ZN{a:Ar}{x:Fa}{S:Sn->Prop}(ok:dW a)(z:aI a=0)(d:Oq a x S)(A:cf x){sp:kh}{y:Sn}{w:HV}{r t:Bool}(k:S y)(h:la sp y w r t){e:Eg}(B:e∈dj x y.st)(s:HS):
  R (.call 142 [.agg [w,.bool r,.bool t],.agg a.c,.agg e.m.c,.bool (decide (sp=(0,[])))] s)=.val (.bM [.agg (n7 (gp y.mn e.m)),.bool true]) s:=by
 have I:=A.n;have J:=d.len y k;have b:=d.can y k e B;rw[h.zero];have key:=agX ok z b (by omega) (λC=>by rw[d.bg y k C];exact⟨rfl,rfl,rfl⟩);rcases h with⟨u,q,rfl,rfl,rfl⟩|⟨u,q,rfl,rfl,rfl⟩
 .subst q;have u:da a.c=true:=by simp
  have q:da e.m.c=true:=by simp
  have D:=gi (a.ids.map Ty.c) (F6 _);have E:=iw (a.ids.map Ty.c) (F6 _);refine uD 142 U.f168 _ [.agg (n7 Ab.mn),.agg a.c,.agg e.m.c,.bool (!Ab.mn.begun)] _ s rfl rfl rfl ?_ (by simp[dX]) ?_ (by simp[n7]) (key s0)
  .simp[cj,bV,D]
  simp[n9,nn,E,n7,Ab]
 exact key s
@[simp]def EL(a:Ar)(x:Fa)(o4 o5 ot o8 o9:Ky)(v7:HV)(row:bq)(j:Nat):List (Nat×HV):=
 [(1,.aw (gu a x)),(4,.ptr o4 0),(5,.ptr o5 0),(6,.mp ot),(7,v7),(8,.ptr o8 0),(9,.ptr o9 0),(82,.psl (row.map Eg.c)),(83,iV row.length),(84,iV j)]
section
variable{a:Ar}{x:Fa}{o4 o5 ot o8 o9:Ky}{v7:HV}{row:bq}{j:Nat}{e:En}{s:HS}{F:bU}{aq:aO}{av:aZ}{L:cE}{K:dv}{Q:List (Ky×List (HV×HV))}
def Nt(z:ct s F v7 aq av L K Q)(t:bH e (EL a x o4 o5 ot o8 o9 v7 row j)){ed:Eg}(A:row[j]?=some ed):
  ∃e' s' jM,ev R U.AU e s=.code .normal e' s'/\bH e' (EL a x o4 o5 ot o8 o9 v7 row j++[(11,.ptr jM 0)])/\ct s' F v7 aq av L ((jM,ed.c)::K) Q:=by
 obtain⟨u,B⟩:=aS.1 A;have b:=z.ds ed.c;have d:=(b.k.bD 0 _ _ rfl).1.1;generalize q:HS.mk _ _ _ _=C at b d;simp only[Eg.c,az,aE,bF,Nat.reduceAdd]at d q;generalize w:ev R U.AU e s=r;simp only[EL,ab,ae]at t;simp[t,u,B,q,ai,an]at w;subst w;exact⟨_,_,s.nx,rfl,by simp[t],b⟩
def Nu{jM:Ky}{ed:Eg}{sp:kh}{w dp I J:HV}{C D:Bool}{nx:Mn}(q:ct s F v7 aq av L [(jM,ed.c),(o9,[w,.bool C,.bool D]),(o8,ez sp),(o5,[I,J,dp]),(o4,ez (0,[]))] Q)(E:bH e (EL a x o4 o5 ot o8 o9 v7 row j++[(11,.ptr jM 0)]))
  (d:∀s,R (.call 142 [.agg [w,.bool C,.bool D],.agg a.c,.agg ed.m.c,.bool (decide (sp=(0,[])))] s)=.val (.bM [.agg (n7 nx),.bool true]) s):
  ∃e' s' j5,ev R U.AV e s=.code .normal e' s'/\bH e' (EL a x o4 o5 ot o8 o9 v7 row j++[(11,.ptr jM 0),(12,.ptr j5 0),(13,.bool true)])/\ct s' F v7 aq av L [(j5,n7 nx),(jM,ed.c),(o9,[w,.bool C,.bool D]),(o8,ez sp),(o5,[I,J,dp]),(o4,ez (0,[]))] Q:=by
 have t:=(q.k.bD 0 _ _ rfl).1.1;have M:=(q.k.bD 1 _ _ rfl).1.1;have O:=(q.k.bD 2 _ _ rfl).1.1;have P:=(q.k.bD 4 _ _ rfl).1.1;have b:=q.ds (n7 nx);have u:=(b.k.bD 0 _ _ rfl).1.1;have z:=(b.k.bD 1 _ _ rfl).1.1;have f9:=(b.k.bD 2 _ _ rfl).1.1;have V:=(b.k.bD 3 _ _ rfl).1.1;have X:=(b.k.bD 5 _ _ rfl).1.1;have A:ql H2 (.agg [iV sp.1,.str sp.2]) (.agg [iV 0,.str []])=some (decide (sp=(0,[]))):=kZ sp (0,[]);generalize B:HS.mk _ _ _ _=Z at b u z f9 V X;simp only[Eg.c,n7,ez,az,aE,bF,Nat.reduceAdd,iV]at u z f9 V X B t M O P A;simp only[Mv.c,Ar.c,n7]at d;generalize Y:ev R U.AV e s=r;simp only[EL,bx,bA,ab,ae]at E;simp[E,B,t,M,O,P,ai,an,ao,A,d]at Y;subst Y;exact⟨_,_,s.nx,rfl,by simp[E],b⟩
def Nv{jM j5:Ky}{nx:Mn}{q t:ay}(w:ct s F v7 aq av L ((j5,n7 nx)::K) Q)(c:bH e (EL a x o4 o5 ot o8 o9 v7 row j++[(11,.ptr jM 0),(12,.ptr j5 0),(13,.bool true)]))
  (b:∀s,R (.call 143 [.agg (n7 nx)] s)=.val (.bM [.str q,.str t]) s):
  ∃e',ev R U.AW e s=.code .normal e' s/\bH e' (EL a x o4 o5 ot o8 o9 v7 row j++[(11,.ptr jM 0),(12,.ptr j5 0),(13,.bool true),(14,.str q),(15,.str t)]):=by
 have d:=(w.k.bD 0 _ _ rfl).1.1;simp only[n7,az,aE,bF,Nat.reduceAdd]at d b;generalize u:ev R U.AW e s=r;simp only[EL,bx,bA,ab,ae]at c;simp[c,d,b,ao]at u;subst u;exact⟨_,rfl,by simp[c]⟩
def Nw{jM j5:Ky}{Fq:aj}{ed:Eg}{q t:ay}{T:List (Int×HV)}(u:ct s F v7 aq av L ((j5,Fq)::(jM,ed.c)::K) Q)(A:Q[2]?=some (ot,gq iV T))
  (b:bH e (EL a x o4 o5 ot o8 o9 v7 row j++[(11,.ptr jM 0),(12,.ptr j5 0),(13,.bool true),(14,.str q),(15,.str t)])):
  ∃e',ev R U.uP e s=.code .normal e' s/\bH e' (EL a x o4 o5 ot o8 o9 v7 row j++[(11,.ptr jM 0),(12,.ptr j5 0),(13,.bool true),(14,.str q),(15,.str t),(16,(lkp (ed.to:Int) T).getD (.str [])),(17,.bool (lkp (ed.to:Int) T).isSome)]):=by
 have d:=(u.k.bD 1 _ _ rfl).1.1;have w:=Nr (K:=KI) rN (λ_=>rfl) (u.mp 2 _ _ A).1 (ed.to:Int) (.str []);simp only[Eg.c,iV,az,aE,bF,Nat.reduceAdd]at d w;generalize z:ev R U.uP e s=r;simp only[EL,bx,bA,ab,ae]at b;simp[b,d,w]at z;subst z;exact⟨_,rfl,by simp[b]⟩
def Nx{jM j5:Ky}{nx:Mn}{t u:ay}{v:HV}{b:Bool}(w:ct s F v7 aq av L ((j5,n7 nx)::K) Q)(A:nx.op.length+1<=x.nx.length)(z:b=true->v=.str t)
  (c:bH e (EL a x o4 o5 ot o8 o9 v7 row j++[(11,.ptr jM 0),(12,.ptr j5 0),(13,.bool true),(14,.str t),(15,.str u),(16,v),(17,.bool b)])):
  ∃e',ev R U.uQ e s=.code .normal e' s/\bH e' (EL a x o4 o5 ot o8 o9 v7 row j++[(11,.ptr jM 0),(12,.ptr j5 0),(14,.str t),(15,.str u),(132,.bool false)]):=by
 have d:=(w.k.bD 0 _ _ rfl).1.1;simp only[n7,az,aE,bF,Nat.reduceAdd]at d;generalize q:ev R U.uQ e s=r;simp only[EL,bx,bA,ab,ae]at c;cases b with|false=>simp[c,d]at q;subst q;exact⟨_,rfl,by simp[c];omega⟩|true=>rw[z rfl]at c;simp[c,d]at q;subst q;exact⟨_,rfl,by simp[c];omega⟩
def Ny{jM j5:Ky}{Fq:aj}{ed:Eg}{b u:ay}{T:List (Int×HV)}(q:ct s F v7 aq av L ((j5,Fq)::(jM,ed.c)::K) Q)(w:Q[2]?=some (ot,gq iV T))
  (t:bH e (EL a x o4 o5 ot o8 o9 v7 row j++[(11,.ptr jM 0),(12,.ptr j5 0),(14,.str b),(15,.str u),(132,.bool false)])):
  ∃e' s',ev R U.AX e s=.code .normal e' s'/\bH e' (EL a x o4 o5 ot o8 o9 v7 row j++[(11,.ptr jM 0),(12,.ptr j5 0),(15,.str u)])/\ct s' F v7 aq av L ((j5,Fq)::(jM,ed.c)::K) (Q.set 2 (ot,gq iV (mL (ed.to:Int) (.str b) T))):=by
 have d:=(q.k.bD 1 _ _ rfl).1.1;have z:=muV (K:=KI) rN (λ_=>rfl) (q.mp 2 _ _ w).1 (ed.to:Int) (.str b);simp only[Eg.c,iV,az,aE,bF,Nat.reduceAdd]at d z;generalize A:ev R U.AX e s=r;simp only[EL,bx,bA,ab,ae]at t;simp[t,d,z]at A;subst A;exact⟨_,_,rfl,by simp[t],q.KE w _⟩
def Nz{jM j5:Ky}{Fq:aj}{ed:Eg}{w:ay}(A:ct s F v7 aq av L ((j5,Fq)::(jM,ed.c)::K) Q)
  (z:bH e (EL a x o4 o5 ot o8 o9 v7 row j++[(11,.ptr jM 0),(12,.ptr j5 0),(15,.str w)])):
  ∃e' s' sc,ev R U.AY e s=.code .normal e' s'/\bH e' (EL a x o4 o5 ot o8 o9 v7 row j++[(11,.ptr jM 0),(12,.ptr j5 0),(18,.ptr sc 0)])/\ct s' F v7 aq av L ((sc,ez (ed.to,w))::(j5,Fq)::(jM,ed.c)::K) Q:=by
 have d:=(A.k.bD 1 _ _ rfl).1.1;have b:=A.ds (ez ((ed.to:Int),w));have q:=(b.k.bD 0 _ _ rfl).1.1;have t:=(b.k.bD 2 _ _ rfl).1.1;generalize u:HS.mk _ _ _ _=C at b q t;simp only[Eg.c,ez,iV,az,aE,bF,Nat.reduceAdd]at d u q t;generalize B:ev R U.AY e s=r;simp only[EL,bx,bA,ab,ae]at z;simp[z,d,u,ai,an]at B;subst B;exact⟨_,_,s.nx,rfl,by simp[z],b⟩
end
section
variable{a:Ar}{x:Fa}{o4 o5 ot o8 o9 jM j5 sc oh ow:Ky}{v7 dp:HV}{row:bq}{j:Nat}{e:En}{s:HS}{F:bU}{aq:aO}{av:aZ}{L:cE}{K:dv}{Q:List (Ky×List (HV×HV))}{Fq Ot c9 c4:aj}{p sp:kh}{H W:List (kh×HV)}{nx:Mn}
def GG{w1:HV}{d q:Bool}(A:ct s F v7 aq av L [(sc,ez p),(j5,Fq),(jM,Ot),(o9,c9),(o8,ez sp),(o5,[.mp oh,.mp ow,dp]),(o4,c4)] Q)(C:Q[0]?=some (oh,gq j4 H))
  (D:(lkp p H).getD (.agg [.ah,.bool false,.bool false])=.agg [w1,.bool d,.bool q])(Z:cellsOf w1=some [w1])
  (E:bH e (EL a x o4 o5 ot o8 o9 v7 row j++[(11,.ptr jM 0),(12,.ptr j5 0),(18,.ptr sc 0)])):
  ∃e' s' k,ev R U.uR e s=.code .normal e' s'/\bH e' (EL a x o4 o5 ot o8 o9 v7 row j++[(11,.ptr jM 0),(12,.ptr j5 0),(18,.ptr sc 0),(20,.bool (lkp p H).isSome)])/\ct s' F v7 aq av L [k,(sc,ez p),(j5,Fq),(jM,Ot),(o9,c9),(o8,ez sp),(o5,[.mp oh,.mp ow,dp]),(o4,c4)] Q:=by
 have t:=(A.k.bD 0 _ _ rfl).1.1;have P:=(A.k.bD 5 _ _ rfl).1.1;have I:=Nr (K:=H2) kZ nL (A.mp 0 _ _ C).1 p (.agg [.ah,.bool false,.bool false]);rw[D]at I;have u:=A.ds [.ah,.bool false,.bool false];have c:=(u.k.bD 1 _ _ rfl).1.1;have J:=(u.k.bD 6 _ _ rfl).1.1;have B:=Nr (K:=H2) kZ nL (u.mp 0 _ _ C).1 p (.agg [.ah,.bool false,.bool false]);rw[D]at B;generalize w:HS.mk _ _ _ _=Sz at u c J B;have z:cellsOf (.agg [w1,.bool d,.bool q])=some [w1,.bool d,.bool q]:=by simp[cellsOf]
 obtain⟨S1,M,b⟩:=u.put (a:=0) rfl (x:=.agg [w1,.bool d,.bool q]) z rfl;have O:=gU (l:=[w1,.bool d,.bool q]) M z rfl;have f18:=(b.k.bD 1 _ _ rfl).1.1;have Y:=(b.k.bD 6 _ _ rfl).1.1;have V:=Nr (K:=H2) kZ nL (b.mp 0 _ _ C).1 p (.agg [.ah,.bool false,.bool false]);rw[D]at V;simp only[ez,j4,iV,az,aE,bF,Nat.reduceAdd]at t P I c J B w M O f18 Y V;generalize X:ev R U.uR e s=r;simp only[EL,bx,bA,ab,ae]at E;simp[E,t,P,I,w,c,J,B,M,ao]at X;subst X;exact⟨_,_,_,rfl,by simp[E],b⟩
def NA(b:ct s F v7 aq av L [(sc,ez p),(j5,n7 nx),(jM,Ot),(o9,c9),(o8,ez sp),(o5,[.mp oh,.mp ow,dp]),(o4,c4)] Q)(t:Q[0]?=some (oh,gq j4 H))
  (q:bH e (EL a x o4 o5 ot o8 o9 v7 row j++[(11,.ptr jM 0),(12,.ptr j5 0),(18,.ptr sc 0)])):
  ∃e' s',ev R U.uT e s=.code .normal e' s'/\bH e' (EL a x o4 o5 ot o8 o9 v7 row j++[(11,.ptr jM 0),(12,.ptr j5 0),(18,.ptr sc 0)])/\ct s' F v7 aq av L [(sc,ez p),(j5,n7 nx),(jM,Ot),(o9,c9),(o8,ez sp),(o5,[.mp oh,.mp ow,dp]),(o4,c4)] (Q.set 0 (oh,gq j4 (mL p (.agg (n7 nx)) H))):=by
 have c:=(b.k.bD 0 _ _ rfl).1.1;have d:=(b.k.bD 1 _ _ rfl).1.1;have u:=(b.k.bD 5 _ _ rfl).1.1;have w:=muV (K:=H2) kZ nL (b.mp 0 _ _ t).1 p (.agg (n7 nx));simp only[ez,j4,n7,iV,az,aE,bF,Nat.reduceAdd]at c d u w;generalize z:ev R U.uT e s=r;simp only[EL,bx,bA,ab,ae]at q;simp[q,c,d,u,w,ao]at z;subst z;exact⟨_,_,rfl,by simp[q],b.KE t _⟩
def NB(q:ct s F v7 aq av L ((sc,ez p)::K) Q)(w:aq.length+1<=5864062014805)
  (d:bH e (EL a x o4 o5 ot o8 o9 v7 row j++[(11,.ptr jM 0),(12,.ptr j5 0),(18,.ptr sc 0)])):
  ∃e' s' b z,ev R U.uU e s=.code .normal e' s'/\bH e' (EL a x o4 o5 ot o8 o9 b row j++[(11,.ptr jM 0),(12,.ptr j5 0),(18,.ptr sc 0)])/\ct s' z b (aq++[ez p]) av L ((sc,ez p)::K) Q:=by
 have c:=(q.k.bD 0 _ _ rfl).1.1;obtain⟨A,s',t,B⟩:=q.ag1 (new:=[ez p]) (Sz.cons rfl Sz.nil) (by simp) (bw:=5864062014805) (by simpa using w);simp only[ez,iV,az,aE,bF,Nat.reduceAdd]at c t;generalize u:ev R U.uU e s=r;simp only[EL,bx,bA,ab,ae]at d;simp[d,c,t,ao]at u;subst u;exact⟨_,_,A,_,rfl,by simp[d],B⟩
end
section
variable{a:Ar}{x:Fa}{o4 o5 ot o8 o9 jM j5 sc oh ow:Ky}{v7 dp:HV}{row:bq}{j:Nat}{e:En}{s:HS}{F:bU}{aq:aO}{av:aZ}{L:cE}{K:dv}{Q:List (Ky×List (HV×HV))}{Fq c9 c4:aj}{p sp:kh}{W:List (kh×HV)}{ed:Eg}
def GH{b:Bool}(c:bH e (EL a x o4 o5 ot o8 o9 v7 row j++[(11,.ptr jM 0),(12,.ptr j5 0),(18,.ptr sc 0),(20,.bool b)])):
  ∃e',ev R U.uS e s=.code .normal e' s/\bH e' (EL a x o4 o5 ot o8 o9 v7 row j++[(11,.ptr jM 0),(12,.ptr j5 0),(18,.ptr sc 0),(151,.bool !b)]):=by
 generalize d:ev R U.uS e s=r;simp only[EL,bx,bA,ab,ae]at c;simp[c]at d;subst d;exact⟨_,rfl,by simp[c]⟩
def NC(d:j<row.length)(q:row.length<=6000)(b:bH e (EL a x o4 o5 ot o8 o9 v7 row j)):
  ∃e',ev R U.AZ e s=.code .normal e' s/\bH e' (EL a x o4 o5 ot o8 o9 v7 row (j+1)):=by
 have k:=bo d (by omega);generalize c:ev R U.AZ e s=r;simp only[EL,ab,ae]at b;simp[b,k]at c;subst c;exact⟨_,rfl,by simp[b]⟩
def KF(z:ct s F v7 aq av L [(sc,ez p),(j5,Fq),(jM,ed.c),(o9,c9),(o8,ez sp),(o5,[.mp oh,.mp ow,dp]),(o4,c4)] Q)(J:Q[1]?=some (ow,gq j4 W))(hl:lkp sp W=none)(h4:W.length=L.length)
  (M:bH e (EL a x o4 o5 ot o8 o9 v7 row j++[(11,.ptr jM 0),(12,.ptr j5 0),(18,.ptr sc 0)])):
  ∃e' s' q A,ev R U.pQ e s=.code .normal e' s'/\bH e' (EL a x o4 o5 ot o8 o9 v7 row j)/\ct s' F v7 aq q (L++[(A,6,[ed.m.c++ez p])]) [(sc,ez p),(j5,Fq),(jM,ed.c),(o9,c9),(o8,ez sp),(o5,[.mp oh,.mp ow,dp]),(o4,c4)] (Q.set 1 (ow,gq j4 (W++[(sp,A)]))):=by
 have B:=(z.k.bD 0 _ _ rfl).1.1;have C:=(z.k.bD 2 _ _ rfl).1.1;have X:=(z.k.bD 4 _ _ rfl).1.1;have Y:=(z.k.bD 5 _ _ rfl).1.1;have D:=ZJ (K:=H2) kZ nL (z.mp 1 _ _ J).1 sp .ah;rw[hl]at D;simp only at D;have O:=(aS.1 J).1;have b:=(z.KE J (gq j4 (W++[(sp,HV.ah)]))).push 6;generalize h5:HS.aK _ _ _=S1 at D b;have χ:=(b.k.bD 0 _ _ rfl).1.1;have P:=(b.k.bD 2 _ _ rfl).1.1;have b8:=(b.k.bD 4 _ _ rfl).1.1;have b5:=(b.k.bD 5 _ _ rfl).1.1;have hg:(L++[(HV.ah,6,([]:aO))])[L.length]?=some (.ah,6,[]):=by simp
 obtain⟨A,S2,q,Z,k2,d⟩:=b.ZM L.length hg (new:=[ed.m.c++ez p]) (Sz.cons rfl Sz.nil) (by simp) (bw:=2513169434916) (by simp);have V:=(d.k.bD 0 _ _ rfl).1.1;have Ot:=(d.k.bD 2 _ _ rfl).1.1;have c8:=(d.k.bD 4 _ _ rfl).1.1;have c5:=(d.k.bD 5 _ _ rfl).1.1;have E:(Q.set 1 (ow,gq j4 (W++[(sp,HV.ah)])))[1]?=some (ow,gq j4 (W++[(sp,HV.ah)])):=by rw[gn O]
 have I:=ZK (d.mp 1 _ _ E).1 (i:=W.length) (t:=sp) (w:=.ah) (by simp) A;have u:=d.KE E (gq j4 ((W++[(sp,HV.ah)]).set W.length (sp,A)));rw[BM]at u;simp only[TP _ _ (aW W.length),oz,aQ]at u I;rw[TP _ _ (aW L.length),oz,aQ,bA]at u;generalize h6:HS.aK _ _ _=S3 at I u;simp only[ez,j4,Eg.c,Mv.c,iV,bx,bA,az,aE,bF,Nat.reduceAdd]at B C X Y χ P b8 b5 V Ot c8 c5 D Z I;generalize hr:ev R U.pQ e s=r;simp only[EL,bx,bA,ab,ae]at M;simp[M,B,C,X,Y,D,Z,I,ao]at hr;subst hr;exact⟨_,_,q,A,rfl,by simp[M],u⟩
def KG{v:HV}{es:aO}(q:ct s F v7 aq av L [(sc,ez p),(j5,Fq),(jM,ed.c),(o9,c9),(o8,ez sp),(o5,[.mp oh,.mp ow,dp]),(o4,c4)] Q)(D:Q[1]?=some (ow,gq j4 W))(P:lkp sp W=some v)(E:L[DB sp W]?=some (v,6,es))(I:es.length+1<=2513169434916)
  (J:bH e (EL a x o4 o5 ot o8 o9 v7 row j++[(11,.ptr jM 0),(12,.ptr j5 0),(18,.ptr sc 0)])):
  ∃e' s' d u,ev R U.pQ e s=.code .normal e' s'/\bH e' (EL a x o4 o5 ot o8 o9 v7 row j)/\ct s' F v7 aq d (L.set (DB sp W) (u,6,es++[ed.m.c++ez p])) [(sc,ez p),(j5,Fq),(jM,ed.c),(o9,c9),(o8,ez sp),(o5,[.mp oh,.mp ow,dp]),(o4,c4)] (Q.set 1 (ow,gq j4 (W.set (DB sp W) (sp,u)))):=by
 have z:=(q.k.bD 0 _ _ rfl).1.1;have A:=(q.k.bD 2 _ _ rfl).1.1;have V:=(q.k.bD 4 _ _ rfl).1.1;have X:=(q.k.bD 5 _ _ rfl).1.1;have C:=ZJ (K:=H2) kZ nL (q.mp 1 _ _ D).1 sp .ah;rw[P]at C;simp only at C;obtain⟨u,S2,d,Y,k2,b⟩:=q.ZM (DB sp W) E (new:=[ed.m.c++ez p]) (Sz.cons rfl Sz.nil) (by simp) (bw:=2513169434916) (by simpa using I);have M:=(b.k.bD 0 _ _ rfl).1.1;have Ot:=(b.k.bD 2 _ _ rfl).1.1;have c8:=(b.k.bD 4 _ _ rfl).1.1;have c5:=(b.k.bD 5 _ _ rfl).1.1;have O:=ZK (b.mp 1 _ _ D).1 (i:=DB sp W) (t:=sp) (w:=v) (yu P) u;have B:=b.KE D (gq j4 (W.set (DB sp W) (sp,u)));generalize h4:HS.aK _ _ _=S3 at O B;simp only[ez,j4,Eg.c,Mv.c,iV,bx,bA,az,aE,bF,Nat.reduceAdd]at z A V X M Ot c8 c5 C Y O;generalize Z:ev R U.pQ e s=r;simp only[EL,bx,bA,ab,ae]at J;simp[J,z,A,V,X,C,Y,O,ao]at Z;subst Z;exact⟨_,_,d,u,rfl,by simp[J],B⟩
end
def ub{A B:HC}{e b:En}{s s1:HS}(h:ev R A e s=.code .normal b s1):ev R (.seq A B) e s=ev R B b s1:=by rw[EK,h];rfl
def KH{i:Nat}{e:En}{s:HS}{A B:HC}(h:look e i=some (.bool true)):ev R (.cond (.t i) A B) e s=ev R A e s:=by rw[uY];show CX (look e i) _ _=_;rw[h];rfl
def GI{i:Nat}{e:En}{s:HS}{A B:HC}(h:look e i=some (.bool false)):ev R (.cond (.t i) A B) e s=ev R B e s:=by rw[uY];show CX (look e i) _ _=_;rw[h];rfl
def KJ{α:Type}[DecidableEq α]{t:α}{v:HV}{l:List (α×HV)}{p:α×HV}(h:p∈mL t v l):p∈l∨p=(t,v):=by
 unfold mL at h
 split at h
 .exact xH h
 simpa using h
def pD(S:Sn->Prop)(p:kh):Prop:=p=(0,[])∨∃y,S y/\y.mn.begun=true/\p=((y.st:Int),n8 y.mn)
def GJ(S:Sn->Prop)(p:kh×HV):Prop:=p=((0,[]),.agg [.ah,.bool false,.bool false])∨∃y,S y/\y.mn.begun=true/\p=(((y.st:Int),n8 y.mn),.agg (n7 y.mn))
def GJ.spot{S:Sn->Prop}{p:kh×HV}(h:GJ S p):pD S p.1:=by
 rcases h with rfl|⟨y,b,c,rfl⟩
 .exact .inl rfl
 exact .inr ⟨y,b,c,rfl⟩
structure WI(S:Sn->Prop)(dn td:List kh)(H:List (kh×HV))(T:List (Int×HV))(W:List (kh×HV))(L:cE)(sp:kh)(r:Nat):Prop where
 hk:H.map Prod.fst=dn++td
 hn:(dn++td).Nodup
 he:∀p∈H,GJ S p
 te:∀p∈T,∃y,S y/\p.1=(y.st:Int)/\p.2=.str (qU y.mn.op)
 wl:W.length=L.length
 we:∀(i:Nat) k v,W[i]?=some (k,v)->k∈dn/\∃aq,L[i]?=some (v,6,aq)/\aq.length<=if k=sp then r else 6000
 sd:sp∈dn
section
variable{a:Ar}{x:Fa}{S:Sn->Prop}{o4 o5 ot o8 o9 oh ow:Ky}{v7 dp:HV}{row:bq}{j N:Nat}{e:En}{s:HS}{F:bU}{av:aZ}{L:cE}{sp:kh}{dn td:List kh}{H W:List (kh×HV)}{T:List (Int×HV)}
def ND(k:j<row.length)(b:bH e (EL a x o4 o5 ot o8 o9 v7 row j)):
  ∃e',ev R U.AT e s=.code .normal e' s/\look e' 85=some (.bool true)/\bH e' (EL a x o4 o5 ot o8 o9 v7 row j):=by
 have c:(j:Int)<row.length:=by omega
 generalize d:ev R U.AT e s=r;simp only[EL,ab,ae]at b;simp[b,c]at d;subst d;exact⟨_,rfl,by simp[b]⟩
def ZO(ok:dW a)(hc:aI a=0)(hx:cf x)(I:Oq a x S)(hf:∀l:List kh,l.Nodup->(∀p∈l,pD S p)->l.length<=N)(hN:N<=3518437208883)
  {y:Sn}(hy:S y){w:HV}{fo lo:Bool}(hh:la sp y w fo lo)(hg:row=dj x y.st)(k8:row.length<=6000){ed:Eg}(hj:row[j]?=some ed)
  (A:WI S dn td H T W L sp j)
  (hM:ct s F v7 (td.map ez) av L [(o9,[w,.bool fo,.bool lo]),(o8,ez sp),(o5,[.mp oh,.mp ow,dp]),(o4,ez (0,[]))] [(oh,gq j4 H),(ow,gq j4 W),(ot,gq iV T)])
  (hL:bH e (EL a x o4 o5 ot o8 o9 v7 row j)):
  ∃e' s' F' ho b r V T' W' L',ev R U.sP e s=.code .normal e' s'/\bH e' (EL a x o4 o5 ot o8 o9 ho row (j+1))/\WI S dn r V T' W' L' sp (j+1)/\
   ct s' F' ho (r.map ez) b L' [(o9,[w,.bool fo,.bool lo]),(o8,ez sp),(o5,[.mp oh,.mp ow,dp]),(o4,ez (0,[]))] [(oh,gq j4 V),(ow,gq j4 W'),(ot,gq iV T')]:=by
 obtain⟨h8,hr⟩:=aS.1 hj;have h4:ed∈dj x y.st:=by rw[<-hg,<-hr];exact cp h8
 have D:=I.K7 y hy ed h4;have kv:=hx.n;have hlen:=I.len _ D;have k9:=I.sm _ D;have h5:(gp y.mn ed.m).begun=true:=by unfold gp;split<;>rfl
 have hs:=ZN ok hc I hx hy hh h4;generalize kx:gp y.mn ed.m=nx at*;have ht:=ag0 (x:=nx) (by simp only at hlen;omega) k9;obtain⟨e0,ka,kb,L0⟩:=ND (s:=s) h8 hL;obtain⟨e1,s1,jM,kc,L1,M1⟩:=Nt hM L0 hj;obtain⟨e2,s2,j5,kd,L2,M2⟩:=Nu (nx:=nx) M1 L1 hs;obtain⟨e3,ke,L3⟩:=Nv M2 L2 ht;obtain⟨e4,kg,L4⟩:=Nw M2 rfl L3;have hv:(lkp (ed.to:Int) T).isSome=true->(lkp (ed.to:Int) T).getD (.str [])=.str (qU nx.op):=by
  intro h;cases B:lkp (ed.to:Int) T with
  |none=>rw[B]at h;cases h
  |some t=>obtain⟨z,z1,z2,z3⟩:=A.te _ (vt B);simp only at z2 z3;rw[z3,hU,I.shp z _ z1 D (by simp only;omega)]
 obtain⟨e5,q18,L5⟩:=Nx M2 hlen hv L4;obtain⟨e6,s6,ki,L6,M6⟩:=Ny M2 rfl (by simpa using L5);obtain⟨e7,s7,sc,kj,L7,M7⟩:=Nz M6 L6;simp only[cd,aQ]at M7;have hz:∀p∈mL (ed.to:Int) (.str (qU nx.op)) T,∃y,S y/\p.1=(y.st:Int)/\p.2=.str (qU y.mn.op):=by
  intro p d;rcases KJ d with d|rfl
  .exact A.te p d
  exact⟨_,D,rfl,rfl⟩
 have kk:∃e8 X F8 v8 r V,ev R (.seq U.uR (.seq U.uS (.cond (.t 151) (.seq U.uT U.uU) .skip))) e7 s7=.code .normal e8 X/\bH e8 (EL a x o4 o5 ot o8 o9 v8 row j++[(11,.ptr jM 0),(12,.ptr j5 0),(18,.ptr sc 0)])/\WI S dn r V (mL (ed.to:Int) (.str (qU nx.op)) T) W L sp j/\
   ct X F8 v8 (r.map ez) av L [(sc,ez (ed.to,n8 nx)),(j5,n7 nx),(jM,ed.c),(o9,[w,.bool fo,.bool lo]),(o8,ez sp),(o5,[.mp oh,.mp ow,dp]),(o4,ez (0,[]))] [(oh,gq j4 V),(ow,gq j4 W),(ot,gq iV (mL (ed.to:Int) (.str (qU nx.op)) T))]:=by
  cases B:lkp ((ed.to:Int),n8 nx) H with
  |some v=>
   have kl:∃w1 b1 b2,v=.agg [w1,.bool b1,.bool b2]/\cellsOf w1=some [w1]:=by
    rcases A.he _ (vt B)with h|⟨z,_,_,h⟩
    .exact⟨_,_,_,cC Prod.snd h,rfl⟩
    exact⟨_,_,_,cC Prod.snd h,rfl⟩
   obtain⟨w1,b1,b2,rfl,km⟩:=kl;obtain⟨e8,X,k,h9,L8,M8⟩:=GG M7 rfl (by rw[B];rfl) km L7;rw[B]at L8;obtain⟨J,XS,C⟩:=GH (s:=X) L8;have Y:=M8.tail (n:=1);refine⟨J,X,F,v7,td,H,?_,?_,⟨A.hk,A.hn,A.he,hz,A.wl,A.we,A.sd⟩,Y⟩
   .rw[ub h9,ub XS,GI (by simp only[EL,bx,bA,ab,ae]at C;simp[C])];rfl
   simp only[EL,bx,bA,ab,ae]at C ⊢;simp[C]
  |none=>
   obtain⟨e8,X,k,h9,L8,M8⟩:=GG M7 rfl (by rw[B];rfl) rfl L7;rw[B]at L8;obtain⟨J,XS,C⟩:=GH (s:=X) L8;have Y:=M8.tail (n:=1);have kn:bH J (EL a x o4 o5 ot o8 o9 v7 row j++[(11,.ptr jM 0),(12,.ptr j5 0),(18,.ptr sc 0)]):=by simp only[EL,bx,bA,ab,ae]at C ⊢;simp[C]
   obtain⟨k0,ky,q24,ha,ko⟩:=NA Y rfl kn;have k4:((ed.to:Int),n8 nx) ∉ dn++td:=by rw[<-A.hk];exact yt.1 B
   have h6:(dn++(td++[((ed.to:Int),n8 nx)])).Nodup:=by rw[<-List.append_assoc,AF];exact⟨A.hn,by simp,λp d q hq e=>k4 (by rw[<-List.mem_singleton.1 hq,<-e];exact d)⟩
   have h7:mL ((ed.to:Int),n8 nx) (.agg (n7 nx)) H=H++[(((ed.to:Int),n8 nx),.agg (n7 nx))]:=by unfold mL;rw[B]
   have hb:∀p∈dn++(td++[((ed.to:Int),n8 nx)]),pD S p:=by
    intro p d;rw[<-List.append_assoc,cP]at d;rcases d with d|d
    .rw[<-A.hk]at d;obtain⟨q,hq,rfl⟩:=dt.1 d;exact(A.he q hq).spot
    rw[dq.1 d];exact .inr ⟨_,D,h5,rfl⟩
   have hle:=hf _ h6 hb;simp only[cA,az,aE]at hle;obtain⟨kp,kq,kr,ks,q25,kt,ku⟩:=NB ko (by rw[bG];omega) ha;refine⟨kp,kq,ks,kr,td++[((ed.to:Int),n8 nx)],mL ((ed.to:Int),n8 nx) (.agg (n7 nx)) H,?_,kt,⟨?_,h6,?_,hz,A.wl,A.we,A.sd⟩,?_⟩
   .rw[ub h9,ub XS,KH (by simp only[EL,bx,bA,ab,ae]at C;simp[C]),ub q24,q25]
   .rw[h7,fB,A.hk];simp
   .intro p d;rw[h7]at d;rcases cP.1 d with d|d
    .exact A.he p d
    rw[dq.1 d];exact .inr ⟨_,D,h5,rfl⟩
   simpa using ku
 obtain⟨e8,X,F8,v8,r,V,qm,L8,u,M8⟩:=kk;have last:∃J Z b W' L',ev R U.pQ e8 X=.code .normal J Z/\bH J (EL a x o4 o5 ot o8 o9 v8 row j)/\WI S dn r V (mL (ed.to:Int) (.str (qU nx.op)) T) W' L' sp (j+1)/\
   ct Z F8 v8 (r.map ez) b L' [(sc,ez (ed.to,n8 nx)),(j5,n7 nx),(jM,ed.c),(o9,[w,.bool fo,.bool lo]),(o8,ez sp),(o5,[.mp oh,.mp ow,dp]),(o4,ez (0,[]))] [(oh,gq j4 V),(ow,gq j4 W'),(ot,gq iV (mL (ed.to:Int) (.str (qU nx.op)) T))]:=by
  have M:∀(i:Nat) k v,W[i]?=some (k,v)->k∈dn/\∃aq,L[i]?=some (v,6,aq)/\aq.length<=if k=sp then j+1 else 6000:=by
   intro i k v E;obtain⟨h1,aq,h2,h3⟩:=u.we i k v E;refine⟨h1,aq,h2,?_⟩
   split at h3
   .rw[ar (by assumption)];omega
   rw[au (by assumption)];exact h3
  cases B:lkp sp W with
  |none=>
   obtain⟨J,Z,b,v',O,C,Y⟩:=KF M8 rfl B u.wl L8;refine⟨J,Z,b,W++[(sp,v')],_,O,C,⟨u.hk,u.hn,u.he,u.te,by simp[u.wl],λi k v E=>?_,u.sd⟩,Y⟩;rcases DY i W.length with P|rfl|P
   .rw[ea P]at E;obtain⟨h1,aq,h2,h3⟩:=M i k v E;exact⟨h1,aq,by rw[ea (by rw[<-u.wl];exact P)];exact h2,h3⟩
   .simp at E;obtain⟨rfl,rfl⟩:=E;exact⟨u.sd,_,by rw[u.wl];simp;rfl,by simp⟩
   rw[zq (by simp;omega)]at E;cases E
  |some v=>
   obtain⟨h1,aq,h2,h3⟩:=u.we _ _ _ (yu B);rw[ar rfl]at h3;obtain⟨J,Z,b,v',O,C,Y⟩:=KG M8 rfl B h2 (by omega) L8;refine⟨J,Z,b,W.set (DB sp W) (sp,v'),_,O,C,⟨u.hk,u.hn,u.he,u.te,by simp[u.wl],λi k v2 E=>?_,u.sd⟩,Y⟩;by_cases hd:DB sp W=i
   .subst hd;have k5:=(aS.1 (yu B)).1;rw[gn k5]at E;cases E;exact⟨h1,_,by rw[gn (by rw[<-u.wl];exact k5)],by simp;omega⟩
   rw[jd hd]at E;obtain⟨k1,k6,k2,k3⟩:=M i k v2 E;exact⟨k1,k6,by rw[jd hd];exact k2,k3⟩
 obtain⟨J,Z,b,W',L',O,C,I9,Y⟩:=last;obtain⟨k0,q27,ha⟩:=NC (s:=Z) h8 k8 C;refine⟨k0,Z,F8,v8,b,r,V,_,W',L',?_,ha,I9,Y.tail (n:=3)⟩;unfold U.sP;rw[ub ka,ub (show ev R (.cond (.t 85) .skip (.exit 2)) e0 s=.code .normal e0 s by rw[KH kb];rfl)];refine ub ?_ |>.trans q27;unfold U.Jp;rw[w5,ub kc,ub kd,ub ke];have k7:ev R (.seq U.uP (.seq U.uQ (.cond (.t 132) (.seq U.FY .ret) .skip))) e3 s2=.code .normal e5 s2:=by rw[ub kg,ub q18,GI (by simp only[EL,bx,bA,ab,ae]at L5;simp[L5])];rfl
 rw[ub k7,ub ki,ub kj,ub qm,O];rfl
end
end Go.Proofs.YtepamfbheocmhaaGreatDoor.K.Hm.S
