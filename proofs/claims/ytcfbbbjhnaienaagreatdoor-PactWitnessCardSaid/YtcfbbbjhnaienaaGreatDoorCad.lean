/- PactWitness returns true for every pact, strategy and side, part 4. -/
import Derived.Test.YtcfbbbjhnaienaaGreatDoorCac
set_option linter.all false
open List renaming cons_append->bo,nil_append->bq,length_singleton->dB,length_cons->aB,length_nil->aC,getElem_cons_zero->tV,getElem?_cons_zero->BO,take_zero->R8,getElem?_cons_succ->BP,take_succ_cons->JT,find?_cons->tY,length_dropLast->Sf,mem_of_mem_tail->Sj,set_cons_zero->aO,flatten_cons->Sk,count_append->Sl,set_cons_succ->bJ,findIdx_eq_length->So,findIdx_le_length->Ss,foldl_cons->nw,findIdx_append->SB,tail_cons->SC,count_cons->SE
open Int renaming natCast_zero->Se,toNat_natCast->gD
open Nat renaming add_zero->iB
open Function renaming comp_def->tP
open Option renaming map_some->me
set_option maxRecDepth 10000
noncomputable section
namespace Go.Proofs.YtcfbbbjhnaienaaGreatDoor.K.Hm.S
open Go
def eC(id arg:Int)(p:Sp):Bool:=p.id=id/\p.arg=arg
def j3(a:Ar)(id arg:Int):Option Sp:=(uK a).find? (eC id arg)
def D5:ai:=[.int .i64 0,.int .i64 0,.bool false,.int .i64 0,.bool false]
def JR(o:Option Sp):ai:=match o with|none=>[.agg D5,.bool false]|some p=>[.agg p.c,.bool true]
def R0{l:Ky}{e:En}{s:HS}{p:Sp}(d:look e 11=some (qs p)):ev R U.ew e s=.code .normal (e.oE 8 (.ptr s.nx 0)) {h:=av (some (.cells (cP p.c) 0 5 s.nx)) s.nx s.h,nx:=s.nx.succ,gr:=av (some [s.nx]) s.nx s.gr,ty:=s.ty}:=by simp[d,aq,aA]
def aeP(id arg:Int)(E:En)(C:look E 4=some (.aw [iV id]))(M:look E 5=some (.aw [iV arg]))(h5:look E 6=some (.ptr .e 0))(h6:look E 7=some (.ptr (.z .e) 0))(l:Ky)(hl:l=.o .e)(p:Sp)(s:HS)
  (B:aj s.h l=sg 0 none E [11] U.ew U.ee)(Y:2<s.nx.toNat)(h3:il s .e D5)(h4:il s (.z .e) [.bool false]):
  ∃b s',R (.round l [qs p] s)=.val (.bool b) s'/\cV (λk=>k.toNat<3) s s'/\b= !eC id arg p/\
   (b=true->aj s'.h l=sg 0 none E [11] U.ew U.ee/\il s' .e D5/\il s' (.z .e) [.bool false])/\(b=false->aj s'.h l=sg 1 (some .ret) E [11] U.ew U.ee/\il s' .e p.c/\il s' (.z .e) [.bool true]):=by
 have d:l.toNat=2:=by subst hl;rfl
 have ha:=R0 (l:=l) (e:=.cons 11 (qs p) E) (s:=s) (p:=p) (by simp);have t:=cV.alloc (s:=s) (.cells (cP p.c) 0 5 s.nx) [s.nx];have O:l≠s.nx:=λe=>by rw[e]at d;omega
 have h7:aj (HS.mk (av (some (.cells (cP p.c) 0 5 s.nx)) s.nx s.h) s.nx.succ (av (some [s.nx]) s.nx s.gr) s.ty).h l=sg 0 none E [11] U.ew U.ee:=by rw[t.2.2.1 l (by omega) (λh=>h)];exact B
 have P:=(h3.frame t (λh=>h)).frame (cV.aJ (G:=λk=>k=l) (o:=l) (b:=.loop 2 none E [11] U.ew U.ee) rfl) (λe=>by rw[<-e]at d;simp[Ky.toNat]at d);have Q:=(h4.frame t (λh=>h)).frame (cV.aJ (G:=λk=>k=l) (o:=l) (b:=.loop 2 none E [11] U.ew U.ee) rfl) (λe=>by rw[<-e]at d;simp[Ky.toNat]at d);have f:cV (λk=>k.toNat<3) s ((HS.mk (av (some (.cells (cP p.c) 0 5 s.nx)) s.nx s.h) s.nx.succ (av (some [s.nx]) s.nx s.gr) s.ty).aJ l (.loop 2 none E [11] U.ew U.ee)):=
  (t.mono λ_ h=>h.elim).trans (cV.aJ (by show l.toNat<3;omega))
 have u:aj ((HS.mk (av (some (.cells (cP p.c) 0 5 s.nx)) s.nx s.h) s.nx.succ (av (some [s.nx]) s.nx s.gr) s.ty).aJ l (.loop 2 none E [11] U.ew U.ee)).h s.nx=some (.cells (cP p.c) 0 5 s.nx):=by rw[dW,ar (jY O)];simp
 have T:aj ((HS.mk (av (some (.cells (cP p.c) 0 5 s.nx)) s.nx s.h) s.nx.succ (av (some [s.nx]) s.nx s.gr) s.ty).aJ l (.loop 2 none E [11] U.ew U.ee)).h l=sg 2 none E [11] U.ew U.ee:=by rw[dW,au rfl]
 generalize h8:(HS.mk (av (some (.cells (cP p.c) 0 5 s.nx)) s.nx s.h) s.nx.succ (av (some [s.nx]) s.nx s.gr) s.ty).aJ l (.loop 2 none E [11] U.ew U.ee)=s2 at*;obtain⟨s3,y,h9,g,hb⟩:=P.put (new:=p.c) (v:=qs p) rfl rfl;have hd:=Q.frame g (λe=>by cases e);obtain⟨s4,hf,hg,j,hq⟩:=hd.set 0 (by simp) (.bool true) rfl;have V:aj s4.h l=sg 2 none E [11] U.ew U.ee:=by
  have hj:l.toNat<s2.nx.toNat:=by have:=f.1;omega
  rw[j.2.2.1 l (by have:=ch Ky.toNat hb;omega) (λe=>by rw[e]at d;simp[Ky.toNat]at d),g.2.2.1 l hj (λe=>by rw[e]at d;simp[Ky.toNat]at d)];exact T
 obtain⟨Z,pa,pb,pe⟩:=p;simp only[Sp.c]at u y;have y:qh 5 (some (.ptr .e 0)) (some (.agg [.int .i64 Z,.int .i64 pa,.bool pb.cell,.int .i64 pb.n,.bool pe])) s2=.v .undef s3:=y;generalize D:ev R U.ee ((En.cons 11 (qs ⟨Z,pa,pb,pe⟩) E).oE 8 (.ptr s.nx 0)) s2=r;have eB:=BJ (o:=r) B ha h7 (by rw[h8];exact D);have fin:∀(H:HS) (x:Nat) (X:Option HC),cV (λk=>k.toNat<3) s H->cV (λk=>k.toNat<3) s (H.aJ l (.loop x X E [11] U.ew U.ee)):=λH x X h=>h.trans (cV.aJ (by show l.toNat<3;omega))
 have cl:∀(H:HS) (o:Ky) (c:ai) (x:Nat) (X:Option HC),o≠l->il H o c->il (H.aJ l (.loop x X E [11] U.ew U.ee)) o c:=λH o c x X ho h=>h.frame (cV.aJ (G:=λk=>k=l) rfl) ho
 have n1:Ky.e≠l:=by rw[hl];intro h;cases h
 have n2:Ky.z .e≠l:=by rw[hl];intro h;cases h
 by_cases hm:Z=id/\pa=arg
 .obtain⟨rfl,rfl⟩:=hm;simp[U.ee,C,M,h5,h6,u,an,y,hf]at D;subst D;obtain⟨_,Y⟩:=eB (λe2 s2 h=>by simp at h;obtain⟨_,rfl⟩:=h;exact V);have q:=Y _ _ rfl;refine⟨false,_,q,fin _ _ _ ((f.trans (g.mono λk hk=>by subst hk;simp[Ky.toNat])).trans (j.mono λk hk=>by subst hk;simp[Ky.toNat])),by simp[eC],by simp,λ_=>⟨by rw[dW,au rfl],cl _ _ _ _ _ n1 (h9.frame j (λe=>by cases e)),cl _ _ _ _ _ n2 hg⟩⟩
 have hp:∃e2,r=.code .normal e2 s2:=by
  by_cases B:Z=id
  .have Y:¬pa=arg:=λh=>hm ⟨B,h⟩
   subst B;simp[U.ee,C,M,u,Y]at D;subst D;exact⟨_,rfl⟩
  simp[U.ee,C,u,B]at D;subst D;exact⟨_,rfl⟩
 obtain⟨e2,rfl⟩:=hp;obtain⟨B,_⟩:=eB (λe2 s2 h=>by simp at h;obtain⟨_,rfl⟩:=h;exact T);have q:=B _ _ rfl;refine⟨true,_,q,fin _ _ _ f,by simp only[eC];rw[cK hm];rfl,λ_=>⟨by rw[dW,au rfl],cl _ _ _ _ _ n1 P,cl _ _ _ _ _ n2 Q⟩,by simp⟩
def yu{α:Type}(q:α->Bool):∀(d l:List α),(∀x∈d,q x=false)->(d++l).find? q=l.find? q
 |[],_,_=>rfl
 |x::d,l,h=>by rw[bo,List.find?_cons_of_neg (by rw[h x dr];simp)];exact yu q d l λy c=>h y (cY _ c)
def aeQ(a:Ar)(ok:fz a)(id arg:Int)(s:HS):R (.call 107 [.agg a.c,iV id,iV arg] s)=.val (.cO (JR (j3 a id arg))) s:=by
 refine adn ?_;simp[-U.ew,U.V4,U.Jo,s0];generalize Q:lG R _ _ _ _ _ _=o;generalize V:(En.cons 0 _ _:En)=E at Q;generalize hS:HS.mk _ _ _ _=S at Q;have h9:look E 4=some (.aw [iV id]):=by subst V;simp
 have ha:look E 5=some (.aw [iV arg]):=by subst V;simp
 have D:look E 6=some (.ptr .e 0):=by subst V;simp
 have H:look E 7=some (.ptr (.z .e) 0):=by subst V;simp
 have X:look E 10=some (.fn 123 [.agg a.c] []):=by subst V;simp
 have f:S.nx=.o .e:=by subst hS;rfl
 have hg:il S .e D5:=by subst hS;exact⟨rfl,rfl,by simp[Ky.toNat]⟩
 have hj:il S (.z .e) [.bool false]:=by subst hS;exact⟨rfl,rfl,by simp[Ky.toNat]⟩
 have q:(Lc S E [11] U.ew U.ee).nx.toNat=3:=by show S.nx.succ.toNat=3;rw[f];rfl
 have Y:=cV.rf (s:=S) (e:=E) (ps:=[11]) (gV:=U.ew) (body:=U.ee);obtain⟨s2,M,hF,hd⟩:=aeO a ok (.o .e) (λk=>k.toNat<3)
  (λhl s'=>2<s'.nx.toNat/\aj s'.h (.o .e)=sg 0 none E [11] U.ew U.ee/\il s' .e D5/\il s' (.z .e) [.bool false]/\∃d g,hl=g.map qs/\uK a=d++g/\∀p∈d,eC id arg p=false)
  (λs'=>2<s'.nx.toNat/\aj s'.h (.o .e)=sg 1 (some .ret) E [11] U.ew U.ee/\∃p,j3 a id arg=some p/\il s' .e p.c/\il s' (.z .e) [.bool true])
  (Lc S E [11] U.ew U.ee) (λk hk=>by rw[q];exact hk)
  (λx=>by
   rw[q]
   rintro s1 s2 ⟨O,r,u,B,j⟩ C
   exact⟨by have:=C.1;omega,by rw[C.2.2.1 (.o .e) O (by simp[Up,Ky.toNat])];exact r,u.frame C (by simp[Up,Ky.toNat]),B.frame C (by simp[Up,Ky.toNat]),j⟩)
  (by
   rw[q]
   rintro s1 s2 ⟨O,r,p,u,B,j⟩ C
   exact⟨by have:=C.1;omega,by rw[C.2.2.1 (.o .e) O (by simp[Up,Ky.toNat])];exact r,p,u,B.frame C (by simp[Up,Ky.toNat]),j.frame C (by simp[Up,Ky.toNat])⟩)
  (λx rest s1 hN ⟨O,r,u,B,d,g,j,h6,h7⟩=>by
   cases g with
   |nil=>cases j
   |cons p g=>
    simp only[bX,n6]at j;obtain⟨rfl,rfl⟩:=j;obtain⟨b,s2,r1,r2,r3,r4,r5⟩:=aeP id arg E h9 ha D H (.o .e) rfl p s1 r O u B;refine⟨b,s2,r1,r2,λZ=>?_,λZ=>?_⟩
    .obtain⟨q1,q2,q3⟩:=r4 Z;refine⟨by have:=r2.1;omega,q1,q2,q3,d++[p],g,rfl,by rw[h6];simp,λy T=>?_⟩;rcases l5.1 T with T|T
     .exact h7 y T
     simp at T;subst T;rw[Z]at r3;simpa using r3
    obtain⟨q1,q2,q3⟩:=r5 Z;refine⟨by have:=r2.1;omega,q1,p,?_,q2,q3⟩;unfold j3;rw[h6,yu _ _ _ h7,List.find?_cons_of_pos];rw[Z]at r3;simpa using r3)
  [] ⟨by rw[q];omega,by show aj (av _ S.nx S.h) (.o .e)=_;rw[f,tN],hg.frame Y (λh=>h),hj.frame Y (λh=>h),[],uK a,by simp,rfl,by simp⟩
 have h8:=vR (L:=LU) (prog:=U.prog) (x:=.t 10) (s:=S) (e:=E) (ps:=[11]) (gV:=U.ew) (body:=U.ee) (e':=E) (UI:=[11]) (H4:=U.ew) (Am:=U.ee) (by rw[CB];exact X) (by rw[f];exact M);rcases hd with⟨O,r,u,B,d,g,j,h6,h7⟩|⟨O,r,p,u,B,j⟩
 .have hr:=h8.1 (by rw[f];exact r);rw[hr]at Q;subst Q;have hp:j3 a id arg=none:=by
   have:g=[]:=by cases g with
    |nil=>rfl
    |cons x y=>cases j
   subst this;unfold j3;rw[h6,yu _ _ _ h7];rfl
  have k1:=u.kill (k:=S.nx) (by rw[f];intro h;cases h);have k2:=B.kill (k:=S.nx) (by rw[f];intro h;cases h);generalize s2.kill S.nx=K at*;obtain⟨K1,P,hq,hs,_⟩:=k1.put (new:=D5) (v:=.agg D5) rfl rfl;have ht:=k2.frame hs (λe=>by cases e);obtain⟨K2,hx,hz,k0,_⟩:=ht.set 0 (by simp) (.bool false) rfl;have k3:=hq.frame k0 (λe=>by cases e);have P:qh 5 (some (.ptr .e 0)) (some (.agg [.int .i64 0,.int .i64 0,.bool false,.int .i64 0,.bool false])) K=.v .undef K1:=P;have l1:fQ (aj K2.h .e) 0 5=some D5:=k3.load;have l2:eN (aj K2.h (.z .e)) 0=some (.bool false):=hz.get 0 (by simp);rw[hp];simp[D,H,P,hx,l1,l2];exact aY (.cO (.data (by simp[D5])))
 have hr:=h8.2 (by rw[f];exact r);rw[hr]at Q;subst Q;rw[u];have k1:=B.kill (k:=S.nx) (by rw[f];intro h;cases h);have k2:=j.kill (k:=S.nx) (by rw[f];intro h;cases h);generalize s2.kill S.nx=K at*;have l1:fQ (aj K.h .e) 0 5=some p.c:=k1.load;have l2:eN (aj K.h (.z .e)) 0=some (.bool true):=k2.get 0 (by simp);simp[D,H,l1,l2];exact aY (.cO (.data (by simp)))
abbrev oe(m:Mv):HV:=.agg m.c
def aeR(p:Sp)(s:HS):R (.call 194 [qs p] s)=.val (oe ⟨p.id,p.arg,1,0⟩) s:=by refine aer ?_;simp[U.Wx,aa,s0,aq,aA,an]
def aeS(p:Sp)(n:Int)(s:HS):R (.call 195 [qs p,iV n] s)=.val (oe ⟨p.id,p.arg,2,n⟩) s:=by refine aes ?_;simp[U.Wy,aa,s0,aq,aA,an]
def aeT(p:Sp)(n:Int)(s:HS):R (.call 197 [qs p,iV n] s)=.val (oe ⟨p.id,p.arg,3,n⟩) s:=by refine aeu ?_;simp[U.Wz,aa,s0,aq,aA,an]
def aeU(p:Sp)(n:Int)(s:HS):R (.call 188 [qs p,iV n] s)=.val (.fn 196 [] [.aw p.c,.aw [iV n]]) s:=by refine aem ?_;simp[U.Ws,s0];exact aY (Vw.fn .nil (.cons (Vw.ptr rfl rfl (.data (by simp))) (.cons (Vw.ptr rfl rfl (.data (by simp))) .nil)))
def yw(n i:Nat)(h:i<n)(f:Nat->Mv):((List.range n).drop i).map f=f i::((List.range n).drop (i+1)).map f:=by rw[uv (by simpa using h)];simp
def aeV(p:Sp)(hp:eh p.b=true):H3 LU U.prog 187 [qs p] [] ((dX p.b p.id p.arg).map oe):=by
 intro l G I Fn s hG gw Iw eB rest B;simp only[eh,bY]at hp;simp only[dX,bX,bo]at B;obtain⟨b,s1,t,V,Q,C⟩:=eB _ _ s (aV _) B;have d:=aeR p;have g:=aeS p;simp only[qs,oe,Mv.c,Sp.c,iV]at t d g;have t:R (Task.round l [HV.agg [.int .i64 p.id,.int .i64 p.arg,.int .u8 1,.int .i64 0]] s)=.val (.bool b) s1:=t;generalize f:ev R U.Jy (bc ([qs p]++[.iK l]++[]) 0) s=r;have u:=f;cases b with
 |false=>simp[U.Jy,d,t]at f;subst f;exact⟨s1,MG rfl ⟨.ret,_,s1,u,.inr rfl,by simp⟩,V.mono λk D=>.inl D,.inr (C rfl)⟩
 |true=>
  cases y:p.b.cell with
  |false=>rw[y]at d;simp[U.Jy,d,t,y]at f;subst f;have j:=Q rfl;rw[y]at j;exact⟨s1,MG rfl ⟨.ret,_,s1,u,.inr rfl,by simp⟩,V.mono λk D=>.inl D,.inl j⟩
  |true=>
   rw[y]at d g;simp[U.Jy,d,t,y]at f;generalize H:ev R (.loop U.xV) _ s1=r1 at f;have j:=Q rfl;rw[y,au rfl]at j;have hq:=eI H p.b.n.toNat
    (λi e s'=>look e 1=some (.iK l)/\look e 2=some (.aw p.c)/\look e 18=some (iV p.b.n)/\look e 19=some (iV i)/\cV (λk=>G k∨Up s.nx.toNat k) s s'/\I ((((List.range p.b.n.toNat).drop i).map (Dp p.id p.arg)).map oe++rest) s')
    (λo=>∃X s',cV (λk=>G k∨Up s.nx.toNat k) s s'/\((o=.code .ret X s'/\Fn s')∨(o=.code (.exit 0) X s'/\I rest s')))
    0 (by omega) ⟨by simp,by simp[y],by simp,by simp,V.mono λk D=>.inl D,j⟩
    (λi e s' r hi ⟨T,M,q,z,E,B⟩ f=>by
     rw[yw _ _ hi,bX,bo]at B;obtain⟨b,s2,t,Y,Q,C⟩:=eB _ _ s' E.1 B;have O:(i:Int)<p.b.n:=by omega
     simp only[oe,Mv.c,Dp]at t;have P:=E.trans (Y.mono (G:=λk=>G k∨Up s.nx.toNat k) λk D=>.inl D);simp only[Sp.c,y]at M;cases b with
     |false=>simp[U.xV,T,M,q,z,O,g,t]at f;subst f;exact .inr ⟨by simp,_,_,P,.inl ⟨rfl,C rfl⟩⟩
     |true=>
      simp[U.xV,T,M,q,z,O,g,t,br (n:=64) (show i<64 by omega) (by omega)]at f;subst f;exact .inl ⟨_,_,rfl,by simp[T],by simp[M,y],by simp[q],by simp,P,Q rfl⟩)
    (λe s' r ⟨T,M,q,z,E,B⟩ f=>by
     have Z:¬(max p.b.n 0<p.b.n):=by omega
     rw[EE (by simp)]at B;simp[U.xV,q,z,Z]at f;subst f;exact⟨by simp,_,_,E,.inr ⟨rfl,by simpa using B⟩⟩)
   clear H;obtain⟨X,s',E,⟨rfl,h⟩|⟨rfl,h⟩⟩:=hq
   .simp at f;subst f;exact⟨s',MG rfl ⟨.ret,_,s',u,.inr rfl,by simp⟩,E,.inr h⟩
   simp at f;subst f;exact⟨s',MG rfl ⟨.normal,_,s',u,.inl rfl,by simp⟩,E,.inl h⟩
def aeW(p:Sp)(hp:eh p.b=true)(n:Int)(h0:0<=n)(hn:n<=64):H3 LU U.prog 196 [] [.aw p.c,.aw [iV n]] (((if p.Cm then [(⟨p.id,p.arg,3,-1⟩:Mv)]else [])++(List.range n.toNat).map (pJ p.id p.arg)).map oe):=by
 intro l G I Fn s hG gw Iw eB rest q;have d:=aeT p;simp only[qs,oe,Mv.c,Sp.c,iV]at d;have main:∀(e:En) (s1:HS) (B r:Out),ev R (.loop U.qZ) e s1=B->gE 0 B=r->look e 0=some (.iK l)->look e 1=some (.aw p.c)->look e 14=some (iV n)->look e 15=some (iV 0)->cV (λk=>G k∨Up s.nx.toNat k) s s1->I (((List.range n.toNat).map (pJ p.id p.arg)).map oe++rest) s1->
   ∃x g s',r=.code x g s'/\(x=.normal∨x=.ret)/\cV (λk=>G k∨Up s.nx.toNat k) s s'/\(I rest s'∨Fn s'):=by
  intro e s1 B r j f e0 e1 V X Y Z;have hq:=eI j n.toNat
   (λi e s'=>look e 0=some (.iK l)/\look e 1=some (.aw p.c)/\look e 14=some (iV n)/\look e 15=some (iV i)/\cV (λk=>G k∨Up s.nx.toNat k) s s'/\I ((((List.range n.toNat).drop i).map (pJ p.id p.arg)).map oe++rest) s')
   (λo=>∃g s',cV (λk=>G k∨Up s.nx.toNat k) s s'/\((o=.code .ret g s'/\Fn s')∨(o=.code (.exit 0) g s'/\I rest s')))
   0 (by omega) ⟨e0,e1,V,X,Y,Z⟩
   (λi e s' r hi ⟨Q,T,t,y,u,q⟩ f=>by
    rw[yw _ _ hi,bX,bo]at q;obtain⟨b,s2,C,h3,ht,D⟩:=eB _ _ s' u.1 q;have H:(i:Int)<n:=by omega
    simp only[oe,Mv.c,pJ]at C;have M:=u.trans (h3.mono (G:=λk=>G k∨Up s.nx.toNat k) λk hk=>.inl hk);cases b with
    |false=>simp[U.qZ,Q,T,t,y,H,d,C]at f;subst f;exact .inr ⟨by simp,_,_,M,.inl ⟨rfl,D rfl⟩⟩
    |true=>
     simp[U.qZ,Q,T,t,y,H,d,C,br (n:=64) (show i<64 by omega) (by omega)]at f;subst f;exact .inl ⟨_,_,rfl,by simp[Q],by simp[T],by simp[t],by simp,M,ht rfl⟩)
   (λe s' r ⟨Q,T,t,y,u,q⟩ f=>by
    have h4:¬(max n 0<n):=by omega
    rw[EE (by simp)]at q;simp[U.qZ,t,y,h4]at f;subst f;exact⟨by simp,_,_,u,.inr ⟨rfl,by simpa using q⟩⟩)
  clear j;obtain⟨g,s',u,⟨rfl,h⟩|⟨rfl,h⟩⟩:=hq
  .simp at f;subst f;exact⟨_,_,_,rfl,.inr rfl,u,.inr h⟩
  simp at f;subst f;exact⟨_,_,_,rfl,.inl rfl,u,.inl h⟩
 generalize f:ev R U.Jz (bc ([]++[.iK l]++[.aw p.c,.aw [iV n]]) 0) s=r;have h5:=f;have fin:∀x g s',r=.code x g s'->(x=.normal∨x=.ret)->R (.call 196 ([]++[.iK l]++[.aw p.c,.aw [iV n]]) s)=.val (.cO []) s':=by intro x g s' h O;exact aet (args:=[]++[.iK l]++[.aw p.c,.aw [iV n]]) rfl ⟨x,g,s',by rw[h5,h],O,rfl⟩
 cases z:p.Cm with
 |false=>rw[z]at q d;simp[U.Jz,z]at f;generalize j:ev R (.loop U.qZ) _ s=B at f;obtain⟨x,g,s',O,E,u,hd⟩:=main _ s B r j f (by simp) (by simp[z]) (by simp) (by simp) cV.refl (by simpa using q);exact⟨s',fin x g s' O E,u,hd⟩
 |true=>
  rw[z,au rfl]at q;simp only[bX,bo,bq]at q;obtain⟨b,s1,C,hf,ht,D⟩:=eB _ _ s (aV _) q;have P:=hf.mono (G:=λk=>G k∨Up s.nx.toNat k) λk hk=>.inl hk
  simp only[oe,Mv.c]at C;rw[z]at d;cases b with|false=>simp[U.Jz,z,d,C]at f;exact⟨s1,fin _ _ s1 f.symm (.inr rfl),P,.inr (D rfl)⟩|true=>simp[U.Jz,z,d,C]at f;generalize j:ev R (.loop U.qZ) _ s1=B at f;obtain⟨x,g,s',O,E,u,hd⟩:=main _ s1 B r j f (by simp) (by simp[z]) (by simp) (by simp) P (by simpa using ht rfl);exact⟨s',fin x g s' O E,u,hd⟩
@[simp]def UM{l:Ky}:cellsOf (.iK l)=some [.iK l]:=rfl
@[simp]def aeX{s:HS}{o:Ky}{bj len c:Nat}{k:IntKind}{sz:Nat}:Fp (some (.sl o bj len c)) (some (.int k 1)) sz s=if 1<len then if sz=c then .v (.ptr o (bj+1*sz)) s else .bad else .bad:=JD (n:=1)
def cV.kill{s:HS}{o:Ky}{G:bM}(h:G o):cV G s (s.kill o):=
 ⟨aV _,rfl,λp c hG=>by rw[sh,ar λe=>by subst e;exact hG h],λp c hG=>rfl⟩
def R1{e:En}{s:HS}{m:Mv}(d:look e 21=some (oe m)):ev R U.ef e s=.code .normal (e.oE 6 (.ptr s.nx 0)) {h:=av (some (.cells (cP m.c) 0 4 s.nx)) s.nx s.h,nx:=s.nx.succ,gr:=av (some [s.nx]) s.nx s.gr,ty:=s.ty}:=by simp[d,aq,aA]
section
variable{l:Ky}{G:bM}{I:ai->HS->Prop}{Fn:HS->Prop}{N:Nat}(hG:∀k,G k->k.toNat<N)(gw:∀x,zz N (I x))(Iw:zz N Fn)
 (eB:∀x rest s1,N<=s1.nx.toNat->I (x::rest) s1->∃b s2,R (.round l [x] s1)=.val (.bool b) s2/\cV G s1 s2/\(b=true->I rest s2)/\(b=false->Fn s2))
include hG gw Iw eB
theorem aeY{f:Nat}{pre post:ai}{ms:bE}(Ld:H3 LU U.prog f pre post (ms.map oe))(rest:ai)(E:En)(hg:look E 3=some (.aw [.iK l]))(x:X)(hx:bw x E=some (.fn f pre post))(C:∃d,rest=List.map oe d)(s:HS)(T:N<=s.nx.toNat)(hI:I (ms.map oe++rest) s):
  ∃s',cV (λk=>G k∨Up N k) s s'/\((lG R x [21] U.ef U.ek E s=.code .normal E s'/\I rest s')∨(lG R x [21] U.ef U.ek E s=.code .ret E s'/\Fn s')):=by
 have D:=Ky.aS s.nx;have Z:=cV.rf (s:=s) (e:=E) (ps:=[21]) (gV:=U.ef) (body:=U.ek);have q:(Lc s E [21] U.ef U.ek).nx.toNat=s.nx.toNat+1:=D;have t:∀{s1 s2:HS},cV (Up (s.nx.toNat+1)) s1 s2->cV (Up N) s1 s2:=λh=>h.mono λk g=>by show N<=k.toNat;have:s.nx.toNat+1<=k.toNat:=g;omega
 obtain⟨s2,H,hF,hd⟩:=Ld s.nx (λk=>G k∨k=s.nx)
  (λM s'=>s.nx.toNat<s'.nx.toNat/\aj s'.h s.nx=sg 0 none E [21] U.ef U.ek/\I M s'/\∃d,M=List.map oe d)
  (λs'=>s.nx.toNat<s'.nx.toNat/\aj s'.h s.nx=sg 1 (some .ret) E [21] U.ef U.ek/\Fn s')
  (Lc s E [21] U.ef U.ek) (λk g=>by
   rw[q];rcases g with g|rfl
   .have:=hG k g;omega
   omega)
  (λx=>by
   rw[q]
   rintro s1 s2 ⟨V,u,y,h4⟩ O
   exact⟨by have:=O.1;omega,by rw[O.2.2.1 s.nx V (by show¬(_<=_);omega)];exact u,gw _ _ _ y (t O),h4⟩)
  (by
   rw[q]
   rintro s1 s2 ⟨V,u,y⟩ O
   exact⟨by have:=O.1;omega,by rw[O.2.2.1 s.nx V (by show¬(_<=_);omega)];exact u,Iw _ _ y (t O)⟩)
  (λv M s1 hy ⟨V,u,y,d,h4⟩=>by
   cases d with
   |nil=>cases h4
   |cons m d=>
    simp only[bX,n6]at h4;obtain⟨rfl,rfl⟩:=h4;have ha:=R1 (e:=.cons 21 (oe m) E) (s:=s1) (m:=m) (by simp);have P:=cV.alloc (s:=s1) (.cells (cP m.c) 0 4 s1.nx) [s1.nx];have h5:s.nx≠s1.nx:=λe=>by rw[e]at V;omega
    have hj:aj (HS.mk (av (some (.cells (cP m.c) 0 4 s1.nx)) s1.nx s1.h) s1.nx.succ (av (some [s1.nx]) s1.nx s1.gr) s1.ty).h s.nx=sg 0 none E [21] U.ef U.ek:=by rw[P.2.2.1 s.nx V (λh=>h)];exact u
    have h6:=cV.aJ (s:=HS.mk (av (some (.cells (cP m.c) 0 4 s1.nx)) s1.nx s1.h) s1.nx.succ (av (some [s1.nx]) s1.nx s1.gr) s1.ty) (G:=λk=>k=s.nx) (o:=s.nx) (b:=.loop 2 none E [21] U.ef U.ek) rfl;have h7:aj ((HS.mk (av (some (.cells (cP m.c) 0 4 s1.nx)) s1.nx s1.h) s1.nx.succ (av (some [s1.nx]) s1.nx s1.gr) s1.ty).aJ s.nx (.loop 2 none E [21] U.ef U.ek)).h s1.nx=some (.cells (cP m.c) 0 4 s1.nx):=by rw[dW,ar (jY h5)];simp
    have hl:aj ((HS.mk (av (some (.cells (cP m.c) 0 4 s1.nx)) s1.nx s1.h) s1.nx.succ (av (some [s1.nx]) s1.nx s1.gr) s1.ty).aJ s.nx (.loop 2 none E [21] U.ef U.ek)).h s.nx=sg 2 none E [21] U.ef U.ek:=by rw[dW,au rfl]
    have ho:=gw _ _ _ y ((P.mono (G:=Up N) λ_ h=>h.elim).trans (h6.mono λk g=>by subst g;exact T));have p:cV (λk=>G k∨k=s.nx) s1 ((HS.mk (av (some (.cells (cP m.c) 0 4 s1.nx)) s1.nx s1.h) s1.nx.succ (av (some [s1.nx]) s1.nx s1.gr) s1.ty).aJ s.nx (.loop 2 none E [21] U.ef U.ek)):=(P.mono λ_ h=>h.elim).trans (h6.mono λk g=>.inr g);generalize hp:(HS.mk (av (some (.cells (cP m.c) 0 4 s1.nx)) s1.nx s1.h) s1.nx.succ (av (some [s1.nx]) s1.nx s1.gr) s1.ty).aJ s.nx (.loop 2 none E [21] U.ef U.ek)=s2 at*;obtain⟨b,s3,hb,Q,ht,hq⟩:=eB _ _ s2 (by have:=p.1;omega) ho;have z:aj s3.h s.nx=sg 2 none E [21] U.ef U.ek:=by rw[Q.2.2.1 s.nx (by have:=p.1;omega) (λh=>by have:=hG _ h;omega)];exact hl
    have h8:s.nx.toNat<s3.nx.toNat:=by have:=p.1;have:=Q.1;omega
    have hs:=p.trans (Q.mono (G:=λk=>G k∨k=s.nx) λk g=>.inl g);generalize Y:ev R U.ek ((En.cons 21 (oe m) E).oE 6 (.ptr s1.nx 0)) s2=r;have j:=BJ (o:=r) u ha hj (by rw[hp];exact Y);obtain⟨mi,ma,mk,mn⟩:=m;simp only[oe,Mv.c]at hb h7;have fin:∀(st:Nat) (pd:Option HC),cV (λk=>G k∨k=s.nx) s1 (s3.aJ s.nx (.loop st pd E [21] U.ef U.ek)):=λst pd=>hs.trans (cV.aJ (.inr rfl))
    have B:∀(st:Nat) (pd:Option HC),cV (Up N) s3 (s3.aJ s.nx (.loop st pd E [21] U.ef U.ek)):=λst pd=>cV.aJ T
    simp[U.ek,hg,h7,an,hb]at Y;cases b with
    |true=>simp at Y;subst Y;obtain⟨q1,_⟩:=j (λe2 s2 h=>by simp at h;obtain⟨_,rfl⟩:=h;exact z);exact⟨true,_,q1 _ _ rfl,fin _ _,λ_=>⟨h8,by rw[dW,au rfl],gw _ _ _ (ht rfl) (B _ _),d,rfl⟩,by simp⟩
    |false=>
     simp at Y;subst Y;obtain⟨_,q1⟩:=j (λe2 s2 h=>by simp at h;obtain⟨_,rfl⟩:=h;exact z);exact⟨false,_,q1 _ _ rfl,fin _ _,by simp,λ_=>⟨h8,by rw[dW,au rfl],Iw _ _ (hq rfl) (B _ _)⟩⟩)
  rest ⟨by rw[q];omega,by show aj (av _ s.nx s.h) s.nx=_;rw[tN],gw _ _ _ hI (Z.mono λ_ h=>h.elim),by obtain⟨d,h⟩:=C;exact⟨ms++d,by rw[h,eU]⟩⟩
 have h9:=vR (L:=LU) (prog:=U.prog) (x:=x) (s:=s) (e:=E) (ps:=[21]) (gV:=U.ef) (body:=U.ek) (e':=E) (UI:=[21]) (H4:=U.ef) (Am:=U.ek) hx H;have hK:cV (λk=>G k∨Up N k) s (s2.kill s.nx):=by
  refine((Z.mono λ_ h=>h.elim).trans (hF.mono λk g=>?_)).trans (cV.kill (.inr T));rcases g with(g|rfl)|g
  .exact .inl g
  .exact .inr T
  rw[q]at g;exact .inr (by show N<=k.toNat;have:s.nx.toNat+1<=k.toNat:=g;omega)
 rcases hd with⟨_,u,y,_⟩|⟨_,u,y⟩
 .exact⟨_,hK,.inl ⟨h9.1 u,gw _ _ _ y (cV.kill T)⟩⟩
 exact⟨_,hK,.inr ⟨h9.2 u,Iw _ _ y (cV.kill T)⟩⟩
end
def nS(p:Sp):bE:=dX p.b p.id p.arg++pK p.b p.Cm p.id p.arg
def zz.up{N c:Nat}{p:HS->Prop}(h:zz N p)(d:N<=c):zz c p:=λs1 s2 f g=>h s1 s2 f (g.mono λk j=>fu d j)
def aeZ(p:Sp)(hp:eh p.b=true):H3 LU U.prog 175 [qs p] [] ((nS p).map oe):=by
 intro l G I Fn s hG gw Iw eB rest H;have h6:=hp;simp only[eh,bY]at h6;have M:=aeU p p.b.n;have Z:∀x,zz s.nx.toNat (λs'=>I (x++rest) s'):=λx=>gw _
 have y:∀x r s1,s.nx.toNat<=s1.nx.toNat->I ((x::r)++rest) s1->∃b s2,R (.round l [x] s1)=.val (.bool b) s2/\cV G s1 s2/\(b=true->I (r++rest) s2)/\(b=false->Fn s2):=λx r s1 h1 h2=>eB x _ s1 h1 h2
 generalize d:ev R U.Rl (bc ([qs p]++[.iK l]++[]) 0) s=r;have h4:=d;simp only[qs,Sp.c,iV]at M;simp[U.Rl,U.Jw,M]at d;generalize P:ev R (.loop U.xQ) _ _=r1 at d;generalize hS:HS.mk _ _ _ _=S at P;have q:aj S.h s.nx=some (.cells (cP [.fn 187 [qs p] [],.fn 196 [] [.aw p.c,.aw [iV p.b.n]]]) 0 2 s.nx):=by subst hS;simp;rfl
 have O:cV (λ_=>False) s S:=by subst hS;exact cV.alloc _ _
 have h7:s.nx.toNat<S.nx.toNat:=by have:=Ky.aS s.nx;subst hS;simp only;omega
 have hq:=eI P 2
  (λi e s'=>look e 3=some (.aw [.iK l])/\look e 14=some (.sl s.nx 0 2 1)/\look e 15=some (iV 2)/\look e 16=some (iV i)/\cV (λk=>G k∨Up s.nx.toNat k) s s'/\s.nx.toNat<s'.nx.toNat/\
   aj s'.h s.nx=some (.cells (cP [.fn 187 [qs p] [],.fn 196 [] [.aw p.c,.aw [iV p.b.n]]]) 0 2 s.nx)/\
   I ((if i=0 then(nS p).map oe else if i=1 then(pK p.b p.Cm p.id p.arg).map oe else [])++rest) s')
  (λo=>∃e' s',cV (λk=>G k∨Up s.nx.toNat k) s s'/\((o=.code .ret e' s'/\Fn s')∨(o=.code (.exit 0) e' s'/\I rest s')))
  0 (by omega) ⟨by simp,by simp,by simp,by simp,O.mono λ_ h=>h.elim,h7,q,by simpa using gw _ _ _ H (O.mono λ_ h=>h.elim)⟩
  (λi e s' r hi ⟨h3,z,u,g,X,hn,q,H⟩ d=>by
   have h8:∀k,G k->k.toNat<s'.nx.toNat:=λk hk=>by have:=hG k hk;omega
   have key:∀(f:Nat) (pre post:ai) (ms B:bE),H3 LU U.prog f pre post (ms.map oe)->∀(E:En) (Y:Out),lG R (.t 20) [21] U.ef U.ek E s'=Y->look E 3=some (.aw [.iK l])->look E 20=some (.fn f pre post)->I ((ms.map oe++B.map oe)++rest) s'->
     ∃s2,cV (λk=>G k∨Up s.nx.toNat k) s s2/\s.nx.toNat<s2.nx.toNat/\aj s2.h s.nx=some (.cells (cP [.fn 187 [qs p] [],.fn 196 [] [.aw p.c,.aw [iV p.b.n]]]) 0 2 s.nx)/\
      ((Y=.code .normal E s2/\I (B.map oe++rest) s2)∨(Y=.code .ret E s2/\Fn s2)):=by
    intro f pre post ms B Ld E Y h9 ha h5 H;subst h9;obtain⟨s2,j,hd⟩:=aeY (N:=s'.nx.toNat) (I:=λx s'=>I (x++rest) s') h8 (λx=>(Z x).up (by omega)) (Iw.up (by omega)) (λx r s1 h1 h2=>y x r s1 (by omega) h2) Ld (B.map oe) E ha (.t 20) (by rw[CB];exact h5) ⟨B,rfl⟩ s' (aV _) H;refine⟨s2,X.trans (j.mono λk hk=>hk.imp id λh=>by have h:s'.nx.toNat<=k.toNat:=h;show s.nx.toNat<=k.toNat;omega),by have:=j.1;omega,?_,hd⟩;rw[j.2.2.1 s.nx hn (by rintro(h|h);have:=hG _ h;omega;have h:s'.nx.toNat<=s.nx.toNat:=h;omega)];exact q
   match i,hi with
   |0,_=>
    simp only[bp]at H;have Q:I (((dX p.b p.id p.arg).map oe++(pK p.b p.Cm p.id p.arg).map oe)++rest) s':=by rw[<-List.map_append];exact H
    simp at g;simp[-U.ef,U.xQ,U.Fj,U.Fi,z,u,g,q,yh]at d;generalize C:lG R (.t 20) [21] U.ef U.ek _ s'=Y at d;obtain⟨s2,j,T,D,hd⟩:=key 187 [qs p] [] _ _ (aeV p hp) _ _ C (by simp[h3]) (by simp) Q;clear C;have V:bT .i64 1=1:=cx (by omega) (by omega);rcases hd with⟨rfl,h⟩|⟨rfl,h⟩
    .simp[g,V]at d;subst d;exact .inl ⟨_,_,rfl,by simp[h3],by simp[z],by simp[u],by simp,j,T,D,by simpa using h⟩
    simp at d;subst d;exact .inr ⟨by simp,_,_,j,.inl ⟨rfl,h⟩⟩
   |1,_=>
    simp only[Nat.one_ne_zero,bD,bp]at H;have Q:I (((pK p.b p.Cm p.id p.arg).map oe++([]:bE).map oe)++rest) s':=by simpa using H
    simp at g;simp[-U.ef,U.xQ,U.Fj,U.Fi,z,u,g,q,yh]at d;generalize C:lG R (.t 20) [21] U.ef U.ek _ s'=Y at d;obtain⟨s2,j,T,D,hd⟩:=key 196 [] [.aw p.c,.aw [iV p.b.n]] _ _ (aeW p hp p.b.n (by omega) (by omega)) _ _ C (by simp[h3]) (by simp) Q;clear C;have V:bT .i64 2=2:=cx (by omega) (by omega);rcases hd with⟨rfl,h⟩|⟨rfl,h⟩
    .simp[g,V]at d;subst d;exact .inl ⟨_,_,rfl,by simp[h3],by simp[z],by simp[u],by simp,j,T,D,by simpa using h⟩
    simp at d;subst d;exact .inr ⟨by simp,_,_,j,.inl ⟨rfl,h⟩⟩
   |i+2,h=>exact absurd h (by omega))
  (λe s' r ⟨h3,z,u,g,X,hn,q,H⟩ d=>by
   simp at g;simp[U.xQ,u,g]at d;subst d;exact⟨by simp,_,_,X,.inr ⟨rfl,by simpa using H⟩⟩)
 clear P;obtain⟨e',s',X,⟨rfl,h⟩|⟨rfl,h⟩⟩:=hq
 .simp at d;subst d;exact⟨s',Xy rfl ⟨.ret,_,s',h4,.inr rfl,rfl⟩,X,.inr h⟩
 simp at d;subst d;exact⟨s',Xy rfl ⟨.normal,_,s',h4,.inl rfl,rfl⟩,X,.inl h⟩
def An(i:Nat):∀(ps:se) (j:Nat),(∀b∈ps,eh b=true)->∀p∈BN i j ps,eh p.b=true
 |[],_,_,p,c=>by cases c
 |b::r,j,h,p,c=>by
  rcases bk.1 c with rfl|c
  .exact h b dr
  exact An i r (j+1) (λx d=>h x (cY _ d)) p c
def Ao(jumps:Bool):∀(ids:uJ) (i:Nat),(∀t∈ids,gm t=true)->∀p∈zA jumps i ids,eh p.b=true
 |[],_,_,p,c=>by cases c
 |t::r,i,h,p,c=>by
  have d:=h t dr;simp only[gm,aL,fG]at d;rcases bk.1 c with rfl|c
  .exact d.1.1
  rcases l5.1 c with c|c
  .exact An i t.ps 0 d.1.2 p c
  exact Ao jumps r (i+1) (λx f=>h x (cY _ f)) p c
def Fw{a:Ar}(h:aQ a=0):∀p∈uK a,eh p.b=true:=by
 obtain⟨d,f⟩:=si h;intro p c;rcases bk.1 c with rfl|c
 .exact d
 exact Ao _ _ _ f p c
def Fx{a:Ar}{id arg:Int}{p:Sp}(h:j3 a id arg=some p):p∈uK a:=Ap h
def ML(a:Ar)(m:Mv):ai:=match j3 a m.id m.arg with|none=>[.agg D5,.bool false]|some p=>[.agg p.c,.bool (decide (m∈nS p))]
def R2{e:En}{s:HS}{m:Mv}(d:look e 23=some (oe m)):ev R U.ey e s=.code .normal (e.oE 8 (.ptr s.nx 0)) {h:=av (some (.cells (cP m.c) 0 4 s.nx)) s.nx s.h,nx:=s.nx.succ,gr:=av (some [s.nx]) s.nx s.gr,ty:=s.ty}:=by simp[d,aq,aA]
def ae0(m:Mv)(q:Sp)(E:En)(u:look E 3=some (.aw m.c))(h5:look E 4=some (.ptr .e 0))(h7:look E 5=some (.ptr (.z .e) 0))(h8:look E 6=some (.ptr (.o .e) 0))(l:Ky)(Y:l=.z (.z .e))(x:Mv)(s:HS)
  (Z:aj s.h l=sg 0 none E [23] U.ey U.ez)(h2:3<s.nx.toNat)(h3:il s .e D5)(h4:il s (.z .e) [.bool false])(h6:il s (.o .e) q.c):
  ∃b s',R (.round l [oe x] s)=.val (.bool b) s'/\cV (λk=>k.toNat<4) s s'/\b= !decide (x=m)/\
   (b=true->aj s'.h l=sg 0 none E [23] U.ey U.ez/\il s' .e D5/\il s' (.z .e) [.bool false]/\il s' (.o .e) q.c)/\(b=false->aj s'.h l=sg 1 (some .ret) E [23] U.ey U.ez/\il s' .e q.c/\il s' (.z .e) [.bool true]):=by
 have h9:l.toNat=3:=by subst Y;rfl
 have n0:Ky.e≠l:=by rw[Y];intro h;cases h
 have n1:Ky.z .e≠l:=by rw[Y];intro h;cases h
 have n2:Ky.o .e≠l:=by rw[Y];intro h;cases h
 have ha:=R2 (e:=.cons 23 (oe x) E) (s:=s) (m:=x) (by simp);have d:=cV.alloc (s:=s) (.cells (cP x.c) 0 4 s.nx) [s.nx];have D:l≠s.nx:=λe=>by rw[e]at h9;omega
 have hb:aj (HS.mk (av (some (.cells (cP x.c) 0 4 s.nx)) s.nx s.h) s.nx.succ (av (some [s.nx]) s.nx s.gr) s.ty).h l=sg 0 none E [23] U.ey U.ez:=by rw[d.2.2.1 l (by omega) (λh=>h)];exact Z
 have y:=cV.aJ (s:=HS.mk (av (some (.cells (cP x.c) 0 4 s.nx)) s.nx s.h) s.nx.succ (av (some [s.nx]) s.nx s.gr) s.ty) (G:=λk=>k=l) (o:=l) (b:=.loop 2 none E [23] U.ey U.ez) rfl;have H:=(h3.frame d (λh=>h)).frame y n0;have M:=(h4.frame d (λh=>h)).frame y n1;have O:=(h6.frame d (λh=>h)).frame y n2;have f:cV (λk=>k.toNat<4) s ((HS.mk (av (some (.cells (cP x.c) 0 4 s.nx)) s.nx s.h) s.nx.succ (av (some [s.nx]) s.nx s.gr) s.ty).aJ l (.loop 2 none E [23] U.ey U.ez)):=
  (d.mono λ_ h=>h.elim).trans (cV.aJ (by show l.toNat<4;omega))
 have B:aj ((HS.mk (av (some (.cells (cP x.c) 0 4 s.nx)) s.nx s.h) s.nx.succ (av (some [s.nx]) s.nx s.gr) s.ty).aJ l (.loop 2 none E [23] U.ey U.ez)).h s.nx=some (.cells (cP x.c) 0 4 s.nx):=by rw[dW,ar (jY D)];simp
 have P:aj ((HS.mk (av (some (.cells (cP x.c) 0 4 s.nx)) s.nx s.h) s.nx.succ (av (some [s.nx]) s.nx s.gr) s.ty).aJ l (.loop 2 none E [23] U.ey U.ez)).h l=sg 2 none E [23] U.ey U.ez:=by rw[dW,au rfl]
 generalize hd:(HS.mk (av (some (.cells (cP x.c) 0 4 s.nx)) s.nx s.h) s.nx.succ (av (some [s.nx]) s.nx s.gr) s.ty).aJ l (.loop 2 none E [23] U.ey U.ez)=s2 at*;have lq:fQ (aj s2.h (.o .e)) 0 5=some q.c:=O.load;obtain⟨s3,p,hf,g,hg⟩:=H.put (new:=q.c) (v:=qs q) rfl rfl;have hj:=M.frame g (λe=>by cases e);obtain⟨s4,ho,hp,j,ht⟩:=hj.set 0 (by simp) (.bool true) rfl;have Q:aj s4.h l=sg 2 none E [23] U.ey U.ez:=by
  have hq:l.toNat<s2.nx.toNat:=by have:=f.1;omega
  rw[j.2.2.1 l (by have:=ch Ky.toNat hg;omega) (λe=>n1 e.symm),g.2.2.1 l hq (λe=>n0 e.symm)];exact P
 have t:=ri x m;simp only[Sp.c,Mv.c]at B p lq t u;have p:qh 5 (some (.ptr .e 0)) (some (.agg [.int .i64 q.id,.int .i64 q.arg,.bool q.b.cell,.int .i64 q.b.n,.bool q.Cm])) s2=.v .undef s3:=p;generalize T:ev R U.ez ((En.cons 23 (oe x) E).oE 8 (.ptr s.nx 0)) s2=r;have eB:=BJ (o:=r) Z ha hb (by rw[hd];exact T);have fin:∀(C:HS) (x:Nat) (V:Option HC),cV (λk=>k.toNat<4) s C->cV (λk=>k.toNat<4) s (C.aJ l (.loop x V E [23] U.ey U.ez)):=λC x V h=>h.trans (cV.aJ (by show l.toNat<4;omega))
 have X:∀(C:HS) (o:Ky) (c:ai) (x:Nat) (V:Option HC),o≠l->il C o c->il (C.aJ l (.loop x V E [23] U.ey U.ez)) o c:=λC o c x V hs h=>h.frame (cV.aJ (G:=λk=>k=l) rfl) hs
 by_cases hm:x=m
 .rw[dq hm]at t;simp[U.ez,u,h5,h7,h8,B,an,lq,t,p,ho]at T;subst T;obtain⟨_,h2⟩:=eB (λe2 s2 h=>by simp at h;obtain⟨_,rfl⟩:=h;exact Q);refine⟨false,_,h2 _ _ rfl,fin _ _ _ ((f.trans (g.mono λk t=>by subst t;simp[Ky.toNat])).trans (j.mono λk t=>by subst t;simp[Ky.toNat])),by simp[hm],by simp,λ_=>⟨by rw[dW,au rfl],X _ _ _ _ _ n0 (hf.frame j (λe=>by cases e)),X _ _ _ _ _ n1 hp⟩⟩
 rw[cK hm]at t;simp[U.ez,u,B,an,t]at T;subst T;obtain⟨Z,_⟩:=eB (λe2 s2 h=>by simp at h;obtain⟨_,rfl⟩:=h;exact P);exact⟨true,_,Z _ _ rfl,fin _ _ _ f,by simp[hm],λ_=>⟨by rw[dW,au rfl],X _ _ _ _ _ n0 H,X _ _ _ _ _ n1 M,X _ _ _ _ _ n2 O⟩,by simp⟩
def ae1(a:Ar)(ok:fz a)(hc:aQ a=0)(m:Mv)(s:HS):R (.call 143 [.agg a.c,.agg m.c] s)=.val (.cO (ML a m)) s:=by
 refine adN ?_;have f:=aeQ a ok m.id m.arg;simp only[Ar.c,iV]at f;unfold ML;cases hq:j3 a m.id m.arg with
 |none=>rw[hq]at f;simp only[JR,D5]at f;simp[-U.ey,U.QX,f,s0,aq,aA,an];exact aY (.cO (.data (by simp)))
 |some q=>
 have hg:=Fw hc q (Fx hq);rw[hq]at f;simp only[JR,Sp.c]at f;simp[-U.ey,U.QX,U.Jt,f,s0,aq,aA,an];generalize X:lG R _ _ _ _ _ _=o;generalize hE:(En.cons 0 _ _:En)=E at X;generalize hS:HS.mk _ _ _ _=S at X;have hj:look E 3=some (.aw m.c):=by subst hE;simp
 have H:look E 4=some (.ptr .e 0):=by subst hE;simp
 have M:look E 5=some (.ptr (.z .e) 0):=by subst hE;simp
 have h8:look E 6=some (.ptr (.o .e) 0):=by subst hE;simp
 have h9:look E 22=some (.fn 175 [qs q] []):=by subst hE;simp
 have g:S.nx=.z (.z .e):=by subst hS;rfl
 have hl:il S .e D5:=by subst hS;exact⟨rfl,rfl,by simp[Ky.toNat]⟩
 have hp:il S (.z .e) [.bool false]:=by subst hS;exact⟨rfl,rfl,by simp[Ky.toNat]⟩
 have hs:il S (.o .e) q.c:=by subst hS;exact⟨rfl,rfl,by simp[Ky.toNat]⟩
 have r:(Lc S E [23] U.ey U.ez).nx.toNat=4:=by show S.nx.succ.toNat=4;rw[g];rfl
 have O:=cV.rf (s:=S) (e:=E) (ps:=[23]) (gV:=U.ey) (body:=U.ez);obtain⟨s2,P,hF,hd⟩:=aeZ q hg (.z (.z .e)) (λk=>k.toNat<4)
  (λht s'=>3<s'.nx.toNat/\aj s'.h (.z (.z .e))=sg 0 none E [23] U.ey U.ez/\il s' .e D5/\il s' (.z .e) [.bool false]/\il s' (.o .e) q.c/\∃d u,ht=u.map oe/\nS q=d++u/\m ∉ d)
  (λs'=>3<s'.nx.toNat/\aj s'.h (.z (.z .e))=sg 1 (some .ret) E [23] U.ey U.ez/\m∈nS q/\il s' .e q.c/\il s' (.z .e) [.bool true])
  (Lc S E [23] U.ey U.ez) (λk hk=>by rw[r];exact hk)
  (λx=>by
   rw[r]
   rintro s1 s2 ⟨Q,B,C,D,j,Y⟩ p
   exact⟨by have:=p.1;omega,by rw[p.2.2.1 (.z (.z .e)) Q (by simp[Up,Ky.toNat])];exact B,C.frame p (by simp[Up,Ky.toNat]),D.frame p (by simp[Up,Ky.toNat]),j.frame p (by simp[Up,Ky.toNat]),Y⟩)
  (by
   rw[r]
   rintro s1 s2 ⟨Q,B,C,D,j⟩ p
   exact⟨by have:=p.1;omega,by rw[p.2.2.1 (.z (.z .e)) Q (by simp[Up,Ky.toNat])];exact B,C,D.frame p (by simp[Up,Ky.toNat]),j.frame p (by simp[Up,Ky.toNat])⟩)
  (λx rest s1 hN ⟨Q,B,C,D,T,d,u,j,Y,h7⟩=>by
   cases u with
   |nil=>cases j
   |cons y u=>
    simp only[bX,n6]at j;obtain⟨rfl,rfl⟩:=j;obtain⟨b,s2,r1,r2,r3,r4,r5⟩:=ae0 m q E hj H M h8 (.z (.z .e)) rfl y s1 B Q C D T;refine⟨b,s2,r1,r2,λhb=>?_,λhb=>?_⟩
    .obtain⟨q1,q2,q3,q4⟩:=r4 hb;refine⟨by have:=r2.1;omega,q1,q2,q3,q4,d++[y],u,rfl,by rw[Y];simp,λZ=>?_⟩;rcases l5.1 Z with Z|Z
     .exact h7 Z
     simp at Z;subst Z;rw[hb]at r3;simp at r3
    obtain⟨q1,q2,q3⟩:=r5 hb;refine⟨by have:=r2.1;omega,q1,?_,q2,q3⟩;rw[hb]at r3;have:y=m:=by simpa using r3
    rw[Y,<-this];simp)
  [] ⟨by rw[r];omega,by show aj (av _ S.nx S.h) (.z (.z .e))=_;rw[g,tN],hl.frame O (λh=>h),hp.frame O (λh=>h),hs.frame O (λh=>h),[],nS q,by simp,rfl,by simp⟩
 have ha:=vR (L:=LU) (prog:=U.prog) (x:=.t 22) (s:=S) (e:=E) (ps:=[23]) (gV:=U.ey) (body:=U.ez) (e':=E) (UI:=[23]) (H4:=U.ey) (Am:=U.ez) (by rw[CB];exact h9) (by rw[g];exact P);rcases hd with⟨Q,B,C,D,T,d,u,j,Y,h7⟩|⟨Q,B,C,D,j⟩
 .have hr:=ha.1 (by rw[g];exact B);rw[hr]at X;subst X;have hx:m ∉ nS q:=by
   have:u=[]:=by cases u with
    |nil=>rfl
    |cons x y=>cases j
   subst this;rw[Y];simpa using h7
  have k1:=C.kill (k:=S.nx) (by rw[g];intro h;cases h);have k2:=D.kill (k:=S.nx) (by rw[g];intro h;cases h);have k3:=T.kill (k:=S.nx) (by rw[g];intro h;cases h);generalize s2.kill S.nx=K at*;have lq:fQ (aj K.h (.o .e)) 0 5=some q.c:=k3.load;obtain⟨K1,V,hz,k0,_⟩:=k1.put (new:=q.c) (v:=qs q) rfl rfl;have k4:=k2.frame k0 (λe=>by cases e);obtain⟨K2,k5,k6,k7,_⟩:=k4.set 0 (by simp) (.bool false) rfl;have k8:=hz.frame k7 (λe=>by cases e);have V:qh 5 (some (.ptr .e 0)) (some (.agg [.int .i64 q.id,.int .i64 q.arg,.bool q.b.cell,.int .i64 q.b.n,.bool q.Cm])) K=.v .undef K1:=V;have l1:fQ (aj K2.h .e) 0 5=some q.c:=k8.load;have l2:eN (aj K2.h (.z .e)) 0=some (.bool false):=k6.get 0 (by simp);simp only[Sp.c]at lq l1;simp[H,M,h8,lq,V,k5,l1,l2,hx];exact aY (.cO (.data (by simp)))
 have hr:=ha.2 (by rw[g];exact B);rw[hr]at X;subst X;have k1:=D.kill (k:=S.nx) (by rw[g];intro h;cases h);have k2:=j.kill (k:=S.nx) (by rw[g];intro h;cases h);generalize s2.kill S.nx=K at*;have l1:fQ (aj K.h .e) 0 5=some q.c:=k1.load;have l2:eN (aj K.h (.z .e)) 0=some (.bool true):=k2.get 0 (by simp);simp only[Sp.c]at l1;simp[H,M,l1,l2,C];exact aY (.cO (.data (by simp)))
def MM(a:Ar)(m:Mv):Bool:=match j3 a m.id m.arg with|none=>false|some p=>m∈nS p
def R3(a:Ar)(ok:fz a)(m:Mv)(s:HS):R (.call 124 [.agg a.c,.agg m.c] s)=.val (.cO [.bool (decide (aQ a=0)&&MM a m),iV (aQ a)]) s:=by
 refine adz ?_;have d:=aeD a ok;simp only[Ar.c,iV]at d;by_cases g:aQ a=0
 .have f:=ae1 a ok g m;unfold MM;cases h:j3 a m.id m.arg with|none=>simp only[ML,h,D5,Ar.c,Mv.c]at f;simp[U.Mc,d,g,f,s0,aq,aA,an];exact aY (.cO (.data (by simp)))|some q=>simp only[ML,h,Ar.c,Mv.c,Sp.c]at f;simp[U.Mc,d,g,f,s0,aq,aA,an];exact aY (.cO (.data (by simp)))
 simp[U.Mc,d,g,s0,aq,aA];exact aY (.cO (.data (by simp)))
def jR(m:Mv):Bool:=decide (m.kind=3)
def Ix(m:Mv):Bool:=decide (0<m.id)&&decide (m.arg=0)
def Le(m:Mv):Bool:=decide (0<m.id)&&decide (0<m.arg)
def UN(m:Mv)(i a:Int):Bool:=decide (m.id=i)&&decide (m.arg=a)
def ajc(m:Mv)(i a:Int)(s:HS):R (.call 147 [.agg m.c,iV i,iV a] s)=.val (.bool (UN m i a)) s:=by refine ajE ?_;by_cases h:m.id=i<;>simp[U.ai8,h,aa,UN]
def ajM(m:Mv)(s:HS):R (.call 145 [.agg m.c] s)=.val (.bool (UN m 0 0)) s:=by refine ajC ?_;have h:=ajc m 0 0;simp only[Mv.c,iV]at h;simp[U.ai6,h,aa]
def aij(m:Mv)(s:HS):R (.call 146 [.agg m.c] s)=.val (.bool (jR m)) s:=by refine ajD ?_;simp[U.ai7,aa,jR]
def ahX(m:Mv)(s:HS):R (.call 150 [.agg m.c] s)=.val (.bool (Ix m)) s:=by refine ajH ?_;by_cases h:0<m.id<;>simp[U.ai9,h,aa,Ix]
def aik(m:Mv)(s:HS):R (.call 151 [.agg m.c] s)=.val (.bool (Le m)) s:=by refine ajI ?_;by_cases h:0<m.id<;>simp[U.aja,h,aa,Le]
def aiH(m:Mv)(s:HS):R (.call 152 [.agg m.c] s)=.val (.bool (dH m)) s:=by
 refine ajJ ?_;have h:=aij m;simp only[Mv.c,jR]at h;by_cases d:m.kind=3
 .rw[d]at h;simp[U.aiG,h,d,aa,dH]
 simp[U.aiG,h,d,aa,dH]
structure Tk where
 x:Wk
 fo:cf
 force:Bool
@[simp]def Tk.c(t:Tk):ai:=[.psl (t.x.a.ids.map Ty.c),.bool t.x.a.root.cell,.int .i64 t.x.a.root.n,.bool t.x.a.jumps,.psl (t.x.w.map Mv.c),.psl (t.x.pt.map iC),.psl (t.x.js.map iC),.psl (t.fo.map bC),.psl (t.x.op.map nC),.bool t.force,.bool t.x.lost,.int .i64 t.x.sj]
def XL(t:Tk):Prop:=yq t.x/\t.fo.length=t.x.w.length
def ahm(x:Wk):ai:=match x.op.getLast? with|none=>[iV (-1),.bool false]|some n=>[iV n,.bool true]
def ahY(x:Wk)(c:yq x)(s:HS):R (.call 144 [.agg [.psl (x.op.map nC)]] s)=.val (.cO (ahm x)) s:=by have h:=ajL (x.op.map (λn:Nat=>(n:Int))) (by have:=c.Oc;have:=c.len;simp;omega) s;rw[wB]at h;rw[show(iC∘λn:Nat=>(n:Int))=nC from rfl]at h;rw[h];unfold aii ahm;rw[List.getLast?_map];cases x.op.getLast?<;>rfl
def ahg(x:Wk):Bool:=decide (0<x.w.length)&&decide (x.op.length=0)
def ajN(t:Tk)(s:HS):R (.call 176 [.aw t.c] s)=.val (.bool (ahg t.x)) s:=by
 refine ajK ?_;by_cases h:0<t.x.w.length
 .have g:(0:Int)<t.x.w.length:=by omega
  by_cases f:t.x.op.length=0
  .have d:(t.x.op.length:Int)=0:=by omega
   simp[U.aih,aa,ahg,h,f]
  have d:¬(t.x.op.length:Int)=0:=by omega
  simp[U.aih,aa,ahg,h,f]
 have g:¬(0:Int)<t.x.w.length:=by omega
 simp[U.aih,aa,ahg,h]
def ahZ(x:Wk):Int:=if ahg x then 3 else match mO x with|none=>1|some q=>if Ix q then 1 else 2
def ahL{x:Wk}(f:yq x):(mO x=none/\x.op=[]/\ahm x=[iV (-1),.bool false])∨∃(r:az) (n:Nat) (q:Mv),x.op=r++[n]/\(∃h:n<x.w.length,x.w[n]=q)/\mO x=some q/\ahm x=[iV n,.bool true]/\n<x.w.length:=by
 rcases sv x.op with c|⟨r,n,c⟩
 .exact .inl ⟨by unfold mO;rw[c];rfl,c,by unfold ahm;rw[c];rfl⟩
 have d:=f.op n (by rw[c];simp);have g:=aX d;refine .inr ⟨r,n,_,by simpa using c,⟨d,rfl⟩,?_,?_,d⟩
 .unfold mO;rw[c];simpa using g
 unfold ahm;rw[c];simp
def ajO(t:Tk)(u:XL t)(s:HS):R (.call 149 [.aw t.c] s)=.val (.int .u8 (ahZ t.x)) s:=by
 refine ajG ?_;have f:=ajN t;have d:=ahY t.x u.1;simp only[Tk.c]at f;unfold ahZ;cases B:ahg t.x
 .rw[B]at f;rcases ahL u.1 with⟨j,p,h⟩|⟨r,n,q,j,⟨y,p⟩,h,z,C⟩
  .rw[h]at d;simp only[iV]at d;simp[U.ahW,f,d,aa,j]
  rw[z]at d;have g:=ahX q;simp only[iV,Mv.c]at d g;cases D:Ix q<;>rw[D]at g<;>simp[U.ahW,f,d,g,aa,p,h,C,D]
 rw[B]at f;rcases ahL u.1 with⟨j,p,h⟩|⟨r,n,q,j,⟨y,p⟩,h,z,C⟩
 .rw[h]at d;simp only[iV]at d;simp[U.ahW,f,d,aa]
 rw[z]at d;simp only[iV]at d;simp[U.ahW,f,d,aa]
def XM(t:Tk)(q m:Mv):Bool:=if t.force||t.x.lost then dH m else if dH m then Le q||(Ix q&&t.x.a.jumps)else decide (q.kind=1)||decide (m.n=0)
def ajP(t:Tk)(q m:Mv)(s:HS):R (.call 148 [.aw t.c,.agg q.c,.agg m.c] s)=.val (.bool (XM t q m)) s:=by
 refine ajF ?_;have d:=aiH m;have f:=aik q;have g:=ahX q;obtain⟨x,y,force⟩:=t;obtain⟨a,w,op,z,B,lost,h⟩:=x;simp only[Mv.c]at d f g;unfold XM;cases force
 .cases lost
  .cases j:dH m
   .rw[j]at d;by_cases p:q.kind=1<;>simp[U.ahT,d,aa,p]
   rw[j]at d;cases r:Le q<;>rw[r]at f
   .cases u:Ix q<;>rw[u]at g<;>simp[U.ahT,d,f,g,aa]
   simp[U.ahT,d,f,aa]
  simp[U.ahT,d,aa]
 simp[U.ahT,d,aa]
def XN(t:Tk)(m:Mv):Bool:=match mO t.x with|none=>decide (t.x.w=[])&&(UN m 0 0&& !jR m)|some q=>if jR m then UN m q.id q.arg&&XM t q m else if t.force||t.x.lost then false else if Ix q then Le m&&decide (m.id=q.id)else Ix m
def ajQ(t:Tk)(M:XL t)(m:Mv)(s:HS):R (.call 125 [.aw t.c,.agg m.c] s)=.val (.bool (XN t m)) s:=by
 refine ajz ?_;have g:=ajO t M;have d:=ahY t.x M.1;have p:=ajM m;have f:=aij m;have h:=ajc m;have j:=ajP t;have y:=ahX m;have u:=aik m;obtain⟨x,Z,force⟩:=t;simp only[Tk.c,Mv.c]at p f h j g y u;unfold XN;rcases ahL M.1 with⟨C,z,D⟩|⟨r,n,q,C,⟨T,z⟩,D,V,B⟩
 .rw[D]at d;simp only[iV]at d;simp only at C;rw[C];by_cases Q:x.w=[]
  .cases E:UN m 0 0<;>rw[E]at p<;>simp[U.aht,d,p,f,aa,Q]
  simp[U.aht,d,aa,Q]
 rw[V]at d;have j:=j q m;simp only[iV]at d j h;simp only at D z B;rw[D];cases X:jR m<;>rw[X]at f
 .have O:ahg x=false:=by unfold ahg;simp only at C;rw[C];simp
  unfold ahZ at g;simp only[O,D]at g;cases force
  .cases H:x.lost
   .cases P:Ix q<;>rw[H,P]at g<;>simp only[df,bD,bp]at g
    .simp[U.aht,P,d,f,g,y,aa,z,B,H,s0,aq,aA]
    cases Y:Le m<;>rw[Y]at u<;>simp[U.aht,P,d,f,g,u,aa,z,B,H,s0,aq,aA]
   simp[U.aht,d,f,aa,z,B,H,s0,aq,aA]
  simp[U.aht,d,f,aa,z,B,s0,aq,aA]
 have h:=h q.id q.arg;cases E:UN m q.id q.arg<;>rw[E]at h
 .simp[U.aht,E,d,f,h,aa,z,B,s0,aq,aA]
 simp[U.aht,E,d,f,h,j,aa,z,B,s0,aq,aA,an]
def aiI{L:jE}{prog:Nat->Option HF}(f:Nat)(F:HF)(v:HV)(s:HS)(d:prog f=some F)(g:qC L f=true)(j:F.pu=true)(h:eH L prog (.call f [.agg [.psl []]] s0)=.val v s0):
  eH L prog (.call f [.agg [.ah]] s)=.val v s:=by
 have h:=nP h trivial;have h:rF L f [.agg [.psl []]] s0 (bG prog (eH L prog) f [.agg [.psl []]] s0)=.val v s0:=h;rw[gi g]at h;unfold bG at h;rw[d]at h;have h:(bif F.pu then cv F (eH L prog) [.agg [.psl []]] s0 else dO F (eH L prog) [.agg [.psl []]] s0)=.val v s0:=h;rw[j,cond_true]at h;unfold cv at h;have h:bR (kh F (eH L prog) [.agg [.psl []]]) (λv=>Out.val v s0) (Out.bad 40)=Out.val v s0:=h;have c:kh F (eH L prog) [.agg [.psl []]]=some v:=by
  cases p:kh F (eH L prog) [.agg [.psl []]]with
  |none=>rw[p]at h;cases h
  |some q=>rw[p]at h;cases h;rfl
 refine dm ?_ trivial;show rF L f [.agg [.ah]] s (bG prog (eH L prog) f [.agg [.ah]] s)=_;rw[gi g];unfold bG;rw[d];show(bif F.pu then cv F (eH L prog) [.agg [.ah]] s else dO F (eH L prog) [.agg [.ah]] s)=_;rw[j,cond_true];unfold cv;show bR (kh F (eH L prog) [.agg [.psl []]]) (λv=>Out.val v s) (Out.bad 40)=_;rw[c];rfl
def il.ajd{s:HS}{o:Ky}{c:ai}(h:il s o c)(k:Nat){x:HV}(d:c[k]?=some x):fQ (aj s.h o) k 1=some [x]:=by have f:=(aU.1 d).1;rw[h.1,an (fN _) (by omega) (by omega),List.take_one,List.head?_drop,d];rfl
def sT(t:Tk)(v1 v2 v3 v4 v5:HV):ai:=[.psl (t.x.a.ids.map Ty.c),.bool t.x.a.root.cell,.int .i64 t.x.a.root.n,.bool t.x.a.jumps,v1,v2,v3,v4,v5,.bool t.force,.bool t.x.lost,.int .i64 t.x.sj]
def tkN(t:Tk)(v1 v2 v3 v4 v5:HV):cq:=[(v1,4,t.x.w.map Mv.c),(v2,1,t.x.pt.map iC),(v3,1,t.x.js.map iC),(v4,1,t.fo.map bC),(v5,1,t.x.op.map nC)]
def XO(s:HS)(o:Ky)(t:Tk):Prop:=∃c d f g h ao,mM s o (sT t c d f g h) ao (tkN t c d f g h)
def XO.vw1{n:Nat}{s:HS}{o:Ky}{t:Tk}(h:XO s o t):Vw s (n+4) (.ptr o 0) (.aw t.c):=by obtain⟨d,f,g,j,p,ao,h⟩:=h;refine Vw.ptr h.bm.1 rfl ?_;exact .cons (.data (by simp)) (.cons (.data (by simp)) (.cons (.data (by simp)) (.cons (.data (by simp)) (.cons ((h.own 0 _ _ _ rfl).vw (by simp)) (.cons ((h.own 1 _ _ _ rfl).vw (by simp)) (.cons ((h.own 2 _ _ _ rfl).vw (by simp)) (.cons ((h.own 3 _ _ _ rfl).vw (by simp)) (.cons ((h.own 4 _ _ _ rfl).vw (by simp)) (.cons (.data (by simp)) (.cons (.data (by simp)) (.cons (.data (by simp)) .nil)))))))))))
def R4(x:Wk):Int:=match x.op.getLast? with|none=> -1|some n=>n
def ahM(x:Wk):∃b,ahm x=[iV (R4 x),.bool b]:=by unfold ahm R4;cases x.op.getLast? with|none=>exact⟨_,rfl⟩|some n=>exact⟨_,rfl⟩
def ah0{t:Tk}(g:XL t){s:HS}{F:bM}{v:HV}(h:cu s v 1 F (t.x.op.map nC)):R (.call 144 [.agg [v]] s)=.val (.cO (ahm t.x)) s:=by
 have c:=ahY t.x g.1;have d:oj s 16 [.agg [v]] [.agg [.psl (t.x.op.map nC)]]:=.cons (Vw.agg (.cons (h.vw (by simp)) .nil)) .nil;have f:fp (.cO (ahm t.x))=true:=by obtain⟨b,j⟩:=ahM t.x;rw[j];rfl
 rcases h.2.2 with⟨rfl,p⟩|⟨o,_,_,_,_,rfl,_⟩
 .rw[p]at c;exact aiI 144 U.f171 _ s rfl rfl rfl (c s0)
 exact v171 (by rfl) d (by simp) f c
def R5(t:Tk)(m:Mv):Tk:=
 if jR m then{x:={t.x with w:=t.x.w++[m],op:=t.x.op.dropLast,pt:=t.x.pt.set (t.x.op.getLastD 0) t.x.w.length++[((t.x.op.getLastD 0:Nat):Int)],js:=t.x.js++[((t.x.op.getLastD 0:Nat):Int)],lost:=t.x.lost||(dH m&&Ix m&& !t.force),sj:=max t.x.sj t.x.op.dropLast.length},fo:=t.fo++[t.force],force:=dH m&&Le m}
 else{x:={t.x with w:=t.x.w++[m],op:=t.x.op++[t.x.w.length],pt:=t.x.pt++[-1],js:=t.x.js++[if Ix m then 0 else if Le m then R4 t.x else-1],sj:=max t.x.sj (t.x.op.length+1)},fo:=t.fo++[t.force],force:=false}
def JS{m:Mv}(h:jR m=false):dH m=false:=by unfold jR at h;unfold dH;simp at h;simp[h]
def aje(t:Tk)(D:XL t)(m:Mv)(P:jR m=false)(s:HS)(o:Ky)(h:XO s o t):
  ∃s',R (.call 126 [.ptr o 0,.agg m.c] s)=.val (.cO []) s'/\XO s' o (R5 t m):=by
 obtain⟨v1,v2,v3,v4,v5,ao,h⟩:=h;have hl:=D.1.len;have ka:=D.1.Oc;have kb:=D.1.ptl;have kc:=D.1.jsl;have kd:=D.2;have p:=ah0 D (h.own 4 _ _ _ rfl);obtain⟨bt,Q⟩:=ahM t.x;rw[Q]at p;have d:=aij m;have f:=ahX m;have g:=aik m;have q:=aiH m;rw[P]at d;rw[JS P]at q;simp only[Mv.c,iV]at d f g q p;have g8:=h.bm.ajd 8 rfl;have g4:=h.get 4 rfl;have l4:=h.len 0 rfl;have g7:=h.get 7 rfl;have g9:=h.get 9 rfl;generalize M:(if Ix m then 0 else if Le m then R4 t.x else-1)=j;have key:∀(e:En) (r:Out),ev R U.ahb e s=r->look e 0=some (.ptr o 0)->look e 3=some (.aw m.c)->look e 4=some (iV (R4 t.x))->look e 8=some (iV (-1))->look e 7=some (iV (-1))->∃y,r=.code .normal y s/\look y 8=some (iV j)/\look y 7=some (iV (-1))/\look y 0=some (.ptr o 0)/\look y 3=some (.aw m.c)/\look y 6=look e 6:=by
  intro e r u T E e4 e8 V;cases O:Ix m<;>rw[O]at f
  .cases X:Le m<;>rw[X]at g
   .simp[U.ahb,E,d,f,g]at u;subst u;exact⟨_,rfl,by simp[<-M,O,X,e8,V,T,E]⟩
   simp[U.ahb,E,e4,d,f,g]at u;subst u;exact⟨_,rfl,by simp[<-M,O,X,V,T,E]⟩
  simp[U.ahb,E,d,f]at u;subst u;exact⟨_,rfl,by simp[<-M,O,V,T,E]⟩
 obtain⟨Y,s1,hz,a1,c1,h1⟩:=h.append 3 rfl (new:=[[.bool t.force]]) (Sz.cons rfl Sz.nil) (by simp) (bI:=140737488355328) (by simp;omega);obtain⟨s2,b1,h2⟩:=h1.field 7 (by simp[sT]) c1;obtain⟨s3,b2,h3⟩:=h2.field 9 (by simp[sT]) (x:=.bool false) rfl;have i4:=h3.get 4 rfl;obtain⟨Z,s4,k0,a4,c4,h4⟩:=h3.append 0 rfl (new:=[m.c]) (Sz.cons rfl Sz.nil) (by simp) (bI:=4398046511104) (by simp;omega);obtain⟨s5,b5,h5⟩:=h4.field 4 (by simp[sT]) c4;have i5:=h5.get 5 rfl;have i6:=h5.get 6 rfl;obtain⟨ha,s6,k7,a6,c6,h6⟩:=h5.append 1 rfl (new:=[[iV (-1)]]) (Sz.cons rfl Sz.nil) (by simp) (bI:=17592186044416) (by simp;omega);have j6:=h6.get 6 rfl;obtain⟨hb,s7,k9,a7,c7,h7⟩:=h6.append 2 rfl (new:=[[iV j]]) (Sz.cons rfl Sz.nil) (by simp) (bI:=17592186044416) (by simp;omega);obtain⟨s8,b8,h8⟩:=h7.field 5 (by simp[sT]) c6;obtain⟨s9,b9,h9⟩:=h8.field 6 (by simp[sT]) c7;have k8:=h9.get 8 rfl;obtain⟨hd,ke,B,H,hf,hg⟩:=h9.append 4 rfl (new:=[[iV t.x.w.length]]) (Sz.cons rfl Sz.nil) (by simp) (bI:=17592186044416) (by simp;omega);obtain⟨kg,ho,z⟩:=hg.field 8 (by simp[sT]) hf;have hs:=z.get 11 rfl;have m8:=z.get 8 rfl;have lm:=z.len 4 rfl;obtain⟨C,hx,hy⟩:=z.field 11 (by simp[sT]) (x:=.int .i64 (max t.x.sj (t.x.op.length+1))) rfl;simp only[Mv.c]at a4;simp at a1 a4 a6 a7 H l4 lm;have hE:∃y,ev R U.ahK (bc [.ptr o 0,.agg m.c] 0) s=.code .normal y C:=by generalize u:ev R U.ahK (bc [.ptr o 0,.agg m.c] 0) s=r;simp-implicitDefEqProofs[U.ahK,g8,p,g4,l4]at u;generalize hk:ev R U.ahb _ s=r1 at u;obtain⟨e1,k1,k2,k3,k4,k5,k6⟩:=key _ _ hk (by simp) (by simp) (by simp) (by simp) (by simp);clear hk;subst k1;simp at k6;simp-implicitDefEqProofs[k2,k3,k4,k5,k6,g7,g9,a1,b1,q,d,b2,i4,a4,b5,i5,i6,a6,j6,a7,b8,b9,k8,H,ho,hs,m8,lm,hx]at u;subst u;exact⟨_,rfl⟩
 obtain⟨y,hE⟩:=hE;refine⟨C,ajb rfl ⟨.normal,_,C,hE,.inl rfl,by simp⟩,Z,ha,hb,Y,hd,B,?_⟩;unfold R5;rw[P,M];simpa[sT,tkN]using hy
def ajf(t:Tk)(P:XL t)(m:Mv)(hq:jR m=true)(dA:t.x.op≠ [])(s:HS)(o:Ky)(h:XO s o t):
  ∃s',R (.call 126 [.ptr o 0,.agg m.c] s)=.val (.cO []) s'/\XO s' o (R5 t m):=by
 obtain⟨Z,v2,v3,v4,v5,ao,h⟩:=h;have hl:=P.1.len;have kj:=P.1.Oc;have hz:=P.1.ptl;have kk:=P.1.jsl;have kl:=P.2;have y:=ah0 P (h.own 4 _ _ _ rfl);obtain⟨bt,k0⟩:=ahM t.x;rw[k0]at y;obtain⟨r,n,j⟩:∃k n,t.x.op=k++[n]:=by
  rcases sv t.x.op with hn|⟨k,n,hn⟩
  .exact absurd hn dA
  exact⟨k,n,by simpa using hn⟩
 have ha:R4 t.x=n:=by unfold R4;rw[j];simp
 rw[ha]at y;have hlen:t.x.op.length=r.length+1:=by rw[j];simp
 have hn:n<t.x.pt.length:=by rw[hz];exact P.1.op n (by rw[j];simp)
 have hw:bT .i64 (r.length:Int)=r.length:=cx (by omega) (by omega);have f:=aij m;have g:=ahX m;have z:=aik m;have d:=aiH m;rw[hq]at f;simp only[Mv.c,iV]at f g z d y;have g8:=h.bm.ajd 8 rfl;have g4:=h.get 4 rfl;have l4:=h.len 0 rfl;have g5:=h.get 5 rfl;obtain⟨o1,s1,i1,b1,h1⟩:=h.jQ 1 rfl n (by simpa using hn) (x:=iV t.x.w.length) rfl;have Q:=h1.get 8 rfl;have l8:=h1.len 4 rfl;obtain⟨M,k3,h2⟩:=h1.cut 4 rfl r.length (by simp[hlen]) (by simp[dA]);obtain⟨s3,b3,h3⟩:=h2.field 8 (x:=.sl M 0 r.length 1) (by simp[sT]) rfl;have g7:=h3.get 7 rfl;have g9:=h3.get 9 rfl;obtain⟨p,s4,B,a4,c4,h4⟩:=h3.append 3 rfl (new:=[[.bool t.force]]) (Sz.cons rfl Sz.nil) (by simp) (bI:=140737488355328) (by simp;omega);obtain⟨s5,b5,h5⟩:=h4.field 7 (by simp[sT]) c4;have D:=h5.get 9 rfl;obtain⟨k4,k5,k6⟩:=h5.field 10 (by simp[sT]) (x:=.bool true) rfl;rw[k3]at Q;simp only[jl]at b1 i1;simp[j]at Q l4 l8 a4;generalize C:(t.x.lost||(dH m&&Ix m&& !t.force))=lo;have key:∀(e:En) (r1:Out),(ev R U.ahj e s5).cA (ev R (.cond (.t 83) U.ahu .skip))=r1->look e 0=some (.ptr o 0)->look e 3=some (.aw m.c)->
   ∃E s',r1=.code .normal E s'/\(∀k,k<10->look E k=look e k)/\mM s' o (sT {t with x:={t.x with lost:=lo}} Z v2 v3 p (.sl M 0 r.length 1)) B [(Z,4,t.x.w.map Mv.c),(v2,1,(t.x.pt.set n t.x.w.length).map iC),(v3,1,t.x.js.map iC),(p,1,(t.fo++[t.force]).map bC),(.sl M 0 r.length 1,1,r.map nC)]:=by
  intro e r1 q e0 O;have u:(dH m&&Ix m&& !t.force)=false->mM s5 o (sT {t with x:={t.x with lost:=lo}} Z v2 v3 p (.sl M 0 r.length 1)) B [(Z,4,t.x.w.map Mv.c),(v2,1,(t.x.pt.set n t.x.w.length).map iC),(v3,1,t.x.js.map iC),(p,1,(t.fo++[t.force]).map bC),(.sl M 0 r.length 1,1,r.map nC)]:=by intro u;rw[u,Bool.or_false]at C;subst C;simpa[sT,tkN,j]using h5
  have hb:(dH m&&Ix m&& !t.force)=true->mM k4 o (sT {t with x:={t.x with lost:=lo}} Z v2 v3 p (.sl M 0 r.length 1)) B [(Z,4,t.x.w.map Mv.c),(v2,1,(t.x.pt.set n t.x.w.length).map iC),(v3,1,t.x.js.map iC),(p,1,(t.fo++[t.force]).map bC),(.sl M 0 r.length 1,1,r.map nC)]:=by intro u;rw[u,Bool.or_true]at C;subst C;simpa[sT,tkN,j]using k6
  cases he:dH m<;>rw[he]at d
  .simp[O,d]at q;subst q;exact⟨_,_,rfl,λk hk=>by simp;omega,u (by simp[he])⟩
  cases hi:Ix m<;>rw[hi]at g
  .simp[O,d,g]at q;subst q;exact⟨_,_,rfl,λk hk=>by simp;omega,u (by simp[hi])⟩
  rcases Bool.eq_false_or_eq_true t.force with hf|hf
  .rw[hf]at D;simp[e0,O,d,g,D]at q;subst q;exact⟨_,_,rfl,λk hk=>by simp;omega,u (by simp[hf])⟩
  rw[hf]at D;simp[e0,O,d,g,D,k5]at q;subst q;exact⟨_,_,rfl,λk hk=>by simp;omega,hb (by simp[he,hi,hf])⟩
 have hE:∃E s',ev R U.ahK (bc [.ptr o 0,.agg m.c] 0) s=.code .normal E s'/\XO s' o (R5 t m):=by
  generalize q:ev R U.ahK (bc [.ptr o 0,.agg m.c] 0) s=r1;simp-implicitDefEqProofs[-U.ahj,-U.ahu,U.ahK,U.ahb,g8,y,g4,l4,f,g5,i1,b1,Q,hw,b3,g7,g9,a4,b5]at q;generalize hk:(ev R U.ahj _ s5).cA _=r2 at q;obtain⟨e1,s6,k1,k2,h6⟩:=key _ _ hk (by simp) (by simp);clear hk;subst k1;have e0:=k2 0 (by omega);have O:=k2 3 (by omega);have e6:=k2 6 (by omega);have e7:=k2 7 (by omega);have e8:=k2 8 (by omega);simp at e0 O e6 e7 e8;obtain⟨s7,b7,h7⟩:=h6.field 9 (by simp[sT]) (x:=.bool (dH m&&Le m)) rfl;have f4:=h7.get 4 rfl;obtain⟨k7,s8,ki,a8,c8,h8⟩:=h7.append 0 rfl (new:=[m.c]) (Sz.cons rfl Sz.nil) (by simp) (bI:=4398046511104) (by simp;omega);obtain⟨s9,b9,h9⟩:=h8.field 4 (by simp[sT]) c8;have f5:=h9.get 5 rfl;have hd:=h9.get 6 rfl;obtain⟨k8,km,k9,T,ka,hg⟩:=h9.append 1 rfl (new:=[[iV n]]) (Sz.cons rfl Sz.nil) (by simp) (bI:=17592186044416) (by simp;omega);have f6:=hg.get 6 rfl;obtain⟨kb,kn,V,X,kc,kd⟩:=hg.append 2 rfl (new:=[[iV n]]) (Sz.cons rfl Sz.nil) (by simp) (bI:=17592186044416) (by simp;omega);obtain⟨ko,hj,ke⟩:=kd.field 5 (by simp[sT]) ka;obtain⟨kp,ho,H⟩:=ke.field 6 (by simp[sT]) kc;have hs:=H.get 11 rfl;have f8:=H.get 8 rfl;have l8:=H.len 4 rfl;obtain⟨hx,hy,kg⟩:=H.field 11 (by simp[sT]) (x:=.int .i64 (max t.x.sj r.length)) rfl;simp only[Mv.c]at a8;simp at a8 T X l8;have Y:∃E,r1=.code .normal E hx:=by
   cases he:dH m<;>rw[he]at d b7<;>simp only[FD,j7]at b7
   .simp-implicitDefEqProofs[e0,O,e7,e8,d,f,b7,f4,a8,b9,f5,hd,T,f6,X,hj,ho,hs,f8,hy]at q;subst q;exact⟨_,rfl⟩
   cases hp:Le m<;>rw[hp]at z b7<;>simp-implicitDefEqProofs[-kD,e0,O,e7,e8,d,z,f,b7,f4,a8,b9,f5,hd,T,f6,X,hj,ho,hs,f8,hy]at q<;>subst q<;>exact⟨_,rfl⟩
  obtain⟨E,Y⟩:=Y;refine⟨E,hx,Y,k7,k8,kb,p,.sl M 0 r.length 1,V,?_⟩;unfold R5;rw[hq,C];simpa[sT,tkN,j]using kg
 obtain⟨E,s',hE,hW⟩:=hE;exact⟨s',ajb rfl ⟨.normal,_,s',hE,.inl rfl,by simp⟩,hW⟩
def ail{t:Tk}{m:Mv}(c:XN t m=true)(d:jR m=true):t.x.op≠ []:=by
 intro f;unfold XN at c;have:mO t.x=none:=by unfold mO;rw[f];rfl
 rw[this,d]at c;simp at c
def ajR(t:Tk)(f:XL t)(m:Mv)(g:XN t m=true)(s:HS)(o:Ky)(h:XO s o t):
  ∃s',R (.call 126 [.ptr o 0,.agg m.c] s)=.val (.cO []) s'/\XO s' o (R5 t m):=by
 cases d:jR m with|true=>exact ajf t f m d (ail g d) s o h|false=>exact aje t f m d s o h
def aiJ(t:Tk)(m:Mv):(R5 t m).x.w=t.x.w++[m]:=by unfold R5;split<;>rfl
def XL.say{t:Tk}(c:XL t){m:Mv}(g:t.x.w.length<400):XL (R5 t m):=by
 have h:=c.1.Oc;have j:=c.1.ptl;have p:=c.1.jsl;have q:=c.2;cases f:jR m with
 |false=>
  unfold R5;rw[f];refine⟨⟨c.1.ok,c.1.chk,by simp;omega,λn d=>?_,by simp;omega,by simp;omega,by simp;omega⟩,by simp;omega⟩;simp only[df,bD,l5,cr]at d;simp only[df,bD,bZ,dB];rcases d with d|rfl
  .have:=c.1.op n d;omega
  omega
 |true=>unfold R5;rw[f];refine⟨⟨c.1.ok,c.1.chk,by simp;omega,λn d=>?_,by simp;omega,by simp;omega,by simp;omega⟩,by simp;omega⟩;have:=c.1.op n ((BM _).subset d);simp only[bp,bZ,dB];omega
def agZ(t:Tk):bE->Tk
 |[]=>t
 |m::r=>if MM t.x.a m&&XN t m then agZ (R5 t m) r else t
def tT(a:Ar):Tk:=⟨tU a,[],false⟩
def XL.zero{a:Ar}(ok:fz a)(c:aQ a=0):XL (tT a):=⟨yq.zero ok c,rfl⟩
def mM.frame{s s':HS}{o:Ky}{cells:ai}{ao:aW}{L:cq}(h:mM s o cells ao L)(d:cV (λ_=>False) s s'):mM s' o cells ao L:=
 ⟨h.bm.frame d (λh=>h),h.co,λi v f c g=>(h.own i v f c g).frame d (λ_ _ h=>h)⟩
def XO.frame{s s':HS}{o:Ky}{t:Tk}(h:XO s o t)(c:cV (λ_=>False) s s'):XO s' o t:=by obtain⟨d,f,g,j,p,ao,h⟩:=h;exact⟨d,f,g,j,p,ao,h.frame c⟩
def aiK(t:Tk)(m:Mv):(R5 t m).x.a=t.x.a:=by unfold R5;split<;>rfl
def ajS(a:Ar)(ok:fz a)(hc:aQ a=0)(w:bE)(hl:w.length<=400)(s:HS):R (.call 110 [.agg a.c,.psl (w.map Mv.c)] s)=.val (.aw (agZ (tT a) w).c) s:=by
 refine ajy ?_;simp[U.ai5,s0];generalize ho:bO R (.loop U.TI) _ _=o;have hq:=bh ho w.length
  (λi e s'=>∃t,look e 2=some (.aw a.c)/\look e 5=some (.ptr .e 0)/\look e 13=some (.psl (w.map Mv.c))/\look e 14=some (iV w.length)/\look e 15=some (iV i)/\XO s' .e t/\XL t/\t.x.a=a/\t.x.w.length=i/\agZ (tT a) w=agZ t (w.drop i))
  (λo=>∃Y s',o=.code (.exit 0) Y s'/\look Y 5=some (.ptr .e 0)/\XO s' .e (agZ (tT a) w))
  0 (by omega) ⟨tT a,by simp,by simp,by simp,by simp,by simp,by
   exact⟨.ah,.ah,.ah,.ah,.ah,_,mM.start ⟨by simp[sT,tT,tU],by simp,by simp[Ky.toNat]⟩ (by simp[tkN,tT,tU])⟩,XL.zero ok hc,rfl,rfl,by simp⟩
  (λi e s' r X ⟨t,O,B,p,j,q,P,C,u,Q,d⟩ D=>by
   have hd:w.drop i=w[i]::w.drop (i+1):=uv X;rw[hd]at d;have Z:=cV.alloc (s:=s') (.cells (cP w[i].c) 0 4 s'.nx) [s'.nx];have E:=P.frame (Z.mono λ_ h=>h);generalize T:HS.mk (av (some (.cells (cP w[i].c) 0 4 s'.nx)) s'.nx s'.h) s'.nx.succ (av (some [s'.nx]) s'.nx s'.gr) s'.ty=S at*;have f:=R3 a ok w[i];rw[hc]at f;have g:=ajA (args:=[.ptr .e 0,.agg w[i].c]) (l:=[.aw t.c,.agg w[i].c]) (s:=S) (v:=.bool (XN t w[i])) ahU (.cons E.vw1 (.data (by simp))) (by simp) rfl (λs=>ajQ t C w[i] s);have H:aj S.h s'.nx=some (.cells (cP w[i].c) 0 4 s'.nx):=by rw[<-T];simp
   simp only[Mv.c,Ar.c,iV,eV,j7]at f g T H;have M:(i:Int)<w.length:=by omega
   cases V:MM a w[i]with
   |false=>rw[V]at f;simp only[agZ,u,V,FD,df,bD]at d;simp[U.TI,O,p,j,q,X,M,f,aq,aA,an,T,H]at D;subst D;exact .inr ⟨by simp,_,_,rfl,by simp[B],by rw[d];exact E⟩
   |true=>
    rw[V]at f;cases y:XN t w[i]with
    |false=>rw[y]at g;simp only[agZ,u,V,y,yz,df,bD]at d;simp[U.TI,O,B,p,j,q,X,M,f,g,aq,aA,an,T,H]at D;subst D;exact .inr ⟨by simp,_,_,rfl,by simp[B],by rw[d];exact E⟩
    |true=>
     rw[y]at g;simp only[agZ,u,V,y,jL,bp]at d;obtain⟨h3,z,h1⟩:=ajR t C w[i] y S .e E;simp only[Mv.c]at z;simp[U.TI,O,B,p,j,q,X,M,f,g,z,aq,aA,an,T,H,br (n:=400) (show i<400 by omega) (by omega)]at D;subst D;exact .inl ⟨_,_,rfl,R5 t w[i],by simp[O],by simp[B],by simp[p],by simp[j],by simp,h1,C.say (by omega),by rw[aiK];exact u,by rw[aiJ];simp[Q],d⟩)
  (λe s' r ⟨t,O,B,p,j,q,P,C,u,Q,d⟩ D=>by
   rw[Jb]at d;simp only[agZ]at d;simp[U.TI,j,q]at D;subst D;exact⟨by simp,_,_,rfl,by simp[B],by rw[d];exact P⟩)
 clear ho;obtain⟨Y,s',rfl,B,P⟩:=hq;have hv:Vw s' 16 (.ptr .e 0) (.aw (agZ (tT a) w).c):=P.vw1;simp[B];exact aY hv
def w86(a:Ar)(ok:fz a)(w:bE)(s:HS):R (.call 82 [.agg a.c,.psl (w.map Mv.c)] s)=.val (.cO (if aQ a=0 then(if w.length<=400 then [.aw (agZ (tT a) w).c,iV 0]else [.dE,iV 5])else [.dE,iV (aQ a)])) s:=by
 refine q86 ?_;have d:=w82 a ok;simp only[Ar.c,iV]at d;by_cases h:aQ a=0
 .rw[h]at d;by_cases j:w.length<=400
  .have g:¬(400:Int)<w.length:=by omega
   have f:=ajS a ok h w j;simp only[Ar.c]at f;have p:dv (agZ (tT a) w).c=true:=by simp
   generalize(agZ (tT a) w).c=q at f p;simp[U.b86,d,g,f,h,j];exact aY (.cO (.data (by simp[p])))
  have g:(400:Int)<w.length:=by omega
  simp[U.b86,d,g,h,j];exact aY (.cO (.data (by simp)))
 simp[U.b86,d,h];exact aY (.cO (.data (by simp)))
def aha(a:Ar)(w:bE):Int:=if aQ a=0 then(if w.length<=400 then(if(agZ (tT a) w).x.w.length<w.length then 13 else 0)else 5)else aQ a
def aiv(a:Ar)(w:bE):Int:=if aQ a=0/\w.length<=400/\(agZ (tT a) w).x.w.length<w.length then(agZ (tT a) w).x.w.length else 0
def w45(a:Ar)(ok:fz a)(w:bE)(s:HS):R (.call 50 [.agg a.c,.psl (w.map Mv.c)] s)=.val (.cO [iV (aiv a w),iV (aha a w)]) s:=by
 refine q45 ?_;have d:=w86 a ok w;simp only[Ar.c,iV]at d;unfold aiv aha;by_cases f:aQ a=0
 .by_cases h:w.length<=400
  .simp only[f,h,bp,Tk.c]at d;by_cases j:(agZ (tT a) w).x.w.length<w.length
   .have g:((agZ (tT a) w).x.w.length:Int)<w.length:=by omega
    simp[U.b45,d,f,h,j,g];exact aY (.cO (.data (by simp)))
   have g:¬((agZ (tT a) w).x.w.length:Int)<w.length:=by omega
   simp[U.b45,d,f,h,j,g];exact aY (.cO (.data (by simp)))
  simp only[f,h,bp,bD]at d;simp[U.b45,d,f,h];exact aY (.cO (.data (by simp)))
 simp only[f,bD]at d;simp[U.b45,d,f];exact aY (.cO (.data (by simp)))
abbrev KI:Kd:=⟨false,[0]⟩
def sn(a b:Int):pW KI (iV a) (iV b)=some (decide (a=b)):=by show(bif dt [0] [iV a]&&dt [0] [iV b]then(iV a).zf (iV b)else none)=_;have c:dt [0] [iV a]=true:=rfl;have d:dt [0] [iV b]=true:=rfl;rw[c,d];show(iV a).zf (iV b)=_;exact eA _ _ _
section
variable{e:En}{s:HS}
def XP(K:Kd)(m k:bS)(z:HV)(ok:Bool)(s:HS):cX:=match m,k with
  |some .fS,some key=>bif pX K key then .v (bif ok then .cO [z,.bool false]else z) s else .bad
  |some (.mp o),some key=>bif pX K key then(match aj s.h o with
   |some (.mp es)=>(match dZ K es key 0 with
    |some (_,some v)=>.v (bif ok then .cO [v,.bool true]else v) s
    |some (_,none)=>.v (bif ok then .cO [z,.bool false]else z) s
    |none=>.bad)
   |_=>.bad)else .bad
  |_,_=>.bad
def R6(K:Kd)(m k v:bS)(s:HS):cX:=match m,k,v with
  |some (.mp o),some key,some v=>bif pX K key then(match aj s.h o with
   |some (.mp es)=>(match dZ K es key 0 with
    |some (i,some _)=>.v .undef (s.aJ o (.mp (l9 es i v)))
    |some (_,none)=>.v .undef (s.aJ o (.mp (es++[(key,v)])))
    |none=>.bad)
   |_=>.bad)else .bad
  |_,_,_=>.bad
@[simp]def aaj:dA .mkm e s=.v (.mp s.nx) {h:=av (some (.mp [])) s.nx s.h,nx:=s.nx.succ,gr:=s.gr,ty:=s.ty}:=rfl
@[simp]def aak{K:Kd}{m k:X}{z:HV}{ok:Bool}:dA (.lkp K m k z ok) e s=XP K (bw m e) (bw k e) z ok s:=rfl
@[simp]def aal{K:Kd}{m k v:X}:dA (.mup K m k v) e s=R6 K (bw m e) (bw k e) (bw v e) s:=rfl
end
structure rl(s:HS)(o:Ky)(es:List (HV×HV))(ao:aW)(L:cq):Prop where
 mp:aj s.h o=some (.mp es)
 lt:o.toNat<s.nx.toNat
 co:ao o=none
 mem:dV s ao L
section
variable{s:HS}{o:Ky}{es:List (HV×HV)}{ao:aW}{L:cq}
def rl.append(h:rl s o es ao L)(i:Nat){v:HV}{sz:Nat}{ak:aP}(E:L[i]?=some (v,sz,ak)){new:aP}(M:Sz sz new)(h0:new≠ []){bI:Nat}(O:ak.length+new.length<=bI):
  ∃p s' q,j0 sz bI none (some v) (some (.psl new)) s=.v p s'/\cellsOf p=some [p]/\rl s' o es q (L.set i (p,sz,ak++new)):=by
 have r:=(aU.1 E).1;obtain⟨p,s',P,t,u,d⟩:=(h.mem.own i v sz ak E).append M h0 O;have B:=Ky.aS s.nx;have C:=h.lt;refine⟨p,s',λk=>if k=s.nx then some i else ao k,P,t.one,?_,by rw[d];omega,?_,λk j c=>?_,λk j c=>?_,λj w D y z=>?_⟩
 .rw[u.2.2.1 o C (by show¬ao o=some i;rw[h.co];simp)];exact h.mp
 .show(if o=s.nx then some i else ao o)=none;rw[ar λe=>by subst e;omega];exact h.co
 .rw[d]
  split at c
  .rename_i e;subst e;omega
  have:=h.mem.bd k j c;omega
 .rw[jk]
  split at c
  .cases c;exact r
  exact h.mem.top k j c
 rw[gl]at z;by_cases f:i=j
 .subst f;rw[au rfl,au r]at z;cases z;refine t.mono (λk c=>?_) (λk c=>?_)
  .rcases c with c|rfl
   .show(if k=s.nx then some i else ao k)=some i
    split
    .rfl
    exact c
   show(if s.nx=s.nx then some i else ao s.nx)=some i;rw[au rfl]
  have c:(if k=s.nx then some i else ao k)=some i:=c;rw[d]
  split at c
  .rename_i e;subst e;omega
  have:=h.mem.bd k i c;omega
 rw[ar f]at z;have H:=h.mem.own j w D y z;refine(H.frame u (λk c g=>by have g:ao k=some i:=g;have c:ao k=some j:=c;rw[c]at g;cases g;exact f rfl)).mono (λk c=>?_) (λk c=>?_)
 .have Q:=H.2.1 k c;show(if k=s.nx then some i else ao k)=some j;rw[ar λe=>by subst e;omega];exact c
 have c:(if k=s.nx then some i else ao k)=some j:=c;rw[d]
 split at c
 .cases c;exact absurd rfl f
 have:=h.mem.bd k j c;omega
def rl.jQ(h:rl s o es ao L)(i:Nat){v:HV}{ak:aP}(y:L[i]?=some (v,1,ak))(j:Nat)(C:j<ak.length){x:HV}(D:cellsOf x=some [x]):
  ∃q s',Fp (some v) (some (.int .i64 (j:Int))) 1 s=.v (.ptr q (j*1)) s/\qh 1 (some (.ptr q (j*1))) (some x) s=.v .undef s'/\rl s' o es ao (L.set i (v,1,ak.set j [x])):=by
 have r:=(aU.1 y).1;obtain⟨q,s',E,H,M,z,B⟩:=(h.mem.own i v 1 ak y).jQ j C x D;refine⟨q,s',E,H,?_,by rw[B];exact h.lt,h.co,λk i c=>by rw[B];exact h.mem.bd k i c,λk i c=>by rw[jk];exact h.mem.top k i c,λk w t g c=>?_⟩
 .rw[z.2.2.1 o h.lt (by show¬ao o=some i;rw[h.co];simp)];exact h.mp
 rw[gl]at c;by_cases f:i=k
 .subst f;rw[au rfl,au r]at c;cases c;exact M
 rw[ar f]at c;exact(h.mem.own k w t g c).frame z (λp u d=>by have d:ao p=some i:=d;have u:ao p=some k:=u;rw[u]at d;cases d;exact f rfl)
def rl.frame{s':HS}(h:rl s o es ao L)(c:cV (λ_=>False) s s'):rl s' o es ao L:=
 ⟨(c.2.2.1 o h.lt (λh=>h)).trans h.mp,dJ h.lt c.1,h.co,h.mem.frame c⟩
def rl.put(h:rl s o es ao L)(c:List (HV×HV)):rl (s.aJ o (.mp c)) o c ao L:=by have f:cV (λk=>k=o) s (s.aJ o (.mp c)):=cV.aJ rfl;refine⟨by rw[dW,au rfl],dJ h.lt f.1,h.co,λk i d=>dJ (h.mem.bd k i d) f.1,h.mem.top,λi v j g p=>(h.mem.own i v j g p).frame f (λk d e=>?_)⟩;have d:ao k=some i:=d;subst e;rw[h.co]at d;cases d
def rl.one(h:rl s o es ao L)(x:HV):∃c,rl (HS.mk (av (some (.cells (cP [x]) 0 1 s.nx)) s.nx s.h) s.nx.succ (av (some [s.nx]) s.nx s.gr) s.ty) o es c (L++[(.sl s.nx 0 1 1,1,[[x]])]):=by
 have d:=Ky.aS s.nx;have f:=cV.alloc (s:=s) (.cells (cP [x]) 0 1 s.nx) [s.nx];have q:cu (HS.mk (av (some (.cells (cP [x]) 0 1 s.nx)) s.nx s.h) s.nx.succ (av (some [s.nx]) s.nx s.gr) s.ty) (.sl s.nx 0 1 1) 1 (λk=>k=s.nx) [[x]]:=by refine⟨Sz.cons rfl Sz.nil,λk g=>by subst g;simp only;omega,.inr ⟨s.nx,cP [x],1,s.nx,[],rfl,by simp,by simp,λj p=>?_,by simp,by simp,by simp,rfl⟩⟩;simp at p;subst p;rfl
 refine⟨_,(f.2.2.1 o h.lt (λh=>h)).trans h.mp,dJ h.lt f.1,?_,h.mem.join f q (λk g=>by subst g;exact aV _)⟩;have:=h.lt;rw[ar λe=>by subst e;omega];exact h.co
end
def Lf(n:Int):Prop:=n<=8∨64<n
def GA(t:Ty):Prop:=t.ps.length<=6/\Lf t.res.n/\∀p∈t.ps,Lf p.n
def w9a(a:Ar)(i:Nat)(t:Ty)(H:a.ids[i]?=some t)(O:t.ps.length<=6)(e:En)(r:Out)
  (f:look e 1=some (.aw a.c))(g:look e 3=some (iV i))(q:look e 5=some (iV 0))(d:bO R (.loop U.Bb) e s0=r):
  (∃e',r=.code .ret e' s0/\look e' 2=some (.bool false))∨∃e',r=.code (.exit 2) e' s0/\(look e' 1=some (.aw a.c)/\look e' 3=some (iV i))/\∀p∈t.ps,Lf p.n:=by
 obtain⟨j,Ld⟩:=aU.1 H;refine bh d t.ps.length
  (λk e s'=>s'=s0/\look e 1=some (.aw a.c)/\look e 3=some (iV i)/\look e 5=some (iV k)/\∀p∈t.ps.take k,Lf p.n)
  (λr=>(∃e',r=.code .ret e' s0/\look e' 2=some (.bool false))∨∃e',r=.code (.exit 2) e' s0/\(look e' 1=some (.aw a.c)/\look e' 3=some (iV i))/\∀p∈t.ps,Lf p.n)
  0 (by omega) ⟨rfl,f,g,q,by simp⟩
  (λk e s' r B ⟨D,f,g,q,C⟩ d=>by
   have y:Lf t.ps[k].n->∀p∈t.ps.take (k+1),Lf p.n:=by
    rw[eW B];simp only[l5,cr]
    rintro h p (M|rfl)
    .exact C p M
    exact h
   subst D;have u:(k:Int)<t.ps.length:=by omega
   by_cases E:8<t.ps[k].n
   .by_cases z:t.ps[k].n<=64
    .simp[U.Bb,f,g,q,j,Ld,B,u,E,z]at d;subst d;exact .inr ⟨by simp,.inl ⟨_,rfl,by simp⟩⟩
    simp[U.Bb,f,g,q,j,Ld,B,u,E,z,br (n:=6) (show k<6 by omega) (by omega)]at d;subst d;exact .inl ⟨_,_,rfl,rfl,by simp[f],by simp[g],by simp,y (.inr (by omega))⟩
   simp[U.Bb,f,g,q,j,Ld,B,u,E,br (n:=6) (show k<6 by omega) (by omega)]at d;subst d;exact .inl ⟨_,_,rfl,rfl,by simp[f],by simp[g],by simp,y (.inl (by omega))⟩)
  (λe s' r ⟨D,f,g,q,C⟩ d=>by
   subst D;simp[U.Bb,f,g,q,j,Ld]at d;subst d;rw[fD (aV _)]at C;exact⟨by simp,.inr ⟨_,rfl,⟨by simp[f],by simp[g]⟩,C⟩⟩)
def w9b(a:Ar)(hl:a.ids.length<=9)(e:En)(o:Out)(p:look e 1=some (.aw a.c))(q:look e 3=some (iV 0))(Y:bO R (.loop U.zt) e s0=o):
  (∃e',o=.code .ret e' s0/\look e' 2=some (.bool false))∨∃e',o=.code (.exit 0) e' s0/\∀t∈a.ids,GA t:=
 bh Y a.ids.length
  (λi e s'=>s'=s0/\look e 1=some (.aw a.c)/\look e 3=some (iV i)/\∀j (z:j<a.ids.length),j<i->GA a.ids[j])
  (λo=>(∃e',o=.code .ret e' s0/\look e' 2=some (.bool false))∨∃e',o=.code (.exit 0) e' s0/\∀t∈a.ids,GA t)
  0 (by omega) ⟨rfl,p,q,by simp⟩
  (λi e s' r C ⟨H,p,q,E⟩ d=>by
   subst H;have u:(i:Int)<a.ids.length:=by omega
   have y:∀(e:En) (r:Out),look e 1=some (.aw a.c)->look e 3=some (iV i)->look e 5=some (iV 0)->a.ids[i].ps.length<=6->bO R (.loop U.Bb) e s0=r->_:=λe r p q Z M d=>w9a a i a.ids[i] (aX C) M e r p q Z d
   by_cases D:8<a.ids[i].res.n
   .by_cases B:a.ids[i].res.n<=64
    .simp[U.zt,p,q,C,u,D,B]at d;subst d;exact .inr ⟨by simp,.inl ⟨_,rfl,by simp⟩⟩
    by_cases M:6<a.ids[i].ps.length
    .have f:(6:Int)<a.ids[i].ps.length:=by omega
     simp[U.zt,p,q,C,u,D,B,f]at d;subst d;exact .inr ⟨by simp,.inl ⟨_,rfl,by simp⟩⟩
    have f:¬(6:Int)<a.ids[i].ps.length:=by omega
    simp-implicitDefEqProofs[U.zt,p,q,C,u,D,B,f]at d;generalize g:bO R (.loop U.Bb) _ _=r1 at d;rcases y _ _ (by simp[p]) (by simp[q]) (by simp) (by omega) g with⟨O,rfl,P⟩|⟨O,rfl,⟨Q,T⟩,V⟩
    .clear g;simp at d;subst d;exact .inr ⟨by simp,.inl ⟨_,rfl,by simp[P]⟩⟩
    clear g;simp[T,br (n:=9) (show i<9 by omega) (by omega)]at d;subst d;refine .inl ⟨_,_,rfl,rfl,by simp[Q],by simp,λj z X=>?_⟩;by_cases h:j=i
    .subst h;exact⟨by omega,.inr (by omega),V⟩
    exact E j z (by omega)
   by_cases M:6<a.ids[i].ps.length
   .have f:(6:Int)<a.ids[i].ps.length:=by omega
    simp[U.zt,p,q,C,u,D,f]at d;subst d;exact .inr ⟨by simp,.inl ⟨_,rfl,by simp⟩⟩
   have f:¬(6:Int)<a.ids[i].ps.length:=by omega
   simp-implicitDefEqProofs[U.zt,p,q,C,u,D,f]at d;generalize g:bO R (.loop U.Bb) _ _=r1 at d;rcases y _ _ (by simp[p]) (by simp[q]) (by simp) (by omega) g with⟨O,rfl,P⟩|⟨O,rfl,⟨Q,T⟩,V⟩
   .clear g;simp at d;subst d;exact .inr ⟨by simp,.inl ⟨_,rfl,by simp[P]⟩⟩
   clear g;simp[T,br (n:=9) (show i<9 by omega) (by omega)]at d;subst d;refine .inl ⟨_,_,rfl,rfl,by simp[Q],by simp,λj z X=>?_⟩;by_cases h:j=i
   .subst h;exact⟨by omega,.inl (by omega),V⟩
   exact E j z (by omega))
  (λe s' r ⟨H,p,q,E⟩ d=>by
   subst H;simp[U.zt,p,q]at d;subst d;refine⟨by simp,.inr ⟨_,rfl,λt ht=>?_⟩⟩;obtain⟨j,z,rfl⟩:=eO.1 ht;exact E j z z)
def sq(a:Ar):Prop:=a.ids.length<=9/\Lf a.root.n/\∀t∈a.ids,GA t
def w9(a:Ar):∃b,(∀s,R (.call 41 [.agg a.c] s)=.val (.bool b) s)/\(b=true->sq a):=by
 suffices h:∃b,pF [.tmp 2] (bO R U.b9 (bc [.agg a.c] 0) s0)=some (.bool b)/\(b=true->sq a) by obtain⟨b,r,p⟩:=h;exact⟨b,λs=>q9 r,p⟩
 by_cases B:9<a.ids.length
 .have g:(9:Int)<a.ids.length:=by omega
  by_cases q:8<a.root.n
  .by_cases j:a.root.n<=64
   .exact⟨false,by simp[U.b9,q,j,aa]⟩
   exact⟨false,by simp[U.b9,q,j,g,aa]⟩
  exact⟨false,by simp[U.b9,q,g,aa]⟩
 have g:¬(9:Int)<a.ids.length:=by omega
 have aZ:∀(e:En),look e 1=some (.aw a.c)->look e 3=some (iV 0)->∃b,(b=true->Lf a.root.n->sq a)/\((∃f,bO R (.loop U.zt) e s0=.code .ret f s0/\look f 2=some (.bool false)/\b=false)∨(∃f,bO R (.loop U.zt) e s0=.code (.exit 0) f s0/\b=true)):=by
  intro e r u;rcases w9b a (by omega) e _ r u rfl with⟨f,d,p⟩|⟨f,d,y⟩
  .exact⟨false,by simp,.inl ⟨f,d,p,rfl⟩⟩
  exact⟨true,λ_ z=>⟨by omega,z,y⟩,.inr ⟨f,d,rfl⟩⟩
 by_cases q:8<a.root.n
 .by_cases j:a.root.n<=64
  .exact⟨false,by simp[U.b9,q,j,aa]⟩
  simp[U.b9,q,j,g];generalize d:(En.cons 0 _ _:En)=e;obtain⟨b,t,h⟩:=aZ e (by subst d;simp) (by subst d;simp);rcases h with⟨f,d,p,rfl⟩|⟨f,d,rfl⟩
  .exact .inl (by rw[d];simp[p,aa])
  exact .inr ⟨by rw[d];simp[aa],t rfl (.inr (by omega))⟩
 simp[U.b9,q,g];generalize d:(En.cons 0 _ _:En)=e;obtain⟨b,t,h⟩:=aZ e (by subst d;simp) (by subst d;simp);rcases h with⟨f,d,p,rfl⟩|⟨f,d,rfl⟩
 .exact .inl (by rw[d];simp[p,aa])
 exact .inr ⟨by rw[d];simp[aa],t rfl (.inl (by omega))⟩
def cu.copy{S:HS}{v:HV}{sz bI:Nat}{F:bM}(h:cu S v sz F []){ak:aP}(p:Sz sz ak)(q:ak.length<=bI):
  ∃c s' j,j0 sz bI none (some v) (some (.psl ak)) S=.v c s'/\cu s' c sz j ak/\cV F S s'/\cellsOf c=some [c]/\∀k,j k->F k∨k=S.nx:=by
 by_cases h0:ak=[]
 .subst h0;exact⟨v,S,F,kQ h.gZ,h,⟨aV _,rfl,λ_ _ _=>rfl,λ_ _ _=>rfl⟩,h.one,λk f=>.inl f⟩
 obtain⟨c,s',r,d,g,t⟩:=h.append p h0 (bI:=bI) (by simpa using q);exact⟨c,s',_,r,by simpa using d,g,d.one,λk f=>f⟩
abbrev S57:HS:={h:=.nd (some (.cells (cP [.ah,.bool false,.int .i64 0]) 0 3 .e)) (.nd (some (.cells (cP []) 0 0 (.z .e))) .lf .lf) .lf,nx:=.o .e,gr:=.nd (some [.e]) (.nd (some [.z .e]) .lf .lf) .lf,ty:=.lf}
abbrev S15:HS:={h:=.nd (some (.cells (cP []) 0 0 .e)) .lf .lf,nx:=.z .e,gr:=.nd (some [.e]) .lf .lf,ty:=.lf}
def XQ:cu S57 (.sl (.z .e) 0 0 2) 2 (λk=>k=.z .e) []:=by refine⟨Sz.nil,λk c=>by subst c;decide,.inr ⟨.z .e,cP [],0,.z .e,[],rfl,rfl,by simp,λj d=>by simp at d,rfl,by simp,by simp,rfl⟩⟩
def XR:cu S15 (.sl .e 0 0 4) 4 (λk=>k=.e) []:=by refine⟨Sz.nil,λk c=>by subst c;decide,.inr ⟨.e,cP [],0,.e,[],rfl,rfl,by simp,λj d=>by simp at d,rfl,by simp,by simp,rfl⟩⟩
def w57(t:Ty)(E:t.ps.length<=400)(s:HS):R (.call 59 [.agg t.c] s)=.val (.agg t.c) s:=by refine q57 ?_;obtain⟨z,s',H,B,r,u,C,D⟩:=XQ.copy (ak:=t.ps.map Bs.c) (Sz.map (f:=Bs.c) (λx=>rfl) _) (bI:=8796093022208) (by simp;omega);have g:il S57 .e [.ah,.bool false,.int .i64 0]:=⟨rfl,rfl,by decide⟩;obtain⟨s2,y,d,h,_⟩:=(g.frame u (λe=>by cases e)).put (v:=.agg [z,.bool t.res.cell,.int .i64 t.res.n]) rfl rfl;have j:=d.load;have p:=r.frame h (λk q e=>by subst e;rcases D _ q with q|q<;>cases q);have y:qh 3 (some (.ptr .e 0)) (some (.agg [z,.bool t.res.cell,.int .i64 t.res.n])) s'=.v .undef s2:=y;simp only[aB,aC]at j;simp[U.b57,s0,B,C,-kD,y,j];exact aY (.agg (.cons (p.vw (by simp)) (.data (by simp))))
def w15(w:bE)(j:w.length<=4000)(s:HS):R (.call 13 [.psl (w.map Mv.c)] s)=.val (.psl (w.map Mv.c)) s:=by refine q15 ?_;obtain⟨p,s',q,g,d,h,r,t⟩:=XR.copy (ak:=w.map Mv.c) (Sz.map (f:=Mv.c) (λx=>rfl) _) (bI:=4398046511104) (by simp;omega);simp[U.b15,s0,g];exact aY (d.vw (by simp))
def w18(a:Ar)(hl:a.ids.length<=9)(hp:∀t∈a.ids,t.ps.length<=6)(s:HS):R (.call 28 [.agg a.c] s)=.val (.agg a.c) s:=by
 refine q18 ?_;simp[U.ZM,s0,aq,aA];generalize ho:bO R (.loop U.Gp) _ _=o;have hq:=bh ho a.ids.length
  (λi e s=>∃v F,look e 1=some (.aw a.c)/\look e 2=some (.ptr .e 0)/\look e 3=some (.ptr (.z .e) 0)/\look e 4=some (iV i)/\il s .e [.ah,.bool false,.int .i64 0,.bool false]/\il s (.z .e) [v,.bool a.root.cell,.int .i64 a.root.n,.bool a.jumps]/\cu s v 3 F ((a.ids.take i).map Ty.c)/\∀k,F k->2<=k.toNat)
  (λo=>∃e s v F,o=.code (.exit 0) e s/\look e 2=some (.ptr .e 0)/\look e 3=some (.ptr (.z .e) 0)/\il s .e [.ah,.bool false,.int .i64 0,.bool false]/\il s (.z .e) [v,.bool a.root.cell,.int .i64 a.root.n,.bool a.jumps]/\cu s v 3 F (a.ids.map Ty.c)/\∀k,F k->2<=k.toNat)
  0 (by omega) ⟨.ah,_,by simp,by simp,by simp,by simp,⟨by simp,by simp,by simp[Ky.toNat]⟩,⟨by simp,by simp,by simp[Ky.toNat]⟩,cu.ah,λk p=>p.elim⟩
  (λi e s r Z ⟨v,F,Y,D,B,h4,g,d,C,q⟩ E=>by
   have h5:(i:Int)<a.ids.length:=by omega
   have H:=w57 a.ids[i] (by have:=hp _ (cb Z);omega);have g0:=d.get 0 (by simp);obtain⟨v',s1,ha,M,O,h8⟩:=C.append (bI:=3518437208883) (new:=[a.ids[i].c]) (Sz.cons rfl Sz.nil) (by simp) (by simp;omega);have P:=g.frame O (λh=>by have:=q _ h;simp[Ky.toNat]at this);have Q:=d.frame O (λh=>by have:=q _ h;simp[Ky.toNat]at this);obtain⟨s2,b2,u,f,h9⟩:=Q.set 0 (by simp) v' M.one;have h6:=d.2.2;have T:∀k,(F k∨k=s.nx)->2<=k.toNat:=by
    rintro k (p|rfl)
    .exact q k p
    have:(Ky.z Ky.e).toNat<s.nx.toNat:=h6;simp[Ky.toNat]at this;omega
   have V:=M.frame f (λk p e=>by subst e;have:=T _ p;simp[Ky.toNat]at this);have y:=P.frame f (λe=>by cases e);simp only[Ty.c]at H ha;simp at g0;simp[U.Gp,Y,B,h4,Z,h5,H,g0,ha,b2,br (n:=9) (show i<9 by omega) (by omega)]at E;subst E;refine .inl ⟨_,_,rfl,v',λk=>F k∨k=s.nx,by simp[Y],by simp[D],by simp[B],by simp,y,by simpa using u,?_,T⟩;rw[eW Z,eU];exact V)
  (λe s r ⟨v,F,Y,D,B,h4,g,d,C,q⟩ E=>by
   simp[U.Gp,Y,h4]at E;subst E;rw[mP]at C;exact⟨by simp,_,_,v,F,rfl,by simp[D],by simp[B],g,d,C,q⟩)
 clear ho;obtain⟨e,s,v,F,rfl,D,B,g,d,C,q⟩:=hq;have X:=d.load;obtain⟨s2,st,u,f,_⟩:=g.put (v:=.agg [v,.bool a.root.cell,.int .i64 a.root.n,.bool a.jumps]) rfl rfl;have j:=u.load;have h7:=C.frame f (λk p e=>by subst e;have:=q _ p;simp[Ky.toNat]at this);have st:qh 4 (some (.ptr .e 0)) (some (.agg [v,.bool a.root.cell,.int .i64 a.root.n,.bool a.jumps])) s=.v .undef s2:=st;simp only[aB,aC]at X j;simp[D,B,X,-kD,st,j];exact aY (.agg (.cons (h7.vw (by simp)) (.data (by simp))))
inductive Lv(x:Fa):aG
 |fin {i:Nat} (h:x.fi[i]?=some true):Lv x i
 |Fy {i:Nat} {l:bu} {e:Eg} (h:x.nx[i]?=some l) (he:e∈l) (h':Lv x e.to):Lv x i
structure Us(x:Fa)(u:cf):Prop where
 len:u.length=x.nx.length
 snd:∀i:Nat,u[i]?=some true->Lv x i
 fin:∀i:Nat,x.fi[i]?=some true->u[i]?=some true
def mQ(x:Fa)(u:cf):Prop:=u.length=x.nx.length/\∀i:Nat,u[i]?=some true↔Lv x i
structure Rd(x:Fa)(u0 u:cf)(b:Bool)(i k:Nat):Prop where
 us:Us x u
 t:b=true->u0.count true<u.count true
 f:b=false->u=u0/\∀(i' k':Nat),(i'<i∨i'=i/\k'<k)->∀l,x.nx[i']?=some l->∀e:Eg,l[k']?=some e->u[e.to]?=some true->u[i']?=some true
def Rd.Ld{x:Fa}{u0 u:cf}{b:Bool}{i k:Nat}(h:Rd x u0 u b i k){l:bu}{e:Eg}(p:x.nx[i]?=some l)(q:l[k]?=some e)(r:u[i]?=some false)(y:u[e.to]?=some true):Rd x u0 (u.set i true) true i (k+1):=by
 obtain⟨z,g⟩:=aU.1 r;refine⟨⟨by simp[h.us.len],λj d=>?_,λj d=>?_⟩,λ_=>?_,λh=>by cases h⟩
 .rw[gl]at d
  split at d
  .rename_i c;subst c;exact .Fy p (cE q) (h.us.snd _ y)
  exact h.us.snd j d
 .rw[gl]
  split
  .rename_i c;subst c;simp
  exact h.us.fin j d
 have B:(u.set i true).count true=u.count true+1:=by rw[List.count_set z];simp[g]
 rw[B];cases b
 .rw[(h.f rfl).1];omega
 have:=h.t rfl;omega
def Rd.XS{x:Fa}{u0 u:cf}{b:Bool}{i k:Nat}(h:Rd x u0 u b i k){l:bu}{e:Eg}(q:x.nx[i]?=some l)(r:l[k]?=some e)(y:u[e.to]?=some true->u[i]?=some true):Rd x u0 u b i (k+1):=by
 refine⟨h.us,h.t,λg=>⟨(h.f g).1,λj p z B c C d=>?_⟩⟩;by_cases D:j=i/\p=k
 .obtain⟨rfl,rfl⟩:=D;rw[q]at c;cases c;rw[r]at d;cases d;exact y
 exact(h.f g).2 j p (by omega) B c C d
def Rd.row{x:Fa}{u0 u:cf}{b:Bool}{i:Nat}{l:bu}(p:x.nx[i]?=some l)(h:Rd x u0 u b i l.length):Rd x u0 u b (i+1) 0:=by
 refine⟨h.us,h.t,λg=>⟨(h.f g).1,λj q y z c r d=>?_⟩⟩;by_cases B:j=i
 .subst B;rw[p]at c;cases c;exact(h.f g).2 j q (.inr ⟨rfl,(aU.1 d).1⟩) l p r d
 exact(h.f g).2 j q (by omega) z c r d
def Rd.done{x:Fa}{u0 u:cf}(h:Rd x u0 u false x.nx.length 0):mQ x u:=by
 refine⟨h.us.len,λi=>⟨h.us.snd i,λc=>?_⟩⟩
 induction c with|fin d=>exact h.us.fin _ d|Fy c g _ j=>obtain⟨k,p⟩:=uG.1 g;exact(h.f rfl).2 _ k (.inl (aU.1 c).1) _ c _ p j
def ly{s:HS}{o:Ky}{F:bM}{u:cf}{n:Nat}(h:cu s (.sl o 0 n 1) 1 F (u.map bC)){i:Nat}{b:Bool}(c:u[i]?=some b):eN (aj s.h o) i=some (.bool b):=by obtain⟨d,f⟩:=aU.1 c;rw[h.cell i (by simpa using d)];simp[f]
section
variable{x:Fa}{v:HV}{F:bM}{u0:cf}
def XT(O:bA x){i:Nat}(y:i<x.nx.length){e:En}{s:HS}{u:cf}{b:Bool}{o:Out}(d:bB e [(1,.aw x.c),(3,v),(4,.bool b),(5,iV i),(6,iV 0)])(g:cu s v 1 F (u.map bC))(q:Rd x u0 u b i 0)(ho:bO R (.loop U.qU) e s=o):
  ∃e' s' P Q,o=.code (.exit 4) e' s'/\bB e' [(1,.aw x.c),(3,v),(4,.bool Q),(5,iV i)]/\cu s' v 1 F (P.map bC)/\Rd x u0 P Q (i+1) 0:=by
 have j:=aX y;revert o;show∀o,_;refine ajX x.nx[i].length
  (λk e s=>∃u b,bB e [(1,.aw x.c),(3,v),(4,.bool b),(5,iV i),(6,iV k)]/\cu s v 1 F (u.map bC)/\Rd x u0 u b i k)
  0 (by omega) ⟨u,b,d,g,q⟩ ?_ ?_
 .rintro k e s r C ⟨u,b,d,g,q⟩ p
  have z:(k:Int)<x.nx[i].length:=by omega
  have B:=aX C;have Y:=O.row y;have Z:=O.to _ (cb y) _ (cb C);have h3:=q.us.len;obtain⟨ob,rfl⟩:=g.gP (by intro h0;have:=ch List.length h0;rw[bz]at this;simp only[aC]at this;omega);obtain⟨c1,D⟩:∃c,u[i]?=some c:=⟨_,aX (show i<u.length by omega)⟩;obtain⟨c2,E⟩:∃c,u[(x.nx[i][k]).to]?=some c:=⟨_,aX (show(x.nx[i][k]).to<u.length by omega)⟩;have H:=ly g D;have T:=ly g E;have f:i<u.length:=by omega
  have t:(x.nx[i][k]).to<u.length:=by omega
  have M:=br (n:=6000) (show k<6000 by omega) (by omega);simp only[ab,ae,bz]at d;cases c1
  .cases c2
   .simp[U.qU,d,y,C,z,f,t,H,T,M]at p;subst p;exact .inl ⟨_,_,rfl,u,b,by simp[d],g,q.XS j B (λh=>by rw[E]at h;cases h)⟩
   obtain⟨o',s',V,X,a3,a4,a5⟩:=g.jQ i (by simpa using f) (.bool true) rfl;simp[f]at V;obtain rfl:=V;simp only[jl]at X;simp[U.qU,d,y,C,z,f,t,H,T,M,X]at p;subst p;refine .inl ⟨_,_,rfl,u.set i true,true,by simp[d],?_,q.Ld j B D E⟩;rw[mR];exact a3
  simp[U.qU,d,y,z,f,H,M]at p;subst p;exact .inl ⟨_,_,rfl,u,b,by simp[d],g,q.XS j B (λ_=>D)⟩
 rintro e s r ⟨u,b,d,g,q⟩ p
 simp only[ab,ae]at d;simp[U.qU,d,y]at p;subst p;exact⟨by simp,_,_,u,b,rfl,by simp[d],g,q.row j⟩
def XU(D:bA x){e:En}{s:HS}{o:Out}(d:bB e [(1,.aw x.c),(3,v),(4,.bool false),(5,iV 0)])(j:cu s v 1 F (u0.map bC))(E:Us x u0)(t:bO R (.loop U.w8) e s=o):
  ∃e' s' p q,o=.code (.exit 2) e' s'/\bB e' [(1,.aw x.c),(3,v),(4,.bool q)]/\cu s' v 1 F (p.map bC)/\Rd x u0 p q x.nx.length 0:=by
 have M:=D.n;revert o;show∀o,_;refine ajX x.nx.length
  (λi e s=>∃u b,bB e [(1,.aw x.c),(3,v),(4,.bool b),(5,iV i)]/\cu s v 1 F (u.map bC)/\Rd x u0 u b i 0)
  0 (by omega) ⟨u0,false,d,j,⟨E,λh=>(by cases h),λ_=>⟨rfl,λO P h=>(by omega)⟩⟩⟩ ?_ ?_
 .rintro i e s r H ⟨u,b,d,j,y⟩ f
  have z:(i:Int)<x.nx.length:=by omega
  simp only[ab,ae]at d;simp[U.w8,d,z]at f;generalize t:bO R (.loop U.qU) _ _=o at f;obtain⟨e',s',p,q,rfl,g,B,C⟩:=XT D H (by simp[d]) j y t;clear t;simp only[ab,ae]at g;simp[g,br (n:=400) (show i<400 by omega) (by omega)]at f;subst f;exact .inl ⟨_,_,rfl,p,q,by simp[g],B,C⟩
 rintro e s r ⟨u,b,d,j,y⟩ f
 simp only[ab,ae]at d;simp[U.w8,d]at f;subst f;exact⟨by simp,_,_,u,b,rfl,by simp[d],j,y⟩
end
def R7:cu S15 (.sl .e 0 0 1) 1 (λk=>k=.e) []:=by refine⟨Sz.nil,λk c=>by subst c;decide,.inr ⟨.e,cP [],0,.e,[],rfl,rfl,by simp,λj d=>by simp at d,rfl,by simp,by simp,rfl⟩⟩
def ae2(x:Fa)(C:bA x):∃u,mQ x u/\∀s,R (.call 92 [.agg x.c] s)=.val (.psl (u.map bC)) s:=by
 have T:x.fi.length<=400:=by have:=C.ok.f;simpa[Fa.i]using this
 obtain⟨v,s',F,V,D,X,hc,hF⟩:=R7.copy (ak:=x.fi.map bC) (Sz.map (f:=bC) (λx=>rfl) _) (bI:=140737488355328) (by simp;omega)
 suffices h:∃u,mQ x u/\pF [.tmp 2] (bO R U.Qd (bc [.agg x.c] 0) s0)=some (.psl (u.map bC)) by obtain⟨u,P,Q⟩:=h;exact⟨u,P,λs=>adb Q⟩
 simp[U.Qd,s0,V];generalize p:bO R (.loop U.Bm) _ _=o;have Y:=bh p (x.nx.length+2)
  (λi e s=>∃u b,bB e [(1,.aw x.c),(3,v),(4,.bool b)]/\cu s v 1 F (u.map bC)/\Us x u/\(b=true->i<=u.count true)/\(b=false->i<=u.count true+1/\mQ x u))
  (λo=>∃z s' u,o=.code (.exit 0) z s'/\look z 3=some v/\cu s' v 1 F (u.map bC)/\mQ x u)
  0 (by omega) ⟨x.fi,true,by simp,D,⟨C.nf.symm,λi h=>.fin h,λi h=>h⟩,λ_=>fN _,λh=>by cases h⟩
  (λi e s r hi ⟨u,b,j,q,E,B,H⟩ g=>by
   simp only[ab,ae]at j;cases b
   .simp[U.Bm,j]at g;subst g;exact .inr ⟨by simp,_,_,u,rfl,by simp[j],q,(H rfl).2⟩
   simp[U.Bm,j]at g;generalize p:bO R (.loop U.w8) _ _=o at g;obtain⟨z,s',Z,b',rfl,y,M,d⟩:=XU (u0:=u) C (by simp[j]) q E p;clear p;simp only[ab,ae]at y;simp at g;subst g;refine .inl ⟨_,_,rfl,Z,b',by simp[y],M,d.us,λO=>?_,λO=>?_⟩
   .have:=d.t O;have:=B rfl;omega
   subst O;have:=B rfl;have he:=(d.f rfl).1;exact⟨by rw[he];omega,d.done⟩)
  (λe s r ⟨u,b,j,q,E,B,H⟩ g=>by
   have P:=List.count_le_length (a:=true) (l:=u);have Q:=E.len;cases b
   .have:=(H rfl).1;omega
   have:=B rfl;omega)
 clear p;obtain⟨z,s',u,rfl,h3,q,hl⟩:=Y;refine⟨u,hl,?_⟩;simp[h3];exact aY (q.vw (by simp))
def Od{c:HC}{e:En}{s:HS}{o:Out}(B:bO R (.loop c) e s=o)(J:HS->Prop)(C:J s)(n:Nat)(P:aG)(L:Nat->List (Nat×HV))(M:List (Nat×HV))(x:Nat)(Q:Nat->Out->Prop)(D:bB e (L 0))
  (round:∀i e s r,i<n->J s->bB e (L i)->bO R c e s=r->(P i/\∃e' s',r=.code .normal e' s'/\J s'/\bB e' (L (i+1)))∨(¬P i/\gJ r/\Q i r))
  (last:∀e s r,J s->bB e (L n)->bO R c e s=r->∃e' s',r=.code (.exit x) e' s'/\J s'/\bB e' M):
  (∃i,i<n/\(∀j,j<i->P j)/\¬P i/\Q i o)∨((∀i,i<n->P i)/\∃e' s',o=.code (.exit x) e' s'/\J s'/\bB e' M):=by
 refine bh B n (λi e s=>J s/\bB e (L i)/\∀j,j<i->P j) (λo=>(∃i,i<n/\(∀j,j<i->P j)/\¬P i/\Q i o)∨((∀i,i<n->P i)/\∃e' s',o=.code (.exit x) e' s'/\J s'/\bB e' M)) 0 (by omega) ⟨C,D,λj d=>by omega⟩ ?_ ?_
 .rintro i e s r z ⟨p,q,d⟩ t
  rcases round i e s r z p q t with⟨u,e',s',f,y,g⟩|⟨u,f,g⟩
  .refine .inl ⟨e',s',f,y,g,λj E=>?_⟩;by_cases h:j=i
   .subst h;exact u
   exact d j (by omega)
  exact .inr ⟨f,.inl ⟨i,z,d,u,g⟩⟩
 rintro e s r ⟨p,q,d⟩ t
 obtain⟨e',s',f,y,g⟩:=last e s r p q t;subst f;exact⟨by simp,.inr ⟨d,e',s',rfl,y,g⟩⟩
def cu.app{S:HS}{v:HV}{sz bI:Nat}{F:bM}{ak new:aP}(h:cu S v sz F ak)(p:Sz sz new)(q:ak.length+new.length<=bI):
  ∃c s' j,j0 sz bI none (some v) (some (.psl new)) S=.v c s'/\cu s' c sz j (ak++new)/\cV F S s'/\(∀k,j k->F k∨k=S.nx):=by
 by_cases h0:new=[]
 .subst h0;exact⟨v,S,F,kQ h.gZ,by simpa using h,cV.refl,λk d=>.inl d⟩
 obtain⟨c,s',r,f,g,t⟩:=h.append p h0 (bI:=bI) q;exact⟨c,s',_,r,f,g,λk d=>d⟩
def kJ:bE->Mv->bE
 |[],m=>[m]
 |a::r,m=>if fv a m then a::kJ r m else if a=m then a::r else m::a::r
def GB:∀(l:bE) (m:Mv) (i:Nat),i<=l.length->(∀j,(h:j<l.length)->j<i->fv l[j] m=true)->(∀h:i<l.length,fv l[i] m=false)->
  kJ l m=if l[i]?=some m then l else l.take i++m::l.drop i
 |[],m,i,c,_,_=>by simp at c;subst c;simp[kJ]
 |a::r,m,0,_,_,h=>by have:=h (by simp);simp only[tV]at this;simp only[kJ,this,df,bD,BO,bQ,R8,List.drop_zero,bq]
 |a::r,m,i+1,c,d,f=>by
  have h0:=d 0 (by simp) (by omega);simp only[tV]at h0;have g:=GB r m i (by simpa using c) (λj h p=>by have:=d (j+1) (by simpa using h) (by omega);simpa using this) (λh=>by have:=f (by simpa using h);simpa using this);simp only[kJ,h0,bp,g,BP,JT,List.drop_succ_cons,bo]
  split<;>rfl
def XV(l:bE)(hl:l.length<=100000)(m:Mv)(s:HS):R (.call 115 [.psl (l.map Mv.c),.agg m.c] s)=.val (.psl ((kJ l m).map Mv.c)) s:=by
 refine ads ?_;simp-implicitDefEqProofs[U.V6];generalize ho:bO R (.loop U.xB) _ _=o;have hq:=jd ho l.length (λi=>∀h:i<l.length,fv l[i] m=true) (λi=>[(0,.psl (l.map Mv.c)),(3,.aw m.c),(5,iV i)]) [(0,.psl (l.map Mv.c)),(3,.aw m.c),(5,iV l.length)] 0 (λi o=>∃t,o=.code (.exit 0) t s0/\bB t [(0,.psl (l.map Mv.c)),(3,.aw m.c),(5,iV i)]) (by simp)
  (λi e r y g B=>by
   have D:(i:Int)<l.length:=by omega
   have d:=XI l[i] m;simp only[ab,ae]at g;cases C:fv l[i] m
   .rw[C]at d;simp only[Mv.c]at d;simp[U.xB,g,y,D,d]at B;subst B;exact .inr ⟨λh=>(by rw[h y]at C;cases C),by simp,_,rfl,by simp[g]⟩
   rw[C]at d;simp only[Mv.c]at d;simp[U.xB,g,y,D,d,br (n:=100000) (show i<100000 by omega) (by omega)]at B;subst B;exact .inl ⟨λ_=>C,_,rfl,by simp[g]⟩)
  (λe r g B=>by
   simp only[ab,ae]at g;simp[U.xB,g]at B;subst B;exact⟨_,rfl,by simp[g]⟩)
 clear ho;have P:∃i t,i<=l.length/\(∀j,(h:j<l.length)->j<i->fv l[j] m=true)/\(∀h:i<l.length,fv l[i] m=false)/\o=.code (.exit 0) t s0/\bB t [(0,.psl (l.map Mv.c)),(3,.aw m.c),(5,iV i)]:=by
  rcases hq with⟨i,y,Q,T,t,V,X⟩|⟨E,t,V,X⟩
  .refine⟨i,t,by omega,λj h hj=>Q j hj h,λh=>?_,V,X⟩;cases C:fv l[i] m
   .rfl
   exact absurd (λ_=>C) T
  exact⟨l.length,t,aV _,λj h _=>E j h h,λh=>by omega,V,X⟩
 obtain⟨i,t,y,Q,T,rfl,g⟩:=P;rw[GB l m i y Q T];simp only[ab,ae]at g;obtain⟨v1,s1,F1,Y,o1,f1,n1⟩:=XR.app (new:=(l.take i).map Mv.c) (Sz.map (f:=Mv.c) (λx=>rfl) _) (bI:=4398046511104) (by simp;omega);obtain⟨v2,s2,F2,Z,o2,f2,n2⟩:=o1.app (new:=[m.c]) (Sz.cons rfl Sz.nil) (bI:=4398046511104) (by simp;omega);obtain⟨v3,s3,F3,a3,o3,f3,n3⟩:=o2.app (new:=(l.drop i).map Mv.c) (Sz.map (f:=Mv.c) (λx=>rfl) _) (bI:=4398046511104) (by simp;omega);have z:cu s3 v3 4 F3 ((l.take i++m::l.drop i).map Mv.c):=by simpa using o3
 have H:List.take (l.length-i) (List.drop i (List.map Mv.c l))=List.drop i (List.map Mv.c l):=fD (by simp);have M:=mK (Sz.mv l);simp only[Mv.c]at Z;rw[Eo]at Y;rw[List.map_drop]at a3;by_cases u:i<l.length
 .have p:(i:Int)<l.length:=by omega
  have q:=ri l[i] m;by_cases O:l[i]=m
  .rw[dq O]at q;simp only[Mv.c]at q;rw[au (by rw[aX u,O])];simp[g,u,p,q,aa]
  rw[cK O]at q;simp only[Mv.c]at q;rw[ar (by rw[aX u];simpa using O)];simp[g,u,p,q,y,s0,M,H,Y,Z,a3];simpa using aY (z.vw (n:=14) (qk _))
 have p:¬(i:Int)<l.length:=by omega
 rw[ar (by rw[qz (by omega)];simp)];simp[g,p,y,s0,M,H,Y,Z,a3];simpa using aY (z.vw (n:=14) (qk _))
mutual
def MN:∀(v:HV),eo v=true->nn v=v
 |.fn _ _ _,_=>rfl
 |.agg l,h=>by simp only[eo]at h;simp only[nn,mS l h]
 |.cO l,h=>by simp only[eo]at h;simp only[nn,mS l h]
 |.aw l,h=>by simp only[eo]at h;simp only[nn,mS l h]
 |.psl l,h=>by simp only[eo]at h;simp only[nn,iW l h]
 |.ah,h=>by simp[eo]at h
 |.int _ _,_=>rfl
 |.bool _,_=>rfl
 |.str _,_=>rfl
 |.dE,_=>rfl
 |.gY,_=>rfl
 |.fS,_=>rfl
 |.fU,_=>rfl
 |.undef,_=>rfl
 |.ptr _ _,_=>rfl
 |.sl _ _ _ _,_=>rfl
 |.mp _,_=>rfl
 |.iK _,_=>rfl
def mS:∀(l:ai),dv l=true->oH l=l
 |[],_=>rfl
 |v::r,h=>by simp only[dv,aL]at h;simp only[oH,MN v h.1,mS r h.2]
def iW:∀(l:aP),eT l=true->qp l=l
 |[],_=>rfl
 |v::r,h=>by simp only[eT,aL]at h;simp only[qp,mS v h.1,iW r h.2]
end
def yx(f:Nat)(F:HF)(args l:ai)(v:HV)(s:HS)(g:U.prog f=some F)(j:qC LU f=true)(p:F.pu=true)(r:cI args=true)(t:dv args=false)(u:oH args=l)(c:dv l=true)(h:R (.call f l s0)=.val v s0):R (.call f args s)=.val v s:=by
 have h:=nP h trivial;have h:rF LU f l s0 (bG U.prog R f l s0)=.val v s0:=h;rw[gi j]at h;unfold bG at h;rw[g]at h;have h:(bif F.pu then cv F R l s0 else dO F R l s0)=.val v s0:=h;rw[p,cond_true]at h;unfold cv at h;rw[dU l c,cond_true,c,cond_true]at h;have d:kh F R l=some v:=by
  cases q:kh F R l with
  |none=>rw[q]at h;cases h
  |some y=>rw[q]at h;cases h;rfl
 refine dm ?_ trivial;show rF LU f args s (bG U.prog R f args s)=_;rw[gi j];unfold bG;rw[g];show(bif F.pu then cv F R args s else dO F R args s)=_;rw[p,cond_true];unfold cv;rw[r,cond_true,t,cond_false,u,d];rfl
def Iy(l:bE):HV:=if l=[]then .ah else .psl (l.map Mv.c)
def XW(l:bE)(d:l.length<=100000)(m:Mv)(s:HS):R (.call 115 [Iy l,.agg m.c] s)=.val (.psl ((kJ l m).map Mv.c)) s:=by
 unfold Iy
 split
 .rename_i h;subst h;exact yx 115 U.f157 _ [.psl [],.agg m.c] _ s rfl rfl rfl rfl rfl rfl (by simp) (XV [] (by simp) m s0)
 exact XV l d m s
def MO(l:bE)(m:Mv):kJ l m≠ []:=by cases l with|nil=>simp[kJ]|cons a r=>simp only[kJ];split<;>(try split)<;>simp
def MQ(l:bE)(m:Mv):Iy (kJ l m)=.psl ((kJ l m).map Mv.c):=by unfold Iy;rw[ar (MO l m)]
def Dr:∀(l:bE) (m:Mv),(kJ l m).length<=l.length+1
 |[],m=>by simp[kJ]
 |a::r,m=>by
  simp only[kJ]
  split
  .have:=Dr r m;simp;omega
  split<;>simp
def Ds:∀(l:bE) (m x:Mv),x∈kJ l m↔x=m∨x∈l
 |[],m,x=>by simp[kJ]
 |a::r,m,x=>by
  simp only[kJ]
  split
  .simp only[bk,Ds r m x];constructor
   .rintro(h|h|h)<;>simp[h]
   rintro(h|h|h)<;>simp[h]
  split
  .rename_i h;subst h;simp
  simp
def pO(es:bu):bE:=es.foldl (λo e=>kJ o e.m) []
def sr(es:bu)(e:Eg):pO (es++[e])=kJ (pO es) e.m:=by simp[pO]
def su(es:bu):(pO es).length<=es.length:=by
 rcases sv es with h|⟨r,e,h⟩
 .subst h;simp[pO]
 rw[h,tW,sr];have c:=su r;have d:=Dr (pO r) e.m;simp;omega
termination_by es.length
decreasing_by subst h;simp
def GC(es:bu)(m:Mv):m∈pO es↔∃e∈es,e.m=m:=by
 rcases sv es with h|⟨r,e,h⟩
 .subst h;simp[pO]
 rw[h,tW,sr,Ds,GC r m];simp only[l5,cr];constructor
 .rintro(h|⟨d,f,c⟩)
  .exact⟨e,.inr rfl,h.symm⟩
  exact⟨d,.inl f,c⟩
 rintro⟨d,f|rfl,c⟩
 .exact .inr ⟨d,f,c⟩
 exact .inl c.symm
termination_by es.length
decreasing_by subst h;simp
def fY(nx:List bu)(l:az):bu:=l.flatMap λi=>nx.getD i []
def Fz{nx:List bu}{l:az}{i:Nat}(c:i<l.length)(d:l[i]<nx.length):fY nx (l.take (i+1))=fY nx (l.take i)++nx[l[i]]:=by unfold fY;rw[eW c,uL];simp[KP,d]
def tX{nx:List bu}(c:∀r∈nx,r.length<=6000):∀(l:az),(fY nx l).length<=l.length*6000
 |[]=>by simp[fY]
 |i::r=>by
  have d:=tX c r;have:(nx.getD i []).length<=6000:=by rw[KP];cases h:nx[i]?with|none=>simp|some x=>simpa using c x (cE h)
  unfold fY at d ⊢;simp only[mU,bZ,aB];omega
def XX(nx:List bu)(C:∀r∈nx,r.length<=6000)(l:az)(O:l.length<=2)(E:∀i∈l,i<nx.length)(s:HS):
  R (.call 94 [.agg [.psl (nx.map oG),.psl [],.psl []],.psl (l.map nC)] s)=.val (.psl ((pO (fY nx l)).map Mv.c)) s:=by
 refine adf ?_;simp[U.VW];generalize q:bO R (.loop U.Bo) _ _=o;have y:=jd q l.length (λ_=>True) (λi=>[(1,.psl (l.map nC)),(2,.aw [.psl (nx.map oG),.psl [],.psl []]),(5,Iy (pO (fY nx (l.take i)))),(6,iV i)]) [(5,Iy (pO (fY nx l)))] 0 (λ_ _=>False) (by simp[fY,pO,Iy])
  (λi e r u f d=>by
   have z:(i:Int)<l.length:=by omega
   have g:=E _ (cb u);have H:=C _ (cb g);have p:=tX C (l.take i);rw[od]at p;simp only[ab,ae]at f;simp[U.Bo,f,z]at d;generalize q:bO R (.loop U.Bn) _ _=o at d;have y:=jd q nx[l[i]].length (λ_=>True) (λk=>[(1,.psl (l.map nC)),(2,.aw [.psl (nx.map oG),.psl [],.psl []]),(5,Iy (pO (fY nx (l.take i)++nx[l[i]].take k))),(6,iV i),(7,iV k)]) [(1,.psl (l.map nC)),(2,.aw [.psl (nx.map oG),.psl [],.psl []]),(5,Iy (pO (fY nx (l.take (i+1))))),(6,iV i)] 2 (λ_ _=>False) (by simp[f])
    (λk e r D f d=>by
     have B:(k:Int)<nx[l[i]].length:=by omega
     have j:=XW (pO (fY nx (l.take i)++nx[l[i]].take k)) (by
      have:=su (fY nx (l.take i)++nx[l[i]].take k);rw[bZ,od]at this;omega) nx[l[i]][k].m
     have t:Iy (pO (fY nx (l.take i)++nx[l[i]].take (k+1)))=.psl ((kJ (pO (fY nx (l.take i)++nx[l[i]].take k)) nx[l[i]][k].m).map Mv.c):=by rw[eW D,<-List.append_assoc,sr,MQ]
     simp only[ab,ae]at f;simp only[Mv.c]at j;generalize Iy (pO (fY nx (l.take i)++nx[l[i]].take k))=P at*;generalize kJ (pO (fY nx (l.take i)++nx[l[i]].take k)) nx[l[i]][k].m=Q at*;simp[U.Bn,f,u,g,D,B,j,br (n:=6000) (show k<6000 by omega) (by omega)]at d;subst d;exact .inl ⟨trivial,_,rfl,by simp[f,t]⟩)
    (λe r f d=>by
     simp only[ab,ae]at f;simp[U.Bn,f,u,g]at d;subst d;rw[Fz u g];exact⟨_,rfl,by simp[f]⟩)
   clear q;rcases y with⟨_,_,_,_,h⟩|⟨_,M,rfl,f⟩
   .exact h.elim
   simp only[ab,ae]at f;simp[f,br (n:=400) (show i<400 by omega) (by omega)]at d;subst d;exact .inl ⟨trivial,_,rfl,by simp[f]⟩)
  (λe r f d=>by
   simp only[ab,ae]at f;simp[U.Bo,f]at d;subst d;rw[mP]at f;exact⟨_,rfl,by simp[f]⟩)
 clear q;rcases y with⟨_,_,_,_,h⟩|⟨_,M,rfl,f⟩
 .exact h.elim
 simp only[ab,ae]at f;simp[f];unfold Iy
 split
 .rename_i h;rw[h];exact aY .ah
 simp[aa]
def im(aZ:cf)(m:Mv)(e:Eg):Bool:=decide (e.m=m)&&aZ.getD e.to false
def mV(row:bu)(of:bb)(aZ:cf)(m:Mv):Int:=match row.find? (im aZ m)with|some e=>of.getD e.to 0|none=> -1
def GD{α:Type}{p:α->Bool}:∀{l:List α} {i:Nat} (c:i<l.length),(∀j,(h:j<i)->p (l[j]'(by omega))=false)->p l[i]=true->l.find? p=some l[i]
 |[],i,c,_,_=>by simp at c
 |a::r,0,_,_,h=>by simp at h;simp[h]
 |a::r,i+1,c,d,f=>by have h0:=d 0 (by omega);simp only[tV]at h0;have g:=GD (l:=r) (i:=i) (by simpa using c) (λj h=>by have:=d (j+1) (by omega);simpa using this) (by simpa using f);simp[h0,g]
def H6{α:Type}{p:α->Bool}{l:List α}(h:∀i,(c:i<l.length)->p l[i]=false):l.find? p=none:=by rw[BQ];intro a d;obtain⟨i,c,rfl⟩:=eO.1 d;simp[h i c]
def XY(x:Fa)(O:bA x)(of:bb)(V:of.length=x.nx.length)(aZ:cf)(hu:aZ.length=x.nx.length)(i:Nat)(B:i<x.nx.length)(m:Mv)(s:HS):
  R (.call 138 [.agg x.c,.psl (of.map iC),.psl (aZ.map bC),iV i,.agg m.c] s)=.val (iV (mV x.nx[i] of aZ m)) s:=by
 refine adJ ?_;simp[U.We];generalize P:bO R (.loop U.tI) _ _=o;have X:=Od P (λ_=>True) trivial x.nx[i].length (λk=>∀h:k<x.nx[i].length,im aZ m x.nx[i][k]=false)
  (λk=>[(1,.psl (of.map iC)),(2,.psl (aZ.map bC)),(3,iV i),(5,.aw x.c),(9,.aw m.c),(11,iV k)]) [] 0
  (λk o=>∃h:k<x.nx[i].length,∃E s',o=.code .ret E s'/\look E 10=some (iV (of.getD (x.nx[i][k]).to 0))) (by simp)
  (λk e s r g _ q t=>by
   have z:(k:Int)<x.nx[i].length:=by omega
   have Y:=O.row B;have Z:=O.to _ (cb B) _ (cb g);have Q:=br (n:=6000) (show k<6000 by omega) (by omega);have f:=ri (x.nx[i][k]).m m;have p:aj (HS.mk (av (some (.cells (cP (x.nx[i][k]).c) 0 5 s.nx)) s.nx s.h) s.nx.succ (av (some [s.nx]) s.nx s.gr) s.ty).h s.nx=some (.cells (cP (x.nx[i][k]).c) 0 5 s.nx):=by simp
   generalize u:HS.mk (av (some (.cells (cP (x.nx[i][k]).c) 0 5 s.nx)) s.nx s.h) s.nx.succ (av (some [s.nx]) s.nx s.gr) s.ty=S1 at p;have hg:aZ.getD (x.nx[i][k]).to false=aZ[(x.nx[i][k]).to]'(by omega):=by rw[KP,aX (by omega)];rfl
   have H:of.getD (x.nx[i][k]).to 0=of[(x.nx[i][k]).to]'(by omega):=by rw[KP,aX (by omega)];rfl
   have C:(x.nx[i][k]).to<aZ.length:=by omega
   have M:(x.nx[i][k]).to<of.length:=by omega
   have d:im aZ m x.nx[i][k]=(decide ((x.nx[i][k]).m=m)&&aZ[(x.nx[i][k]).to]):=by unfold im;rw[hg]
   simp only[ab,ae]at q;simp only[Eg.c]at u p;simp only[Mv.c]at f;by_cases T:(x.nx[i][k]).m=m
   .rw[dq T]at f d;cases y:aZ[(x.nx[i][k]).to]
    .rw[y]at d;simp[U.tI,q,B,g,z,Q,aq,aA,an,u,p,f,C,y]at t;subst t;exact .inl ⟨λ_=>d,_,_,rfl,trivial,by simp[q]⟩
    rw[y]at d;simp[U.tI,q,B,g,z,aq,aA,an,u,p,f,C,M,y]at t;subst t;exact .inr ⟨λh=>(by rw[h g]at d;cases d),by simp,g,_,_,rfl,by rw[H];simp⟩
   rw[cK T]at f d;simp[U.tI,q,B,g,z,Q,aq,aA,an,u,p,f]at t;subst t;exact .inl ⟨λ_=>by rw[d];rfl,_,_,rfl,trivial,by simp[q]⟩)
  (λe s r _ q t=>by
   simp only[ab,ae]at q;simp[U.tI,q,B]at t;subst t;exact⟨_,_,rfl,trivial,by simp⟩)
 clear P;unfold mV;rcases X with⟨k,g,h1,h2,_,E,s',rfl,h3⟩|⟨D,E,s',rfl,_,_⟩
 .have hp:im aZ m x.nx[i][k]=true:=by
   cases h:im aZ m x.nx[i][k]
   .exact absurd (λ_=>h) h2
   rfl
  rw[GD g (λj hj=>h1 j hj (by omega)) hp];simp[h3,aa]
 rw[H6 (λk g=>D k g g)];simp[aa]
def fq(x:Fa)(of:bb)(aZ:cf)(a b:Nat):Bool:=
 decide (of.getD a 0=of.getD b 0)&&(pO (fY x.nx [a,b])).all λm=>decide (mV (x.nx.getD a []) of aZ m=mV (x.nx.getD b []) of aZ m)
def ix{α:Type}{l:List α}{i:Nat}(h:i<l.length)(d:α):l.getD i d=l[i]:=by rw[KP,aX h];rfl
def bA.rows{x:Fa}(c:bA x):∀r∈x.nx,r.length<=6000:=λr d=>by obtain⟨i,f,rfl⟩:=eO.1 d;exact c.row f
def ae3(x:Fa)(E:bA x)(of:bb)(y:of.length=x.nx.length)(aZ:cf)(V:aZ.length=x.nx.length)(a b:Nat)(P:a<x.nx.length)(Q:b<x.nx.length)(s:HS):
  R (.call 114 [.agg x.c,.psl (of.map iC),.psl (aZ.map bC),iV a,iV b] s)=.val (.bool (fq x of aZ a b)) s:=by
 refine adq ?_;have p:a<of.length:=by omega
 have q:b<of.length:=by omega
 unfold fq;rw[ix p,ix q,ix P,ix Q];by_cases g:of[a]=of[b]
 case neg=>rw[cK g];simp[U.Qr,p,q,g,aa]
 rw[dq g,j7];have z:=XX x.nx E.rows [a,b] (by simp) (by simp[P,Q]) s0;have Y:=su (fY x.nx [a,b]);have T:=tX E.rows [a,b];generalize pO (fY x.nx [a,b])=d at*;have f:∀s,R (.call 94 [.agg [.psl (x.nx.map oG),.ah,.ah],.psl [[iV a],[iV b]]] s)=.val (.psl (d.map Mv.c)) s:=λs=>by
  refine yx 94 U.f142 _ [.agg [.psl (x.nx.map oG),.psl [],.psl []],.psl [[iV a],[iV b]]] _ s rfl rfl rfl ?_ (by simp[dv,eo]) ?_ (by simp) z
  .have:=gF _ (pM x.nx);simp only[cI,cm,this,iA,jL]
  have:=iW _ (pM x.nx);simp only[oH,nn,this,qp]
 simp only[iV]at f;simp[U.Qr,p,q,g,f];generalize X:bO R (.loop U.xA) _ _=o;simp only[aB,aC]at T;have Z:=jd X d.length (λk=>∀h:k<d.length,mV x.nx[a] of aZ d[k]=mV x.nx[b] of aZ d[k])
  (λk=>[(1,.psl (of.map iC)),(2,.psl (aZ.map bC)),(3,iV a),(4,iV b),(5,.aw x.c),(11,.psl (d.map Mv.c)),(12,iV k)]) [] 0
  (λk o=>∃H,o=.code .ret H s0/\look H 10=some (.bool false)) (by simp)
  (λk e r j t u=>by
   have B:(k:Int)<d.length:=by omega
   have M:=XY x E of y aZ V a P d[k];have C:=XY x E of y aZ V b Q d[k];simp only[ab,ae]at t;simp only[Fa.c,Mv.c]at M C;by_cases O:mV x.nx[a] of aZ d[k]=mV x.nx[b] of aZ d[k]
   .rw[O]at M;simp[U.xA,t,j,B,M,C,br (n:=12000) (show k<12000 by omega) (by omega)]at u;subst u;exact .inl ⟨λ_=>O,_,rfl,by simp[t]⟩
   simp[U.xA,t,j,B,M,C,O]at u;subst u;exact .inr ⟨λh=>O (h j),by simp,_,rfl,by simp⟩)
  (λe r t u=>by
   simp only[ab,ae]at t;simp[U.xA,t]at u;subst u;exact⟨_,rfl,by simp⟩)
 clear X;rcases Z with⟨k,j,_,C,H,rfl,h3⟩|⟨D,H,rfl,_⟩
 .have:(d.all λm=>decide (mV x.nx[a] of aZ m=mV x.nx[b] of aZ m))=false:=by rw[JO];exact⟨d[k],cb j,by simpa using λh=>C λ_=>h⟩
  rw[this];simp[h3,aa]
 have:(d.all λm=>decide (mV x.nx[a] of aZ m=mV x.nx[b] of aZ m))=true:=by rw[fG];intro m hm;obtain⟨k,j,rfl⟩:=eO.1 hm;simpa using D k j j
 rw[this];simp[aa]
def gU{x:Fa}{of:bb}{aZ:cf}{a b:Nat}:fq x of aZ a b=true↔of.getD a 0=of.getD b 0/\∀m,mV (x.nx.getD a []) of aZ m=mV (x.nx.getD b []) of aZ m:=by
 unfold fq;simp only[aL,bY,fG];refine and_congr_right λ_=>⟨λh m=>?_,λh m _=>h m⟩
 by_cases d:m∈pO (fY x.nx [a,b])
 .exact h m d
 have c:∀r,(r=x.nx.getD a []∨r=x.nx.getD b [])->mV r of aZ m= -1:=by intro r g;unfold mV;rw[show r.find? (im aZ m)=none from BQ.2 λe j f=>?_];apply d;rw[GC];simp only[im,aL,bY]at f;refine⟨e,?_,f.1⟩;unfold fY;rcases g with rfl|rfl<;>simp[<-List.getD_eq_getElem?_getD,j]
 rw[c _ (.inl rfl),c _ (.inr rfl)]
def FB{x:Fa}{of:bb}{aZ:cf}(a:Nat):fq x of aZ a a=true:=gU.2 ⟨rfl,λ_=>rfl⟩
def rn{x:Fa}{of:bb}{aZ:cf}{a b:Nat}(h:fq x of aZ a b=true):fq x of aZ b a=true:=by obtain⟨c,d⟩:=gU.1 h;exact gU.2 ⟨c.symm,λm=>(d m).symm⟩
def uM{x:Fa}{of:bb}{aZ:cf}{a b c:Nat}(h:fq x of aZ a b=true)(k:fq x of aZ b c=true):fq x of aZ a c=true:=by obtain⟨d,f⟩:=gU.1 h;obtain⟨g,j⟩:=gU.1 k;exact gU.2 ⟨d.trans g,λm=>(f m).trans (j m)⟩
structure Cn(A:Nat->Nat->Bool)(n:Nat)(fs:az)(nt:bb)(i:Nat):Prop where
 len:nt.length=n
 fl:fs.length<=i
 fb:∀k,(h:k<fs.length)->fs[k]<i/\nt[fs[k]]?=some (k:Int)
 cl:∀j,j<i->∃k,nt[j]?=some ((k:Nat):Int)/\∃h:k<fs.length,A fs[k] j=true
 ap:∀k k',(h:k<fs.length)->(h':k'<fs.length)->A fs[k] fs[k']=true->k=k'
section
variable{A:Nat->Nat->Bool}{n i:Nat}{fs:az}{nt:bb}
def Cn.zero(h:nt.length=n):Cn A n [] nt 0:=⟨h,by simp,λk h=>by simp at h,λj h=>by omega,λk c h=>by simp at h⟩
def Cn.old(h:Cn A n fs nt i)(u:i<n){k:Nat}(p:k<fs.length)(q:A fs[k] i=true):Cn A n fs (nt.set i (k:Int)) (i+1):=by
 have r:=h.len;refine⟨by simp[r],by have:=h.fl;omega,λj f=>?_,λj f=>?_,h.ap⟩
 .obtain⟨g,c⟩:=h.fb j f;exact⟨by omega,by rw[jm (by omega)];exact c⟩
 by_cases d:j=i
 .subst d;exact⟨k,by rw[gK (by omega)],p,q⟩
 obtain⟨t,g,c⟩:=h.cl j (by omega);exact⟨t,by rw[jm (by omega)];exact g,c⟩
def Cn.new(h:Cn A n fs nt i)(H:i<n)(C:∀a,A a a=true)(D:∀a b,A a b=true->A b a=true)(z:∀k,(p:k<fs.length)->A fs[k] i=false):Cn A n (fs++[i]) (nt.set i (fs.length:Int)) (i+1):=by
 have E:=h.len;have d:∀k,(p:k<(fs++[i]).length)->(∃h:k<fs.length,(fs++[i])[k]=fs[k])∨(k=fs.length/\(fs++[i])[k]=i):=by
  intro k p;by_cases c:k<fs.length
  .exact .inl ⟨c,yy c⟩
  simp only[bZ,dB]at p;have:k=fs.length:=by omega
  subst this;exact .inr ⟨rfl,by simp⟩
 refine⟨by simp[E],by have:=h.fl;simp;omega,λk p=>?_,λj M=>?_,λk q p g r=>?_⟩
 .rcases d k p with⟨c,e⟩|⟨rfl,e⟩
  .obtain⟨B,u⟩:=h.fb k c;rw[e];exact⟨by omega,by rw[jm (by omega)];exact u⟩
  rw[e];exact⟨by omega,by rw[gK (by omega)]⟩
 .by_cases y:j=i
  .subst y;refine⟨fs.length,by rw[gK (by omega)],by simp,?_⟩;simp only[List.getElem_concat_length];exact C j
  obtain⟨q,B,g,u⟩:=h.cl j (by omega);exact⟨q,by rw[jm (by omega)];exact B,by simp;omega,by rw[yy g];exact u⟩
 rcases d k p with⟨c,e⟩|⟨rfl,e⟩
 .rcases d q g with⟨f,t⟩|⟨rfl,t⟩
  .rw[e,t]at r;exact h.ap k q c f r
  rw[e,t,z k c]at r;cases r
 rcases d q g with⟨f,t⟩|⟨rfl,t⟩
 .rw[e,t]at r;have:=D _ _ r;rw[z q f]at this;cases this
 rfl
def Cn.iff(h:Cn A n fs nt n)(f:∀a b,A a b=true->A b a=true)(d:∀a b c,A a b=true->A b c=true->A a c=true){i j:Nat}(r:i<n)(t:j<n):nt[i]?=nt[j]?↔A i j=true:=by
 obtain⟨k,u,y,g⟩:=h.cl i r;obtain⟨p,z,B,q⟩:=h.cl j t;rw[u,z];constructor
 .intro C;have:k=p:=by have:=lr C;omega
  subst this;exact d _ _ _ (f _ _ g) q
 intro D;have:=h.ap k p y B (d _ _ _ (d _ _ _ g D) (f _ _ q));rw[this]
end
def JU:∀(n:Nat) (l:az),(∀k,k<n->k∈l)->n<=l.length
 |0,_,_=>fN _
 |n+1,l,d=>by
  obtain⟨p,f,g⟩:=eO.1 (d n (by omega));have j:=JU n (l.eraseIdx p) (λk t=>by
   obtain⟨q,r,c⟩:=eO.1 (d k (by omega));rw[R9];exact⟨q,λh=>by subst h;omega,by rw[aX r,c]⟩)
  rw[Sa f]at j;omega
def Sc{n:Nat}{l:az}(z:l.length<=n)(g:∀k,k<n->k∈l){i j:Nat}(p:i<l.length)(r:j<l.length)(t:l[i]=l[j]):i=j:=by
 apply A3;intro f;have:=JU n (l.eraseIdx i) (λk u=>by
  obtain⟨q,y,c⟩:=eO.1 (g k u);rw[R9];by_cases d:q=i
  .subst d;exact⟨j,λh=>f h.symm,by rw[aX r,<-t,c]⟩
  exact⟨q,d,by rw[aX y,c]⟩)
 rw[Sa p]at this;omega
structure Oe(n:Nat)(of:bb)(fs:az):Prop where
 len:of.length=n
 cl:∀j,j<n->∃k,of[j]?=some ((k:Nat):Int)/\k<fs.length
 fb:∀k,(h:k<fs.length)->fs[k]<n/\of[fs[k]]?=some (k:Int)
def Cn.Sd{A:Nat->Nat->Bool}{n:Nat}{fs:az}{nt:bb}(h:Cn A n fs nt n):Oe n nt fs:=
 ⟨h.len,λj c=>by obtain⟨k,d,f,_⟩:=h.cl j c;exact⟨k,d,f⟩,h.fb⟩
def Oe.GF{n:Nat}{of nt:bb}{fs f:az}(h:Oe n of fs)(k:Oe n nt f)(t:∀i j:Nat,i<n->j<n->nt[i]?=nt[j]?->of[i]?=of[j]?):
  fs.length<=f.length/\(f.length=fs.length->∀i j:Nat,i<n->j<n->of[i]?=of[j]?->nt[i]?=nt[j]?):=by
 have B:∀p,p<fs.length->p∈f.map λg=>(of.getD g 0).toNat:=by intro p O;obtain⟨C,P⟩:=h.fb p O;obtain⟨c,r,q⟩:=k.cl _ C;obtain⟨u,y⟩:=k.fb c q;have:=t _ _ u C (by rw[y,r]);rw[cU];refine⟨f[c],cb q,?_⟩;rw[KP,this,P];simp
 have hlen:=JU fs.length _ B;rw[bz]at hlen;refine⟨hlen,λY i j D E z=>?_⟩;obtain⟨c,r,q⟩:=k.cl i D;obtain⟨d,H,M⟩:=k.cl j E;obtain⟨u,y⟩:=k.fb c q;obtain⟨Q,T⟩:=k.fb d M;have V:=t _ _ u D (by rw[y,r]);have X:=t _ _ Q E (by rw[T,H]);have:=Sc (l:=f.map λg=>(of.getD g 0).toNat) (n:=fs.length) (by simp;omega) B (i:=c) (j:=d) (by simpa using q) (by simpa using M) (by
  simp only[BR,KP,V,X,z])
 subst this;rw[r,H]
structure Bis(x:Fa)(aZ:cf)(B:Nat->aG):Prop where
 fi:∀a b,B a b->a<x.nx.length/\b<x.nx.length/\x.fi[a]?=x.fi[b]?/\aZ[a]?=aZ[b]?
 st:∀a b,B a b->∀m,match(x.nx.getD a []).find? (im aZ m),(x.nx.getD b []).find? (im aZ m)with|none,none=>True|some e,some e'=>B e.to e'.to|_,_=>False
def JV(x:Fa)(aZ:cf)(i:Nat):Int:=if x.fi.getD i false then 2 else if aZ.getD i false then 1 else 0
structure Of(x:Fa)(aZ:cf)(of:bb):Prop where
 len:of.length=x.nx.length
 ge:∀(i:Nat) (c:Int),of[i]?=some c->0<=c
 ae4:∀i j:Nat,i<x.nx.length->j<x.nx.length->of[i]?=of[j]?->JV x aZ i=JV x aZ j
 coarse:∀B,Bis x aZ B->∀i j:Nat,B i j->of[i]?=of[j]?
def lY{α:Type}{l:List α}{i j:Nat}(h:l[i]?=l[j]?)(d:α):l.getD i d=l.getD j d:=by rw[KP,KP,h]
def Of.next{x:Fa}{aZ:cf}{of nt:bb}{fs:az}(h:Of x aZ of)(r:Cn (fq x of aZ) x.nx.length fs nt x.nx.length):Of x aZ nt/\∀i j:Nat,i<x.nx.length->j<x.nx.length->nt[i]?=nt[j]?->of[i]?=of[j]?:=by
 have f:=λ{i j}=>r.iff (λa b=>rn) (λa b c=>uM) (i:=i) (j:=j)
 have g:∀i j:Nat,i<x.nx.length->j<x.nx.length->nt[i]?=nt[j]?->of[i]?=of[j]?:=by intro i j d p u;have:=(gU.1 ((f d p).1 u)).1;rw[ix (by rw[h.len];exact d),ix (by rw[h.len];exact p)]at this;rw[aX (by rw[h.len];exact d),aX (by rw[h.len];exact p),this]
 refine⟨⟨r.len,λi c y=>?_,λi j d p u=>h.ae4 i j d p (g i j d p u),λB t i j q=>?_⟩,g⟩
 .have d:i<x.nx.length:=by rw[<-r.len];exact(aU.1 y).1
  obtain⟨k,D,_⟩:=r.cl i d;rw[D]at y;cases y;omega
 obtain⟨d,p,_,_⟩:=t.fi i j q;refine(f d p).2 (gU.2 ⟨lY (h.coarse B t i j q) 0,λm=>?_⟩);have gw:=t.st i j q m;unfold mV
 split at gw
 .rename_i z C;rw[z,C]
 .rename_i e E z C;rw[z,C];exact lY (h.coarse B t _ _ gw) 0
 exact gw.elim
structure UO(x:Fa)(aZ:cf)(r:bb):Prop where
 cls:Of x aZ r
 st:∀i j:Nat,i<x.nx.length->j<x.nx.length->r[i]?=r[j]?->∀m,mV (x.nx.getD i []) r aZ m=mV (x.nx.getD j []) r aZ m
def Of.ae5{x:Fa}(O:bA x){aZ:cf}{of nt:bb}{fs H:az}(h:Of x aZ of)(P:Oe x.nx.length of fs)(u:Cn (fq x of aZ) x.nx.length H nt x.nx.length)(Q:H.length=fs.length):UO x aZ nt:=by
 obtain⟨T,V⟩:=h.next u
 obtain⟨_,y⟩:=P.GF u.Sd V;have y:=y Q;have q:=λ{i j}=>u.iff (λa b=>rn) (λa b c=>uM) (i:=i) (j:=j)
 refine⟨T,λi j r z B m=>?_⟩;have d:=(gU.1 ((q r z).1 B)).2 m;have f:∀(i:Nat) (e:Eg),i<x.nx.length->(x.nx.getD i []).find? (im aZ m)=some e->e.to<x.nx.length/\0<=of.getD e.to 0:=by intro i e r X;have M:=Ap X;rw[ix r]at M;have g:=O.to _ (cb r) e M;refine⟨g,?_⟩;rw[ix (by rw[h.len];exact g)];exact h.ge e.to _ (aX (by rw[h.len];exact g))
 unfold mV at d ⊢;cases t:(x.nx.getD i []).find? (im aZ m)with
 |none=>cases p:(x.nx.getD j []).find? (im aZ m)with|none=>rfl|some C=>rw[t,p]at d;have:=(f j C z p).2;simp only at d;omega
 |some e=>obtain⟨D,Y⟩:=f i e r t;cases p:(x.nx.getD j []).find? (im aZ m)with|none=>rw[t,p]at d;simp only at d;omega|some C=>obtain⟨E,Z⟩:=f j C z p;rw[t,p]at d;simp only at d ⊢;refine lY (y _ _ D E ?_) 0;rw[ix (by rw[h.len];exact D),ix (by rw[h.len];exact E)]at d;rw[aX (by rw[h.len];exact D),aX (by rw[h.len];exact E),d]
def Og(s:HS):R (.call 6 [] s)=.val (.bool true) s:=RM 6 s rfl rfl rfl rfl
def Aq(i:Nat)(id arg:Int):∀(ps:se) (j:Nat),(BN i j ps).find? (eC id arg)=if id=i+1/\(j:Int)+1<=arg/\arg<=j+ps.length then(ps[(arg-1-j).toNat]?).map (λb=>⟨id,arg,b,true⟩)else none
 |[],j=>by rw[BN,ar (by simp;omega)];rfl
 |b::r,j=>by
  have d:=Aq i id arg r (j+1);rw[BN,tY,d];by_cases h:eC id arg ⟨(i:Int)+1,(j:Int)+1,b,true⟩=true
  .rw[h];simp[eC]at h;obtain⟨f,g⟩:=h;simp only[aB];rw[au (by omega),show(arg-1-(j:Int)).toNat=0 by omega];simp[f,g]
  have p:eC id arg ⟨(i:Int)+1,(j:Int)+1,b,true⟩=false:=by simpa using h
  rw[p];simp[eC]at h;simp only[aB];by_cases c:id=(i:Int)+1/\((j+1:Nat):Int)+1<=arg/\arg<=((j+1:Nat):Int)+r.length
  .rw[au c,au (by omega),show(arg-1-(j:Int)).toNat=(arg-1-((j+1:Nat):Int)).toNat+1 by omega];simp
  rw[ar c,ar (by omega)]
def As(jumps:Bool)(id arg:Int):∀(ids:uJ) (i:Nat),(zA jumps i ids).find? (eC id arg)=if(i:Int)+1<=id/\id<=i+ids.length then
      match ids[(id-1-i).toNat]?with|none=>none|some t=>if arg=0 then some ⟨id,0,t.res,jumps||decide (0<t.ps.length)⟩else if 1<=arg/\arg<=t.ps.length then(t.ps[(arg-1).toNat]?).map (λb=>⟨id,arg,b,true⟩)else none
    else none
  |[],i=>by rw[zA,ar (by simp;omega)];rfl
  |t::r,i=>by
    have g:=As jumps id arg r (i+1);rw[zA,tY,List.find?_append,Aq,g];simp only[aB];by_cases hid:id=i+1
    . rw[au (show(i:Int)+1<=id/\id<=i+((r.length+1:Nat):Int) by omega),show(id-1-(i:Int)).toNat=0 by omega]
      rw[ar (show¬(((i+1:Nat):Int)+1<=id/\id<=((i+1:Nat):Int)+r.length) by omega)];simp only[BO,Option.or_none];by_cases d:arg=0
      . subst d
        simp[eC,hid]
      have c:eC id arg ⟨(i:Int)+1,0,t.res,jumps||decide (0<t.ps.length)⟩=false:=by simp[eC];omega
      rw[c,ar d];simp only[hid,true_and,Se,Int.zero_add,Int.sub_zero]
    have c:eC id arg ⟨(i:Int)+1,0,t.res,jumps||decide (0<t.ps.length)⟩=false:=by simp[eC];omega
    rw[c,ar (show¬(id=(i:Int)+1/\((0:Nat):Int)+1<=arg/\arg<=((0:Nat):Int)+t.ps.length) by omega)];simp only[Option.none_or];by_cases f:((i+1:Nat):Int)+1<=id/\id<=((i+1:Nat):Int)+r.length
    . rw[au f,au (by omega),show(id-1-(i:Int)).toNat=(id-1-((i+1:Nat):Int)).toNat+1 by omega]
      simp
    rw[ar f,ar (by omega)]
def BS(a:Ar)(id arg:Int):j3 a id arg=(dC a id arg).map (λg=>⟨id,arg,g.1,g.2⟩):=by
 unfold j3 uK dC;rw[tY,As];by_cases h:id=0/\arg=0
 .rw[au h];obtain⟨rfl,rfl⟩:=h;simp[eC]
 have j:eC id arg ⟨0,0,a.root,a.jumps⟩=false:=by simp[eC];omega
 rw[j,ar h];simp only[Se,Int.zero_add,Int.sub_zero];by_cases c:1<=id/\id<=(a.ids.length:Int)
 .rw[au c,au c];cases a.ids[(id-1).toNat]?with|none=>rfl|some t=>
   simp only;by_cases f:arg=0
   .subst f;simp;cases t.ps<;>simp
   rw[ar f,ar f];by_cases d:1<=arg/\arg<=(t.ps.length:Int)
   .rw[au d,au d,Option.map_map];rfl
   rw[ar d,ar d];rfl
 rw[ar c,ar c];rfl
def tZ(a:Ar)(m:Mv):MM a m=gT a m:=by unfold MM gT cG lX;rw[BS];cases dC a m.id m.arg with|none=>simp|some c=>simp[nS]
def Dt{a:Ar}{id arg:Int}{c:Bs×Bool}(h:dC a id arg=some c):0<=id/\0<=arg/\(0<arg->0<id):=by
 unfold dC at h
 split at h
 .rename_i h0;omega
 split at h
 .rename_i d
  split at h
  .cases h
  split at h
  .omega
  split at h
  .omega
  cases h
 cases h
def fR{a:Ar}{m:Mv}(h:gT a m=true):0<=m.id/\0<=m.arg/\(0<m.arg->0<m.id)/\(m.kind=1∨m.kind=2∨m.kind=3)/\(m.kind=3-> -1<=m.n):=by
 obtain⟨b,e,c⟩:=rk h;obtain⟨d,f,g⟩:=Dt c;unfold gT cG lX at h;rw[c]at h;simp only[dX,pK,bY,bk,l5,cU]at h;refine⟨d,f,g,?_⟩;rcases h with(h|⟨k,_,h⟩)|(h|⟨k,_,h⟩)
 .rw[h];simp
 .rw[<-h];simp[Dp]
 .split at h
  .simp at h;rw[h];simp
  cases h
 rw[<-h];simp[pJ];try omega
def sw{a:Ar}{m:Mv}(h:gT a m=true):dS m= !jR m:=by obtain⟨_,_,_,c,_⟩:=fR h;unfold dS jR;rcases c with c|c|c<;>simp[c]
structure FC(t:Tk)(x:Wk):Prop where
 e:t.x=x
 f:t.force=cH x.w
 has:∀m∈x.w,gT x.a m=true
 sj:(x.op.length:Int)<=x.sj
def JW{x:Wk}{q:Mv}(h:mO x=some q):q∈x.w:=by
 unfold mO at h
 split at h
 .cases h
 exact cE h
def FC.can{t:Tk}{x:Wk}(h:FC t x)(P:yq x){m:Mv}(z:gT x.a m=true):XN t m=ju x m:=by
 obtain⟨g,Z,force⟩:=t;obtain⟨rfl,Q,c,_⟩:=h;simp only at Q P z c ⊢;obtain⟨m1,m2,m3,m4,T⟩:=fR z;have r:=sw z;unfold XN ju;simp only[z,j7];by_cases u:g.w=[]
 .have dA:g.op=[]:=ja (by have:=P.Oc;rw[u]at this;simpa using this);have D:mO g=none:=by unfold mO;rw[dA];rfl
  rw[D,au u,r];simp only[u,UN,eV,j7];by_cases h0:m.id=0
  .have:m.arg=0:=by omega
   simp[h0,this]
  simp[h0]
 rw[ar u];cases D:mO g with
 |none=>simp[u]
 |some q=>
  obtain⟨q1,q2,V,q4,q5⟩:=fR (c q (JW D));have X:jR m=true->dH m=false->(m.n<=0↔m.n=0):=by
   simp only[jR,dH,bY,zV];intro B j;have:=T B;have d:m.n≠ -1:=λd=>j ⟨B,d⟩
   omega
  simp only[r,<-Q];cases C:jR m
  .have E:qq q m=false:=by unfold qq;simp only[jR,zV]at C;simp[C]
   simp only[E,FD,ua,df,bD,bp];rw[FE force];cases Y:(g.lost||force)
   .simp only[df,bD,Ix,Le];by_cases B:0<q.id<;>by_cases j:q.arg=0<;>simp[B,j];rw[qy];simp;constructor
    .rintro⟨⟨H,d⟩,M⟩;exact⟨M,d⟩
    rintro⟨M,d⟩;exact⟨⟨by omega,d⟩,M⟩
   simp
  have O:m.kind=3:=by simpa[jR]using C
  have y:qq q m=(UN m q.id q.arg&&(decide (q.kind=1)||decide (m.n<=0))):=by unfold qq UN;rw[qy];simp[O,and_assoc]
  simp only[bp,mB,df,bD,y];cases ha:UN m q.id q.arg
  .simp
  unfold XM;simp only[j7];rw[FE force];cases Y:(g.lost||force)
  .simp only[df,bD];cases p:dH m
   .have:=X C p;simp only[df,false_and,bD];rw[qy];simp[this]
   have f:m.n= -1:=by simp[dH]at p;exact p.2
   simp only[f,true_and,bp,Ix,Le];by_cases j:q.arg=0
   .simp[j]
   have H:0<q.arg:=by omega
   have d:=V H;simp[j,H,d]
  simp only[bp];cases p:dH m
  .simp
  have f:m.n= -1:=by simp[dH]at p;exact p.2
  simp[f]
def j4(w:bE)(m:Mv):cH (w++[m])=(dH m&&decide (0<m.arg)):=by unfold cH;simp
def FC.step{t:Tk}{x:Wk}(h:FC t x)(X:yq x){m:Mv}(u:ju x m=true):FC (R5 t m) (dL x m):=by
 have y:=yr u;have q:=sw y;obtain⟨Z,m2,P,m4,m5⟩:=fR y;obtain⟨c,fo,force⟩:=t;obtain⟨rfl,Q,g,j⟩:=h;simp only at Q g j y u X;have T:∀z∈c.w++[m],gT c.a z=true:=by
  intro z d;rcases l5.1 d with d|d
  .exact g z d
  simp at d;subst d;exact y
 cases r:jR m
 .have f:dS m=true:=by rw[q,r];rfl
  have Y:=JS r;have B:(if Ix m then(0:Int)else if Le m then R4 c else-1)=if 0<m.arg then((c.op.getLastD 0:Nat):Int)else if 0<m.id then 0 else-1:=by
   by_cases p:0<m.arg
   .have C:=P p;have D:¬m.arg=0:=by omega
    have dA:c.op≠ []:=by
     by_cases V:c.w=[]
     .have:=(nR u V).1;omega
     exact vS u V
    simp only[Ix,Le,p,C,D,eV,kY,yz,jL,bp,df,bD];unfold R4;rcases sv c.op with E|⟨k,n,E⟩
    .exact absurd E dA
    rw[E];simp
   have H:m.arg=0:=by omega
   by_cases C:0<m.id<;>simp[Ix,Le,H,C]
  unfold R5 dL;simp only[r,f,df,bD,bp,B];refine⟨rfl,?_,T,?_⟩
  .simp only[j4,Y,FD]
  simp only[bZ,dB];omega
 have f:dS m=false:=by rw[q,r];rfl
 have M:(c.lost||dH m&&Ix m&& !force)=(c.lost||dH m&&decide (0<m.id)&&decide (m.arg=0)&& !cH c.w):=by rw[<-Q];unfold Ix;simp only[BF]
 have O:max c.sj (c.op.dropLast.length:Int)=c.sj:=by rw[Sf];omega
 unfold R5 dL;simp only[r,f,df,bD,bp,M,O];refine⟨rfl,?_,T,?_⟩
 .simp only[j4];unfold Le;by_cases p:0<m.arg
  .simp[p,P p]
  simp[p]
 simp only[Sf];omega
def ahG:∀(w:bE) (t:Tk) (x:Wk),FC t x->yq x->x.w.length+w.length<=400->(agZ t w).x=(gn x w).1/\(agZ t w).x.w.length=x.w.length+(gn x w).2
 |[],t,x,h,_,_=>⟨h.e,by simp only[agZ,gn,h.e,iB]⟩
 |m::r,t,x,h,g,u=>by
  simp only[aB]at u;simp only[agZ,gn,tZ,h.e];by_cases j:gT x.a m=true
  .rw[j,h.can g j,j7];by_cases d:ju x m=true
   .rw[d];simp only[bp];have dA:dS m=false->x.op≠ []:=λy=>by
     by_cases q:x.w=[]
     .have:=(nR d q).2;rw[y]at this;cases this
     exact vS d q
    have p:=ahG r (R5 t m) (dL x m) (h.step g d) (g.take (by omega) dA) (by rw[MK];simp;omega);rw[MK,bZ,dB]at p;exact⟨p.1,by rw[p.2];omega⟩
   have c:ju x m=false:=by simpa using d
   rw[c];exact⟨h.e,by simp[h.e]⟩
  have f:gT x.a m=false:=by simpa using j
  have c:ju x m=false:=by unfold ju;rw[f];rfl
  rw[f,c];exact⟨h.e,by simp[h.e]⟩
def FC.zero(a:Ar):FC (tT a) (tU a):=⟨rfl,rfl,by simp[tU],by simp[tU]⟩
def ahh(a:Ar)(ok:fz a)(w:bE):aha a w=(Gz a w).2:=by
 unfold aha Gz;by_cases c:aQ a=0
 .by_cases d:w.length<=400
  .have h:=ahG w (tT a) (tU a) (FC.zero a) (yq.zero ok c) (by simp[tU];omega);have f:=h.2;rw[show(tU a).w.length=0 from rfl,bn]at f;rw[f];by_cases g:(gn (tU a) w).2<w.length<;>simp[c,d,g,show¬400<w.length by omega]
  rw[au c,ar d,ar (by simp[c]),au (by omega)]
 rw[ar c,au c]
def ae6(w:bE)(c:bb):Prop:=∀i m,w[i]?=some m->0<m.id->¬(m.arg=0/\m.kind≠3)->∃(j:Nat) (q:Mv),c[i]?=some (j:Int)/\j<i/\w[j]?=some q/\q.id=m.id/\q.kind≠3
structure Inv(x:Wk):Prop where
 js:ae6 x.w x.js
 op:∀n∈x.op,∃q,x.w[n]?=some q/\q.kind≠3
def Du{α:Type}{l:List α}{y:α}{i:Nat}{z:α}(h:(l++[y])[i]?=some z):(i<l.length/\l[i]?=some z)∨(i=l.length/\z=y):=by
 rw[JM]at h
 split at h
 .rename_i c;exact .inl ⟨c,h⟩
 rename_i c;obtain⟨f,d⟩:=aU.1 h;simp only[dB]at f;have h0:i-l.length=0:=by omega
 simp[h0]at d;exact .inr ⟨by omega,d.symm⟩
def lz{α:Type}{l:List α}{y z:α}{i:Nat}(h:l[i]?=some z):(l++[y])[i]?=some z:=by rw[dD (aU.1 h).1];exact h
def Inv.step{x:Wk}(h:Inv x)(Y:yq x)(Z:∀m∈x.w,gT x.a m=true){m:Mv}(c:ju x m=true):Inv (dL x m):=by
 have M:=yr c;have D:=sw M;obtain⟨m1,m2,m3,m4,m5⟩:=fR M;have E:=Y.jsl;have hold:∀(y:Int),∀i g,i<x.w.length->x.w[i]?=some g->0<g.id->¬(g.arg=0/\g.kind≠3)->∃(j:Nat) (q:Mv),(x.js++[y])[i]?=some (j:Int)/\j<i/\(x.w++[m])[j]?=some q/\q.id=g.id/\q.kind≠3:=by intro y i g O h1 H B;obtain⟨j,q,g1,g2,g3,g4,g5⟩:=h.js i g h1 H B;exact⟨j,q,lz g1,g2,lz g3,g4,g5⟩
 have u:x.op≠ []->∃n q,x.op.getLastD 0=n/\x.w[n]?=some q/\q.kind≠3/\mO x=some q/\n<x.w.length:=by
  intro ho;rcases sv x.op with f|⟨k,n,f⟩
  .exact absurd f ho
  obtain⟨q,C,p⟩:=h.op n (by rw[f];simp);exact⟨n,q,by rw[f];simp,C,p,by unfold mO;rw[f];simpa using C,Y.op n (by rw[f];simp)⟩
 cases p:jR m
 .have d:dS m=true:=by rw[D,p];rfl
  have r:m.kind≠3:=by simpa[jR]using p
  unfold dL;rw[au d];refine⟨?_,?_⟩
  .intro i g z H B;rcases Du z with⟨O,z⟩|⟨rfl,rfl⟩
   .exact hold _ i g O z H B
   have ha:0<g.arg:=by
    have:g.arg≠0:=λh0=>B ⟨h0,r⟩
    omega
   have t:x.w≠ []:=λt=>by have:=(nR c t).1;omega
   obtain⟨n,q,P,Q,T,V,X⟩:=u (vS c t);refine⟨n,q,?_,X,lz Q,?_,T⟩
   .simp only[au ha,P];rw[iZ (by omega),E];simp
   unfold ju at c;rw[ar t,V,M]at c;simp only[j7]at c
   split at c
   .simp[qq,r]at c
   split at c
   .simp at c;exact c.1.symm
   simp at c;omega
  intro n f;rcases l5.1 f with f|f
  .obtain⟨q,C,p⟩:=h.op n f;exact⟨q,lz C,p⟩
  simp at f;subst f;exact⟨m,by simp,r⟩
 have d:dS m=false:=by rw[D,p];rfl
 have r:m.kind=3:=by simpa[jR]using p
 have t:x.w≠ []:=λt=>by have:=(nR c t).2;rw[d]at this;cases this
 obtain⟨n,q,P,Q,T,V,X⟩:=u (vS c t);have hid:q.id=m.id:=by
  unfold ju at c;rw[ar t,V,M]at c;simp only[j7,d,df,bD]at c
  split at c
  .simp[qq]at c;exact c.1.1.symm
  split at c
  .simp[qq]at c;exact c.1.1.1.symm
  simp[qq]at c;exact c.1.symm
 unfold dL;rw[d];simp only[df,bD];refine⟨?_,?_⟩
 .intro i g z H B;rcases Du z with⟨O,z⟩|⟨rfl,rfl⟩
  .exact hold _ i g O z H B
  refine⟨n,q,?_,X,lz Q,hid,T⟩;rw[P];simp only;rw[iZ (by omega),E];simp
 intro k f;obtain⟨q,C,p⟩:=h.op k ((BM _).subset f);exact⟨q,lz C,p⟩
def Sg(a:Ar)(id:Int):Ar:=match a.ids[(id-1).toNat]?with|none=>⟨[],⟨false,0⟩,false⟩|some t=>⟨t.ps.map (λb=>⟨[],b⟩),t.res,a.jumps|| !t.ps.isEmpty⟩
def Au:∀(v:bE) (x y:Wk) (m:Mv),gn x v=(y,v.length)->ju y m=true->gn x (v++[m])=(dL y m,v.length+1)
 |[],x,y,m,h,c=>by simp only[gn,gj]at h;obtain⟨rfl,_⟩:=h;simp[gn,c]
 |n::v,x,y,m,h,c=>by
  simp only[gn,aB]at h;by_cases d:ju x n=true
  .rw[au d,gj]at h;have f:=Au v (dL x n) y m (by rw[<-h.1];exact ahv rfl (by have:=h.2;simp only;omega)) c;simp only[bo,gn,au d,f,aB]
  rw[ar d,gj]at h;omega
def JX(a:Ar)(v:bE)(y:Wk):Prop:=gn (tU a) v=(y,v.length)
def JX.snoc{a:Ar}{v:bE}{y:Wk}{m:Mv}(h:JX a v y)(c:ju y m=true):JX a (v++[m]) (dL y m):=by unfold JX;rw[Au v _ y m h c];simp
def JX.nil(a:Ar):JX a [] (tU a):=rfl
def JY:∀(v:bE) (x:Wk),(gn x v).1.w=x.w++v.take (gn x v).2/\(gn x v).1.a=x.a
 |[],x=>by simp[gn]
 |m::r,x=>by
  rw[gn]
  split
  .obtain⟨c,d⟩:=JY r (dL x m);rw[MK]at c;rw[BL]at d;simp[c,d]
  simp
def JX.w{a:Ar}{v:bE}{y:Wk}(h:JX a v y):y.w=v/\y.a=a:=by obtain⟨c,d⟩:=JY v (tU a);rw[h]at c d;simpa[tU]using And.intro c d
def vn{W:bE}{i:Nat}(d:i<=W.length):cH (W.take i)=sk W i:=by
 cases i with
 |zero=>rfl
 |succ j=>
  have c:j<W.length:=by omega
  rw[eW c,j4];simp[sk,aX c]
section
variable(a:Ar)(id:Int)(W:bE)
def jv(cs:ep)(k q:Nat)(y:Wk):Prop:=∃c,cs[k]?=some c/\c.head?=some q/\JX (Sg a id) (jA W c) y
def InP(y:Wk)(c d:Mv):Prop:=∃j,y.op=[0,j]/\y.w[0]?=some (rb c)/\y.w[j]?=some (rb d)/\y.lost=false
def InQ(y:Wk)(c:Mv)(f:Bool):Prop:=y.op=[0]/\y.w[0]?=some (rb c)/\y.lost=f
def MR(of:bb)(cs:ep)(f:Nat×Nat):Prop:=∃c d,W[f.1]?=some c/\W[f.2]?=some d/\d.id=c.id/\0<c.id/\c.arg=0/\0<d.arg/\
 (c.id=id->∃(k:Nat) (y:Wk),of[f.1]?=some (k:Int)/\of[f.2]?=some (k:Int)/\jv a id W cs k f.1 y/\InP y c d)
def XZ(of:bb)(cs:ep)(d:Bool)(q:Nat):Prop:=∃c,W[q]?=some c/\0<c.id/\c.arg=0/\
 (c.id=id->∃(k:Nat) (y:Wk),of[q]?=some (k:Int)/\jv a id W cs k q y/\InQ y c d)
def ae7(F:List (Nat×Nat))(t:bL):az:=0::F.flatMap (λf=>[f.1,f.2])++t.toList
structure PI(x:Wk)(of:bb)(cs:ep)(F:List (Nat×Nat))(t:bL):Prop where
 op:x.op=ae7 F t
 srt:x.op.Pairwise (· < ·)
 root:∃m,W[0]?=some m/\m.id=0
 fr:∀f∈F,MR a id W of cs f
 top:∀q,t=some q->XZ a id W of cs (cH x.w) q
def FF(cs:ep):Prop:=∀c∈cs,c≠ []/\∃y,JX (Sg a id) (jA W c) y
end
section
variable{a:Ar}{id:Int}{W:bE}
def BT(c:az)(i:Nat){m:Mv}(d:W[i]?=some m):jA W (c++[i])=jA W c++[rb m]:=by unfold jA;rw[eU,List.map_singleton,KP,d];rfl
def jv.snoc{cs:ep}{k q:Nat}{y:Wk}(h:jv a id W cs k q y)(d:az):jv a id W (cs++[d]) k q y:=by obtain⟨c,f,g⟩:=h;exact⟨c,lz f,g⟩
def jv.take{cs:ep}{k q i:Nat}{y:Wk}{m:Mv}(h:jv a id W cs k q y)(g:W[i]?=some m)(j:ju y (rb m)=true):jv a id W (cs.set k (cs.getD k []++[i])) k q (dL y (rb m)):=by
 obtain⟨c,d,f,p⟩:=h;have r:=(aU.1 d).1;refine⟨c++[i],?_,?_,?_⟩
 .rw[gK r,KP,d];rfl
 .cases c with
  |nil=>cases f
  |cons=>exact f
 rw[BT c i g];exact p.snoc j
def FF.set{cs:ep}(h:FF a id W cs){k q:Nat}{y:Wk}{g:az}(p:jv a id W (cs.set k g) k q y):FF a id W (cs.set k g):=by
 obtain⟨c,f,j,r⟩:=p;have t:k<cs.length:=by have:=(aU.1 f).1;simpa using this
 rw[gK t]at f;cases f;intro u d;rcases yk d with d|rfl
 .exact h u d
 refine⟨?_,y,r⟩;intro h0;rw[h0]at j;cases j
def MR.mono{of c:bb}{cs d:ep}{f:Nat×Nat}(h:MR a id W of cs f)(g:∀(n:Nat) (k:Int),of[n]?=some k->c[n]?=some k)(j:∀k y,jv a id W cs k f.1 y->jv a id W d k f.1 y):MR a id W c d f:=by obtain⟨p,q,r,t,u,z,B,C,D⟩:=h;refine⟨p,q,r,t,u,z,B,C,λhid=>?_⟩;obtain⟨k,y,E,H,M,O⟩:=D hid;exact⟨k,y,g _ _ E,g _ _ H,j _ _ M,O⟩
end
def Sh{a:Ar}{v:bE}{y:Wk}(h:JX a v y)(c:∀m∈v,m.arg=0):cH y.w=false:=by rw[h.w.1];unfold cH;cases d:v.getLast? with|none=>rfl|some m=>simp[c m (List.mem_of_getLast? d)]
def Dv(W:bE)(c:az):∀m∈jA W c,m.arg=0:=by intro m d;unfold jA at d;obtain⟨i,_,rfl⟩:=cU.1 d;rfl
section
variable{a:Ar}{id:Int}{W:bE}
def jv.lf{cs:ep}{k q:Nat}{y:Wk}(h:jv a id W cs k q y):cH y.w=false/\y.a=Sg a id/\y.w≠ []:=by
 obtain⟨c,g,f,d⟩:=h;refine⟨Sh d (Dv W c),d.w.2,?_⟩;rw[d.w.1];cases c with
 |nil=>cases f
 |cons x l=>simp[jA]
def J0{x:Wk}{m t:Mv}(c:ju x m=true)(f:x.w≠ [])(g:mO x=some t)(j:dS m=false):qq t m=true/\((x.lost||cH x.w)=true->dH m=true):=by
 unfold ju at c;rw[ar f,g]at c;simp only[j,aL]at c;obtain⟨_,c⟩:=c
 split at c
 .rename_i d;simp at c;exact⟨c.1,λ_=>c.2⟩
 rename_i d;refine⟨?_,λh=>absurd h d⟩
 split at c
 .rename_i h;exact absurd h (by simp)
 split at c
 .simp at c;exact c.1.1
 exact c
def H8{x:Wk}{m t:Mv}(c:ju x m=true)(g:x.w≠ [])(j:mO x=some t)(f:dS m=true):cH x.w=false/\(if 0<t.id/\t.arg=0 then m.id=t.id/\0<m.arg else 0<m.id/\m.arg=0):=by
 unfold ju at c;rw[ar g,j]at c;simp only[f,aL,bp]at c;obtain⟨_,c⟩:=c
 split at c
 .rename_i d;simp[qq,dH]at c;simp[dS]at f;omega
 rename_i d;refine⟨by cases h:cH x.w;rfl;rw[h]at d;simp at d,?_⟩
 split at c
 .rename_i h;rw[au h];simpa using c
 rename_i h;rw[ar h];simpa using c
end
structure D6(a:Ar)(id:Int)(W:bE)(J:bb)(x:Wk)(i:Nat)(m:Mv):Prop where
 id1:1<=id
 id2:id<=a.ids.length
 ok:yq x
 xa:x.a=a
 xw:x.w=W.take i
 hm:W[i]?=some m
 can:ju x m=true
 js:J[i]?=(dL x m).js[i]?
section
variable{a:Ar}{id:Int}{W:bE}{J:bb}{x:Wk}{i:Nat}{m:Mv}
def D6.len(h:D6 a id W J x i m):x.w.length=i:=by have:=(aU.1 h.hm).1;rw[h.xw,od];omega
def D6.lk(h:D6 a id W J x i m){n:Nat}(c:n<i):x.w[n]?=W[n]?:=by rw[h.xw,rN c]
def D6.has(h:D6 a id W J x i m):gT a m=true:=by rw[<-h.xa];exact yr h.can
def D6.opi(h:D6 a id W J x i m){n:Nat}(c:n∈x.op):n<i:=by rw[<-h.len];exact h.ok.op n c
def D6.lf(h:D6 a id W J x i m):cH x.w=sk W i:=by rw[h.xw];exact vn (by have:=(aU.1 h.hm).1;omega)
def D6.top(h:D6 a id W J x i m){r:az}{n:Nat}(c:x.op=r++[n]):mO x=W[n]?:=by unfold mO;rw[c];simp only[List.getLast?_append,List.getLast?_singleton,Option.some_or];exact h.lk (h.opi (by rw[c];simp))
def D6.push(h:D6 a id W J x i m)(c:dS m=true)(d:x.op.Pairwise (· < ·)):(dL x m).op=x.op++[i]/\(dL x m).op.Pairwise (· < ·):=by
 have e:(dL x m).op=x.op++[i]:=by unfold dL;rw[au c];simp only[h.len]
 refine⟨e,?_⟩;rw[e,List.pairwise_append];exact⟨d,by simp,λn f k c=>by simp at c;subst c;exact h.opi f⟩
def D6.pop(h:D6 a id W J x i m)(c:dS m=false)(d:x.op.Pairwise (· < ·)){r:az}{n:Nat}(f:x.op=r++[n]):(dL x m).op=r/\(dL x m).op.Pairwise (· < ·):=by
 have e:(dL x m).op=x.op.dropLast:=by unfold dL;rw[c];rfl
 rw[e];exact⟨by rw[f];simp,d.sublist (BM _)⟩
def MS(c:dS m=true):m.kind≠3:=by simp[dS]at c;omega
end
section
variable{a:Ar}{id:Int}{W:bE}{J:bb}
end
structure FG(y:Wk):Prop where
 q0:y.op≠ []->y.op.head?=some 0
 r0:∀m,y.w[0]?=some m->m.id=0
 on:∀n∈y.op.tail,∀m,y.w[n]?=some m->0<m.id
 ne:y.w≠ []->(y.op=[]↔∃m,y.w.getLast?=some m/\m.id=0/\m.kind=3)
 bd:∀n∈y.op,n<y.w.length
def FG.step{y:Wk}(h:FG y)(Q:y.w=[]->y.op=[]){m:Mv}(E:ju y m=true)(T:gT y.a m=true):FG (dL y m):=by
 have H:=sw T;by_cases f:y.w=[]
 .have dA:=Q f;obtain⟨V,P⟩:=nR E f;have j:=MS P;unfold dL;rw[au P];refine⟨λ_=>by simp[dA,f],?_,?_,?_,?_⟩
  .intro p d;simp[f]at d;rw[<-d];exact V
  .intro n B;simp[dA,f]at B
  .intro _;simp[dA,f,j]
  intro n B;simp[dA,f]at B;subst B;simp[f]
 have dA:=vS E f;obtain⟨r,n,u⟩:∃r n,y.op=r++[n]:=by
  rcases sv y.op with h0|⟨r,n,h0⟩
  .exact absurd h0 dA
  exact⟨r,n,by rw[h0];simp⟩
 have hlen:0<y.w.length:=ym.2 f;have B:n<y.w.length:=h.bd n (by rw[u];simp);obtain⟨t,M⟩:∃t,y.w[n]?=some t:=⟨_,aX B⟩;have q:mO y=some t:=by unfold mO;rw[u];simpa using M
 have g:(y.w++[m]).getLast?=some m:=by simp
 cases j:dS m
 .have O:m.kind=3:=by rw[H]at j;simpa[jR]using j
  have X:=(J0 E f q j).1;simp only[qq,bY]at X;unfold dL;rw[j];simp only[df,bD];refine⟨?_,?_,?_,?_,?_⟩
  .intro C;have:=h.q0 dA;rw[u]at this C ⊢;cases r with|nil=>simp at C|cons b r=>rw[J1];simpa using this
  .intro p d;rw[dD hlen]at d;exact h.r0 p d
  .intro k c p d;have D:k∈y.op.tail:=by rw[u]at c ⊢;simp only[J1]at c;rw[Si (by rintro rfl;cases c)];simp[c]
   have z:=h.bd k (Sj D);rw[dD z]at d;exact h.on k D p d
  .intro _;simp only[g,bQ,exists_eq_left'];rw[u];simp only[J1];constructor
   .rintro rfl
    have:=h.q0 dA;rw[u]at this;simp at this;subst this;have:=h.r0 t M;exact⟨by omega,O⟩
   rintro⟨Y,_⟩
   cases r with|nil=>rfl|cons b r=>have:=h.on n (by rw[u];simp) t M;omega
  intro k c;have:=h.bd k ((BM _).subset c);simp;omega
 obtain⟨_,Z⟩:=H8 E f q j;have hid:0<m.id:=by split at Z<;>omega
 unfold dL;rw[au j];refine⟨?_,?_,?_,?_,?_⟩
 .intro _;have:=h.q0 dA;rw[List.head?_append,this];rfl
 .intro p d;rw[dD hlen]at d;exact h.r0 p d
 .intro k c p d;simp only at c d;rw[Si dA]at c;rcases l5.1 c with c|c
  .have z:=h.bd k (Sj c);rw[dD z]at d;exact h.on k c p d
  simp at c;subst c;simp at d;rw[<-d];exact hid
 .intro _;simp only[g,bQ,exists_eq_left'];constructor
  .intro h';simp at h'
  rintro⟨Y,_⟩;omega
 intro k c;simp only[l5,cr]at c;simp only[bZ,dB];rcases c with c|rfl
 .have:=h.bd k c;omega
 omega
def Av(x:Wk):Int:=if x.w=[]then 1 else match mO x with|none=>3|some t=>if 0<t.id/\t.arg=0 then 1 else 2
def oj.flat{s:HS}{n:Nat}{α:Type}{f g:α->ai}:∀{l:List α},(∀x∈l,oj s n (f x) (g x))->oj s n (aD (l.map f)) (aD (l.map g))
 |[],_=>.nil
 |x::_,h=>(h x dr).append (oj.flat λy c=>h y (cY _ c))
def ae8(w:bE)(id:Int)(j:Nat):Bool:=match w[j]?with|none=>false|some m=>decide (m.id=id)&& !(decide (m.arg=0)&&dH m&& !sk w j)
def count_set:∀(cs:ep) (k i j:Nat),k<cs.length->((cs.set k (cs.getD k []++[i])).flatten).count j=cs.flatten.count j+ [i].count j
 |[],k,i,j,h=>by simp at h
 |c::r,0,i,j,h=>by simp only[aO,List.getD_cons_zero,Sk,Sl];omega
 |c::r,k+1,i,j,h=>by have:=count_set r k i j (by simpa using h);simp only[bJ,List.getD_cons_succ,Sk,Sl,this];omega
structure agX(inn:Ar)(id:Int)(w:bE)(l:ep):Prop where
 ne:∀c∈l,c≠ []
 bd:∀c∈l,∀n∈c,n<w.length
 srt:∀c∈l,c.Pairwise (· < ·)
 len:l.length<=400
 cl:∀c∈l,c.length<=40
 leg:∀c∈l,(Gz inn (jA w c)).2=0
 over:∀c∈l,∀m,(c.getLast?.bind λn=>w[n]?)=some m->(Av (gn (tU inn) (jA w c)).1=3↔m.arg=0/\m.kind=3)
 ea:∀j,j<w.length->l.flatten.count j=if ae8 w id j=true then 1 else 0
section
variable{s:HS}{e:En}
def Sm(sz bI:Nat)(z:ai)(l c:bS)(s:HS):cX:=match l,c with|some (.int _ (.ofNat n)),some (.int _ (.ofNat m))=>bif Nat.ble n m&&Nat.ble m bI then s.new (mu z n) (λo=>.sl o 0 n sz)else .bad|_,_=>.bad
@[simp]def aam{sz bI:Nat}{z:ai}{l c:X}:dA (.mks sz bI z l c) e s=Sm sz bI z (bw l e) (bw c e) s:=rfl
def yA(z:HV)(n:Nat):mu [z] n=List.replicate n z:=by induction n with|zero=>rfl|succ n c=>rw[mu,c,List.replicate_succ];rfl
def lZ{n bI:Nat}(g:n<=bI)(z:HV):∃s',Sm 1 bI [z] (some (.int .i64 (n:Int))) (some (.int .i64 (n:Int))) s=.v (.sl s.nx 0 n 1) s'/\cu s' (.sl s.nx 0 n 1) 1 (λk=>k=s.nx) (List.replicate n [z])/\cV (λ_=>False) s s':=by
 refine⟨{h:=av (some (.cells (dh (mu [z] n) 0 .lf) 0 (aM (mu [z] n)) s.nx)) s.nx s.h,nx:=s.nx.succ,gr:=av (some [s.nx]) s.nx s.gr,ty:=s.ty},?_,?_,cV.alloc _ _⟩
 .show(bif Nat.ble n n&&Nat.ble n bI then s.new (mu [z] n) (λo=>.sl o 0 n 1)else .bad)=_;rw[cd,cd];simp[g];rfl
 have p:=Ky.aS s.nx;refine⟨λr d=>by rw[Aw d];rfl,λk q=>by subst q;simp only;omega,.inr ⟨s.nx,dh (mu [z] n) 0 .lf,aM (mu [z] n),s.nx,[],?_,?_,?_,?_,?_,by simp,by simp,rfl⟩⟩
 .simp
 .simp only;rw[af,au rfl]
 .rw[bK,yA];simp
 .intro j c;simp only[BU,jl]at c;rw[fC,yA];simp only[fN,true_and,bn,BU,c,bp,Nat.sub_zero];have f:=gO (ak:=List.replicate n [z]) (sz:=1) (λr d=>by rw[Aw d];rfl) j 0 (by simpa using c) (by omega);rw[jl,iB]at f;rw[f];simp[c]
 simp only;rw[af,au rfl]
end
section
variable{inn:Ar}{id:Int}{w:bE}{l:ep}
end
def dV.single{s:HS}{v:HV}{sz:Nat}{F:bM}{ak:aP}(h:cu s v sz F ak):∃ao,dV s ao [(v,sz,ak)]:=by
 classical
 refine⟨λk=>if F k then some 0 else none,λk i c=>?_,λk i c=>?_,λi p j g f=>?_⟩
 .split at c
  .rename_i d;exact h.2.1 k d
  cases c
 .split at c
  .cases c;simp
  cases c
 have:i=0:=by have:=(aU.1 f).1;simp at this;exact this
 subst this;simp only[BO,bQ,gj]at f;obtain⟨rfl,rfl,rfl⟩:=f;refine h.mono (λk c=>by simp[c]) (λk c=>?_);by_cases d:F k
 .exact h.2.1 k d
 simp[d]at c
def vT{s:HS}{o:Ky}{F:bM}{u:bb}{n:Nat}(h:cu s (.sl o 0 n 1) 1 F (u.map iC)){i:Nat}{b:Int}(c:u[i]?=some b):eN (aj s.h o) i=some (iV b):=by obtain⟨d,f⟩:=aU.1 c;rw[h.cell i (by simpa using d)];simp[f]
section
variable{x:Fa}{aZ:cf}
def X0(hx:bA x)(hu:aZ.length=x.nx.length){e:En}{s:HS}{o:Out}{v:HV}{of:bb}{ao:aW}(u:bB e [(1,.psl (aZ.map bC)),(2,.aw x.c),(5,v),(6,iV 0)])(E:dV s ao [(v,1,of.map iC)])(p:of.length=x.nx.length)(ho:bO R (.loop U.pz) e s=o):
  ∃(e':En) (s':HS) (d:bb) (q:aW),o=.code (.exit 0) e' s'/\bB e' [(1,.psl (aZ.map bC)),(2,.aw x.c),(5,v)]/\dV s' q [(v,1,d.map iC)]/\d.length=x.nx.length/\((∀j,j<x.nx.length->of[j]?=some 0)->∀j,j<x.nx.length->d[j]?=some (JV x aZ j)):=by
 have hn:=hx.n;revert o;show∀o,_;refine ajX x.nx.length
  (λi e s=>∃(d:bb) (q:aW),bB e [(1,.psl (aZ.map bC)),(2,.aw x.c),(5,v),(6,iV i)]/\dV s q [(v,1,d.map iC)]/\d.length=x.nx.length/\((∀j,j<x.nx.length->of[j]?=some 0)->(∀j,j<i->d[j]?=some (JV x aZ j))/\∀j,i<=j->j<x.nx.length->d[j]?=some 0))
  0 (by omega) ⟨of,ao,u,E,p,λh=>⟨λj D=>by omega,λj _ D=>h j D⟩⟩ ?_ ?_
 .rintro i e s r P ⟨d,q,u,E,p,Y⟩ z
  have H:(i:Int)<x.nx.length:=by omega
  have B:i<aZ.length:=by omega
  have C:i<x.fi.length:=by have:=hx.nf;omega
  obtain⟨ob,rfl⟩:=(E.own 0 _ _ _ rfl).gP (by intro h0;have:=ch List.length h0;rw[bz]at this;simp only[aC]at this;omega);have hlen:(d.map iC).length=x.nx.length:=by rw[bz];exact p
  have Z:=br (n:=400) (show i<400 by omega) (by omega);have f:JV x aZ i=if x.fi[i]then 2 else if aZ[i]then 1 else 0:=by unfold JV;rw[ix C,ix B]
  have y:∀(c:Int),JV x aZ i=c->∀(V:bb),V.length=x.nx.length->(∀j,j≠i->V[j]?=d[j]?)->V[i]?=some c->((∀j,j<x.nx.length->of[j]?=some 0)->(∀j,j<i+1->V[j]?=some (JV x aZ j))/\∀j,i+1<=j->j<x.nx.length->V[j]?=some 0):=by
   intro c hc V _ h1 h2 h0;obtain⟨p1,p2⟩:=Y h0;refine⟨λj D=>?_,λj h4 h3=>?_⟩
   .by_cases X:j=i
    .subst X;rw[h2,hc]
    rw[h1 j X];exact p1 j (by omega)
   rw[h1 j (by omega)];exact p2 j (by omega) h3
  obtain⟨o1,s1,a1,b1,M⟩:=E.jQ 0 rfl i (by rw[hlen];exact P) (x:=iV 1) rfl;obtain⟨o2,s2,a2,b2,Q⟩:=E.jQ 0 rfl i (by rw[hlen];exact P) (x:=iV 2) rfl;simp only[aO]at M Q;obtain⟨o3,s3,a3,b3,O⟩:=M.jQ 0 rfl i (by rw[jk,hlen];exact P) (x:=iV 2) rfl;simp only[aO]at O;rw[hlen]at a1 a2 a3 u;simp[P]at a1 a2 a3;subst a1;subst a2;subst a3;simp only[jl]at b1 b2 b3;simp only[ab,ae]at u;rw[show List.set (d.map iC) i [iV 1]=(d.set i 1).map iC by rw[mR]]at M O;rw[show List.set (d.map iC) i [iV 2]=(d.set i 2).map iC by rw[mR]]at Q;rw[show List.set ((d.set i 1).map iC) i [iV 2]=((d.set i 1).set i 2).map iC by simp only[mR]]at O;cases t:aZ[i]
  .cases g:x.fi[i]
   .rw[t,g]at f;simp[U.pz,u,H,B,C,t,g,Z]at z;subst z;refine .inl ⟨_,_,rfl,d,_,by simp[u,p],E,p,λh0=>?_⟩;obtain⟨p1,p2⟩:=Y h0;exact y 0 (by simpa using f) d p (λ_ _=>rfl) (p2 i (aV _) P) h0
   rw[t,g]at f;simp[U.pz,u,P,H,B,C,t,g,Z,b2]at z;subst z;exact .inl ⟨_,_,rfl,_,_,by simp[u,p],Q,by simp[p],y 2 (by simpa using f) _ (by simp[p]) (λj D=>jm (jY D)) (gK (by omega))⟩
  cases g:x.fi[i]
  .rw[t,g]at f;simp[U.pz,u,P,H,B,C,t,g,Z,b1]at z;subst z;exact .inl ⟨_,_,rfl,_,_,by simp[u,p],M,by simp[p],y 1 (by simpa using f) _ (by simp[p]) (λj D=>jm (jY D)) (gK (by omega))⟩
  rw[t,g]at f;simp[U.pz,u,P,H,B,C,t,g,Z,b1,b3]at z;subst z;exact .inl ⟨_,_,rfl,_,_,by simp[u,p],O,by simp[p],y 2 (by simpa using f) _ (by simp[p]) (λj D=>by rw[jm (jY D),jm (jY D)]) (gK (by simp;omega))⟩
 rintro e s r ⟨d,q,u,E,p,Y⟩ z
 have T:=E.len 0 rfl;simp only[bz]at T;rw[p]at T;simp only[ab,ae]at u;simp[U.pz,u,T]at z;subst z;exact⟨by simp,_,_,d,_,rfl,by simp[u],E,p,λh=>(Y h).1⟩
def X1(T:bA x)(V:aZ.length=x.nx.length){of nt:bb}(X:of.length=x.nx.length){fs:az}(Y:fs.length<=400)(B:∀k,(h:k<fs.length)->fs[k]<x.nx.length){i:Nat}(Z:i<x.nx.length){e:En}{s:HS}{o:Out}{v5 v7 v8 v9:HV}{ao:aW}
  (d:bB e [(1,.psl (aZ.map bC)),(2,.aw x.c),(5,v5),(7,v7),(8,v8),(9,v9),(10,iV i),(11,iV 0)])(C:dV s ao [(v5,1,of.map iC),(v8,1,nt.map iC),(v9,1,fs.map nC)])(ho:bO R (.loop U.tG) e s=o):
  ∃(e':En) (k:Nat),o=.code (.exit 6) e' s/\bB e' [(1,.psl (aZ.map bC)),(2,.aw x.c),(5,v5),(7,v7),(8,v8),(9,v9),(10,iV i),(11,iV k)]/\k<=fs.length/\(∀j,(h:j<fs.length)->j<k->fq x of aZ fs[j] i=false)/\(∀h:k<fs.length,fq x of aZ fs[k] i=true):=by
 have M:=C.own 0 _ _ _ rfl;have O:=C.own 2 _ _ _ rfl;obtain⟨z,P⟩:=M.gP (by intro h0;have:=ch List.length h0;rw[bz]at this;simp only[aC]at this;omega);rw[bz]at P;subst P;have f:=C.len 2 rfl s;rw[bz]at f;have hq:=jd ho fs.length (λk=>∀h:k<fs.length,fq x of aZ fs[k] i=false)
  (λk=>[(1,.psl (aZ.map bC)),(2,.aw x.c),(5,.sl z 0 of.length 1),(7,v7),(8,v8),(9,v9),(10,iV i),(11,iV k)])
  [(1,.psl (aZ.map bC)),(2,.aw x.c),(5,.sl z 0 of.length 1),(7,v7),(8,v8),(9,v9),(10,iV i),(11,iV fs.length)] 6
  (λk o=>∃e',o=.code (.exit 6) e' s/\bB e' [(1,.psl (aZ.map bC)),(2,.aw x.c),(5,.sl z 0 of.length 1),(7,v7),(8,v8),(9,v9),(10,iV i),(11,iV k)]) d
  (λk e r t d p=>by
   have u:(k:Int)<fs.length:=by omega
   obtain⟨o9,Q⟩:=O.gP (by intro h0;have:=ch List.length h0;rw[bz]at this;simp only[aC]at this;omega);rw[bz]at Q;subst Q;have D:=O.cell k (by simpa using t);simp at D;have g:∀b,fq x of aZ fs[k] i=b->R (.call 114 [.agg x.c,.sl z 0 of.length 1,.psl (aZ.map bC),iV fs[k],iV i] s)=.val (.bool b) s:=by intro b hb;refine adr (l:=[.agg x.c,.psl (of.map iC),.psl (aZ.map bC),iV fs[k],iV i]) ?_ (.cons (.data (by simp)) (.cons (M.vw (by simp)) (.data (by simp)))) (by simp) rfl (λs=>by rw[ae3 x T of X aZ V _ _ (B k t) Z,hb]);rw[cI,cI];simp[cm]
   simp only[ab,ae]at d;cases q:fq x of aZ fs[k] i
   .have g:=g false q;simp only[Fa.c,iV]at g;simp[U.tG,d,t,u,D,g,br (n:=400) (show k<400 by omega) (by omega)]at p;subst p;exact .inl ⟨λ_=>q,_,rfl,by simp[d]⟩
   have g:=g true q;simp only[Fa.c,iV]at g;simp[U.tG,d,t,u,D,g]at p;subst p;exact .inr ⟨λh=>(by rw[h t]at q;cases q),by simp,_,rfl,by simp[d]⟩)
  (λe r d p=>by
   simp only[ab,ae]at d;simp[U.tG,d,f]at p;subst p;exact⟨_,rfl,by simp[d]⟩)
 rcases hq with⟨k,t,h1,h2,e',E,H⟩|⟨y,e',E,H⟩
 .refine⟨e',k,E,H,by omega,λj h hj=>h1 j hj h,λh=>?_⟩;cases q:fq x of aZ fs[k] i
  .exact absurd (λ_=>q) h2
  rfl
 exact⟨e',fs.length,E,H,aV _,λj h _=>y j h h,λh=>by omega⟩
end
def jS(l:bb):eT (l.map iC)=true:=cD (λx=>by simp) l
section
variable{x:Fa}{aZ:cf}
def X2(Z:bA x)(hu:aZ.length=x.nx.length){of:bb}(M:of.length=x.nx.length){e:En}{s:HS}{o:Out}{v5 v7 v8:HV}{nt:bb}{ao:aW}
  (q:bB e [(1,.psl (aZ.map bC)),(2,.aw x.c),(5,v5),(7,v7),(8,v8),(9,.ah),(10,iV 0)])(g:dV s ao [(v5,1,of.map iC),(v8,1,nt.map iC),(.ah,1,[])])(hn:nt.length=x.nx.length)(O:bO R (.loop U.xh) e s=o):
  ∃(e':En) (s':HS) (v9:HV) (fs:az) (nt:bb) (ao:aW),o=.code (.exit 4) e' s'/\bB e' [(1,.psl (aZ.map bC)),(2,.aw x.c),(5,v5),(7,v7),(8,v8),(9,v9)]/\dV s' ao [(v5,1,of.map iC),(v8,1,nt.map iC),(v9,1,fs.map nC)]/\Cn (fq x of aZ) x.nx.length fs nt x.nx.length:=by
 have h2:=Z.n;revert o;show∀o,_;refine ajX x.nx.length
  (λi e s=>∃(v9:HV) (fs:az) (nt:bb) (ao:aW),bB e [(1,.psl (aZ.map bC)),(2,.aw x.c),(5,v5),(7,v7),(8,v8),(9,v9),(10,iV i)]/\dV s ao [(v5,1,of.map iC),(v8,1,nt.map iC),(v9,1,fs.map nC)]/\Cn (fq x of aZ) x.nx.length fs nt i)
  0 (by omega) ⟨.ah,[],nt,ao,q,g,Cn.zero hn⟩ ?_ ?_
 .rintro i e s r y ⟨v9,fs,nt,ao,q,g,z⟩ t
  have P:(i:Int)<x.nx.length:=by omega
  have d:=g.len 0 rfl s;have B:=g.len 2 rfl s;rw[bz]at d B;rw[M]at d;have h3:=z.fl;have D:=z.len;have hw:=br (n:=400) (show i<400 by omega) (by omega);simp only[ab,ae]at q;simp[U.xh,q,d,P]at t;generalize O:bO R (.loop U.tG) _ _=o at t;obtain⟨e1,k,rfl,j,h4,Q,T⟩:=X1 (v7:=v7) Z hu M (by omega) (λk h=>by have:=(z.fb k h).1;omega) y (by simp[q]) g O;clear O;obtain⟨o8,e8⟩:=(g.own 1 _ _ _ rfl).gP (by intro h0;have:=ch List.length h0;rw[bz]at this;simp only[aC]at this;omega);rw[bz,D]at e8;subst e8;simp only[ab,ae]at j;by_cases E:k<fs.length
  .have V:¬(k:Int)=fs.length:=by omega
   have p:¬(401:Int)<fs.length:=by omega
   obtain⟨o1,s1,H,b1,f⟩:=g.jQ 1 rfl i (by rw[bz];omega) (x:=iV k) rfl;simp[y]at H;subst H;simp only[jl]at b1;simp only[bJ,aO]at f;rw[show List.set (nt.map iC) i [iV k]=(nt.set i (k:Int)).map iC by rw[mR]]at f;simp[j,B,V,p,y,b1,hw]at t;subst t;exact .inl ⟨_,_,rfl,v9,fs,_,_,by simp[j],f,z.old y E (T E)⟩
  have X:k=fs.length:=by omega
  subst X;obtain⟨Y,s1,h1,H,c1,f⟩:=g.append 2 rfl (new:=[[iV i]]) (Sz.cons rfl Sz.nil) (by simp) (bI:=17592186044416) (by simp;omega);have u:=f.len 2 rfl s1;have p:¬(401:Int)<((fs.length:Nat)+1:Int):=by omega
  obtain⟨o1,s2,a2,b2,C⟩:=f.jQ 1 rfl i (by rw[bz];omega) (x:=iV fs.length) rfl;simp[y]at a2;subst a2;simp only[jl]at b2;simp only[bJ,aO]at C;rw[show List.set (nt.map iC) i [iV fs.length]=(nt.set i (fs.length:Int)).map iC by rw[mR],show fs.map nC++[[iV i]]=(fs++[i]).map nC by simp]at C;simp only[iV]at H;simp at u;simp[j,B,H,u,p,y,b2,hw]at t;subst t;exact .inl ⟨_,_,rfl,Y,fs++[i],_,_,by simp[j],C,z.new y FB (λa b=>rn) (λk E=>Q k E E)⟩
 rintro e s r ⟨v9,fs,nt,ao,q,g,z⟩ t
 have d:=g.len 0 rfl s;rw[bz,M]at d;simp only[ab,ae]at q;simp[U.xh,q,d]at t;subst t;exact⟨by simp,_,_,v9,fs,nt,ao,rfl,by simp[q],g,z⟩
def ae9(x:Fa)(E:bA x)(aZ:cf)(hu:aZ.length=x.nx.length):∃r,UO x aZ r/\∀s,R (.call 93 [.agg x.c,.psl (aZ.map bC)] s)=.val (.psl (r.map iC)) s:=by
 have hn:=E.n
 suffices h:∃r,UO x aZ r/\pF [.tmp 4] (bO R U.Qe (bc [.agg x.c,.psl (aZ.map bC)] 0) s0)=some (.psl (r.map iC)) by obtain⟨r,H,q⟩:=h;exact⟨r,H,λs=>ade q⟩
 obtain⟨s1,M,O,_⟩:=lZ (s:=s0) (n:=x.nx.length) (bI:=17592186044416) (by omega) (iV 0);simp only[iV]at M;simp[U.Qe,M];obtain⟨ao,C⟩:=dV.single O;rw[show List.replicate x.nx.length [iV 0]=(List.replicate x.nx.length (0:Int)).map iC by simp]at C;generalize p:bO R (.loop U.pz) _ _=o;obtain⟨e1,s2,of,hd,rfl,P,f,hz,d⟩:=X0 E hu (by simp) C (by simp) p;clear p;have d:=d (λj Q=>by simp[Q]);have h3:Of x aZ of:=by
  refine⟨hz,λi c hc=>?_,λi j Z Q he=>?_,λB hB i j h5=>?_⟩
  .rw[d i (by rw[<-hz];exact(aU.1 hc).1)]at hc;cases hc;unfold JV;split<;>(try split)<;>omega
  .rw[d i Z,d j Q]at he;exact lr he
  obtain⟨Z,Q,H,q⟩:=hB.fi i j h5;rw[d i Z,d j Q];unfold JV;rw[lY H,lY q]
 simp only[ab,ae]at P;simp;generalize p:bO R (.loop U.E5) _ _=o;have T:=E.pos;have hq:=bh p (x.nx.length+1)
  (λi e s=>∃(v5:HV) (of:bb) (many:Nat) (ao:aW),bB e [(1,.psl (aZ.map bC)),(2,.aw x.c),(5,v5),(7,iV many)]/\dV s ao [(v5,1,of.map iC)]/\Of x aZ of/\i<=many/\many<=x.nx.length/\(0<many->∃fs,fs.length=many/\Oe x.nx.length of fs))
  (λo=>∃(e':En) (s':HS) (v8:HV) (r:bb) (F:bM),o=.code .ret e' s'/\look e' 4=some v8/\cu s' v8 1 F (r.map iC)/\UO x aZ r)
  0 (by omega) ⟨_,of,0,_,by simp[P],f,h3,aV _,fN _,λh=>by omega⟩
  (λi e s r Z ⟨v5,of,many,ao,hL,C,V,h6,h7,hP⟩ t=>by
   have hlen:=C.len 0 rfl s;rw[bz,V.len]at hlen;obtain⟨s1,M,O,hF⟩:=lZ (s:=s) (n:=x.nx.length) (bI:=17592186044416) (by omega) (iV 0);have f:=(C.join hF O (λk hk=>by subst hk;exact aV _)).push 1;rw[show List.replicate x.nx.length [iV 0]=(List.replicate x.nx.length (0:Int)).map iC by simp]at f;simp only[bo,bq]at f;simp only[ab,ae]at hL;simp only[iV]at M;simp[U.E5,hL,hlen,M]at t;generalize p:bO R (.loop U.xh) _ _=o at t;obtain⟨e2,s2,v9,fs,nt,hf,rfl,g,u,D⟩:=X2 (v7:=iV many) E hu V.len (by simp[hL]) f (by simp) p;clear p;have y:=u.len 2 rfl s2;rw[bz]at y;have h8:=D.fl;have hg:0<fs.length:=by obtain⟨k,_,h,_⟩:=D.cl 0 T;omega
   obtain⟨h9,X⟩:=V.next D
   have hl:many<=fs.length:=by
    by_cases h0:0<many
    .obtain⟨ha,H,q⟩:=hP h0;have:=(q.GF D.Sd X).1;omega
    omega
   simp only[ab,ae]at g;by_cases he:fs.length=many
   .have z:(fs.length:Int)=many:=by omega
    obtain⟨ha,H,q⟩:=hP (by omega);simp[g,y,z]at t;subst t;exact .inr ⟨by simp,_,_,_,nt,_,rfl,by simp,u.own 1 _ _ _ rfl,V.ae5 E q D (by omega)⟩
   have z:¬(fs.length:Int)=many:=by omega
   obtain⟨Y,hb⟩:=dV.single (u.own 1 _ _ _ rfl);simp[g,y,z]at t;subst t;exact .inl ⟨_,_,rfl,_,nt,fs.length,Y,by simp[g],hb,h9,by omega,h8,λ_=>⟨fs,rfl,D.Sd⟩⟩)
  (λe s r ⟨v5,of,many,ao,hL,C,V,h6,h7,hP⟩ t=>by omega)
 clear p;obtain⟨e',s',v8,r,F,rfl,h4,O,hS⟩:=hq;refine⟨r,hS,?_⟩;simp[h4];exact aY (O.vw (jS r))
end
section
variable{s:HS}{ao:aW}{L:cq}
def dV.sx(h:dV s ao L)(i:Nat){v:HV}{sz:Nat}{ak:aP}(C:L[i]?=some (v,sz,ak)){new:aP}(E:Sz sz new)(h0:new≠ []){bI:Nat}(H:ak.length+new.length<=bI):
  ∃p s',j0 sz bI none (some v) (some (.psl new)) s=.v p s'/\cellsOf p=some [p]/\dV s' (λk=>if k=s.nx then some i else ao k) (L.set i (p,sz,ak++new))/\cV (λk=>ao k=some i) s s':=by
 have q:=(aU.1 C).1;obtain⟨p,s',M,r,t,g⟩:=(h.own i v sz ak C).append E h0 H;have z:=Ky.aS s.nx;refine⟨p,s',M,r.one,⟨λk j c=>?_,λk j c=>?_,λj w B u y=>?_⟩,t⟩
 .rw[g]
  split at c
  .rename_i e;subst e;omega
  have:=h.bd k j c;omega
 .rw[jk]
  split at c
  .cases c;exact q
  exact h.top k j c
 rw[gl]at y;by_cases d:i=j
 .subst d;rw[au rfl,au q]at y;cases y;refine r.mono (λk c=>?_) (λk c=>?_)
  .rcases c with c|rfl
   .show(if k=s.nx then some i else ao k)=some i
    split
    .rfl
    exact c
   show(if s.nx=s.nx then some i else ao s.nx)=some i;rw[au rfl]
  have c:(if k=s.nx then some i else ao k)=some i:=c;rw[g]
  split at c
  .rename_i e;subst e;omega
  have:=h.bd k i c;omega
 rw[ar d]at y;have D:=h.own j w B u y;refine(D.frame t (λk c f=>by have f:ao k=some i:=f;have c:ao k=some j:=c;rw[c]at f;cases f;exact d rfl)).mono (λk c=>?_) (λk c=>?_)
 .have O:=D.2.1 k c;show(if k=s.nx then some i else ao k)=some j;rw[ar λe=>by subst e;omega];exact c
 have c:(if k=s.nx then some i else ao k)=some j:=c;rw[g]
 split at c
 .cases c;exact absurd rfl d
 have:=h.bd k j c;omega
structure aI(s:HS)(ao:aW)(L:cq)(K:de):Prop where
 mem:dV s ao L
 bm:∀(a:Nat) (o:Ky) (c:ai),K[a]?=some (o,c)->il s o c/\ao o=none
 nd:∀(a b:Nat) (o:Ky) (c d:ai),K[a]?=some (o,c)->K[b]?=some (o,d)->a=b
variable{K:de}
def aI.append(h:aI s ao L K)(i:Nat){v:HV}{sz:Nat}{ak:aP}(p:L[i]?=some (v,sz,ak)){new:aP}(q:Sz sz new)(h0:new≠ []){bI:Nat}(r:ak.length+new.length<=bI):
  ∃d s' f,j0 sz bI none (some v) (some (.psl new)) s=.v d s'/\cellsOf d=some [d]/\aI s' f (L.set i (d,sz,ak++new)) K:=by
 obtain⟨d,s',t,u,y,z⟩:=h.mem.sx i p q h0 r;refine⟨d,s',_,t,u,y,λa o c B=>?_,h.nd⟩;obtain⟨g,j⟩:=h.bm a o c B;have C:=g.2.2;exact⟨g.frame z (by rw[j];simp),by rw[ar λe=>by subst e;omega];exact j⟩
def aI.jQ(h:aI s ao L K)(i:Nat){v:HV}{ak:aP}(z:L[i]?=some (v,1,ak))(j:Nat)(D:j<ak.length){x:HV}(E:cellsOf x=some [x]):
  ∃r s',Fp (some v) (some (.int .i64 (j:Int))) 1 s=.v (.ptr r (j*1)) s/\qh 1 (some (.ptr r (j*1))) (some x) s=.v .undef s'/\aI s' ao (L.set i (v,1,ak.set j [x])) K:=by
 have t:=(aU.1 z).1;obtain⟨r,s',H,M,O,B,P⟩:=(h.mem.own i v 1 ak z).jQ j D x E;refine⟨r,s',H,M,⟨λk i d=>by rw[P];exact h.mem.bd k i d,λk i d=>by rw[jk];exact h.mem.top k i d,λk w u q d=>?_⟩,λa o c Q=>?_,h.nd⟩
 .rw[gl]at d;by_cases g:i=k
  .subst g;rw[au rfl,au t]at d;cases d;exact O
  rw[ar g]at d;exact(h.mem.own k w u q d).frame B (λp y f=>by have f:ao p=some i:=f;have y:ao p=some k:=y;rw[y]at f;cases f;exact g rfl)
 obtain⟨T,C⟩:=h.bm a o c Q;exact⟨T.frame B (by rw[C];simp),C⟩
def aI.push(h:aI s ao L K)(sz:Nat):aI s ao (L++[(.ah,sz,[])]) K:=⟨h.mem.push sz,h.bm,h.nd⟩
def aI.frame{s':HS}(h:aI s ao L K)(d:cV (λ_=>False) s s'):aI s' ao L K:=⟨h.mem.frame d,λa o c f=>⟨(h.bm a o c f).1.frame d (λh=>h),(h.bm a o c f).2⟩,h.nd⟩
def aI.cell{s':HS}(h:aI s ao L K){a:Nat}{o:Ky}{c c':ai}(r:K[a]?=some (o,c))(B:il s' o c')(t:cV (λp=>p=o) s s'):aI s' ao L (K.set a (o,c')):=by
 have C:=(aU.1 r).1;have q:=(h.bm a o c r).2;refine⟨⟨λk i j=>dJ (h.mem.bd k i j) t.1,h.mem.top,λi v D u E=>(h.mem.own i v D u E).frame t (λk j e=>by have j:ao k=some i:=j;rw[e,q]at j;cases j)⟩,λb p d f=>?_,λb z p d H f y=>?_⟩
 .rw[gl]at f
  split at f
  .cases f;exact⟨B,q⟩
  rename_i g;obtain⟨M,O⟩:=h.bm b p d f;refine⟨M.frame t (λe=>?_),O⟩;subst e;exact g (h.nd a b _ c d r f)
 have key:∀(b:Nat) (d:ai),(K.set a (o,c'))[b]?=some (p,d)->∃e:ai,K[b]?=some (p,e):=by
  intro b d f;rw[gl]at f
  split at f
  .rename_i g;subst g;cases f;exact⟨c,r⟩
  exact⟨d,f⟩
 obtain⟨P,Q⟩:=key b d f;obtain⟨T,V⟩:=key z H y;exact h.nd b z p P T Q V
def aI.put(h:aI s ao L K){a:Nat}{o:Ky}{c new:ai}(d:K[a]?=some (o,c)){v:HV}(f:cellsOf v=some new)(g:new.length=c.length):∃s',qh c.length (some (.ptr o 0)) (some v) s=.v .undef s'/\aI s' ao L (K.set a (o,new)):=by obtain⟨s',j,p,q,_⟩:=(h.bm a o c d).1.put f g;exact⟨s',j,h.cell d p q⟩
def aI.yB(h:aI s ao L K){a:Nat}{o:Ky}{c:ai}(d:K[a]?=some (o,c))(k:Nat)(f:k<c.length){x:HV}(g:cellsOf x=some [x]):∃s',qh 1 (some (.ptr o k)) (some x) s=.v .undef s'/\aI s' ao L (K.set a (o,c.set k x)):=by obtain⟨s',j,p,q,_⟩:=(h.bm a o c d).1.set k f x g;exact⟨s',j,h.cell d p q⟩
end
def jC(aE:cq):aP:=aE.map gP
def GG(row:bu)(aZ:cf)(m:Mv):Int:=row.foldl (λt e=>if im aZ m e then(e.to:Int)else t) (-1)
def Dw(row:bu)(e:Eg)(aZ:cf)(m:Mv):GG (row++[e]) aZ m=if im aZ m e then(e.to:Int)else GG row aZ m:=by simp[GG]
def ng(of:bb)(c:az)(t:Nat):Nat:=c.findIdx λj=>decide (of.getD j 0=of.getD t 0)
def rp{α:Type}{p:α->Bool}{l:List α}{i:Nat}(c:i<l.length)(d:∀j,(h:j<i)->p (l[j]'(by omega))=false)(f:p l[i]=true):l.findIdx p=i:=by rw[Fu c];exact⟨f,d⟩
def BV{α:Type}{p:α->Bool}{l:List α}(h:∀i,(c:i<l.length)->p l[i]=false):l.findIdx p=l.length:=by rw[So];intro a d;obtain⟨i,c,rfl⟩:=eO.1 d;exact h i c
def iy{s:HS}{o:Ky}{F:bM}{u:az}{n:Nat}(h:cu s (.sl o 0 n 1) 1 F (u.map nC)){i:Nat}(c:i<u.length):eN (aj s.h o) i=some (iV u[i]):=by rw[h.cell i (by simpa using c)];simp
def getD_at{α:Type}{l:List α}{i:Nat}(h:i<l.length)(d:α):l.getD i d=l[i]:=by rw[KP,aX h];rfl
section
variable{x:Fa}{aZ:cf}{of:bb}
def X3(Y:bA x)(hu:aZ.length=x.nx.length){d:az}{j:Nat}(C:j<d.length)(H:d[j]<x.nx.length){ms:bE}{k:Nat}(Q:k<ms.length){e:En}{s:HS}{o:Out}{o2 o5 o6:Ky}{v8:HV}{ao:aW}{L:cq}{K:de}
  (g:bB e [(1,.aw x.c),(2,.ptr o2 0),(3,.psl (aZ.map bC)),(4,.psl (of.map iC)),(5,.ptr o5 0),(6,.sl o6 0 d.length 1),(7,iV j),(8,v8),(9,.psl (ms.map Mv.c)),(10,iV k),(11,iV (-1)),(12,iV 0)])
  (B:aI s ao L K)(h0:L[0]?=some (.sl o6 0 d.length 1,1,d.map nC))(Z:bO R (.loop U.qT) e s=o):
  ∃e' s',o=.code (.exit 4) e' s'/\aI s' ao L K/\bB e' [(1,.aw x.c),(2,.ptr o2 0),(3,.psl (aZ.map bC)),(4,.psl (of.map iC)),(5,.ptr o5 0),(6,.sl o6 0 d.length 1),(7,iV j),(8,v8),(9,.psl (ms.map Mv.c)),(10,iV k),(11,iV (GG x.nx[d[j]] aZ ms[k]))]:=by
 have hq:=Od Z (λs=>aI s ao L K) B x.nx[d[j]].length (λ_=>True)
  (λn=>[(1,.aw x.c),(2,.ptr o2 0),(3,.psl (aZ.map bC)),(4,.psl (of.map iC)),(5,.ptr o5 0),(6,.sl o6 0 d.length 1),(7,iV j),(8,v8),(9,.psl (ms.map Mv.c)),(10,iV k),(11,iV (GG (x.nx[d[j]].take n) aZ ms[k])),(12,iV n)])
  [(1,.aw x.c),(2,.ptr o2 0),(3,.psl (aZ.map bC)),(4,.psl (of.map iC)),(5,.ptr o5 0),(6,.sl o6 0 d.length 1),(7,iV j),(8,v8),(9,.psl (ms.map Mv.c)),(10,iV k),(11,iV (GG x.nx[d[j]] aZ ms[k]))] 4 (λ_ _=>False) (by simpa[GG]using g)
  (λn e s r M B g t=>by
   have D:(n:Int)<x.nx[d[j]].length:=by omega
   have h4:=Y.row H;have h5:=Y.to _ (cb H) _ (cb M);have T:=br (n:=6000) (show n<6000 by omega) (by omega);have p:=ri (x.nx[d[j]][n]).m ms[k];have O:=iy (B.mem.own 0 _ _ _ h0) C;have u:=B.frame (cV.alloc (s:=s) (.cells (cP (x.nx[d[j]][n]).c) 0 5 s.nx) [s.nx]);have V:eN (aj (av (some (.cells (cP [HV.int .i64 0,.int .i64 0,.int .u8 0,.int .i64 0,.int .i64 0]) 0 5 s.nx)) s.nx s.h) o6) j=some (iV d[j]):=iy ((B.frame (cV.alloc (s:=s) (.cells (cP [HV.int .i64 0,.int .i64 0,.int .u8 0,.int .i64 0,.int .i64 0]) 0 5 s.nx) [s.nx])).mem.own 0 _ _ _ h0) C;have q:aj (HS.mk (av (some (.cells (cP (x.nx[d[j]][n]).c) 0 5 s.nx)) s.nx s.h) s.nx.succ (av (some [s.nx]) s.nx s.gr) s.ty).h s.nx=some (.cells (cP (x.nx[d[j]][n]).c) 0 5 s.nx):=by simp
   generalize y:HS.mk (av (some (.cells (cP (x.nx[d[j]][n]).c) 0 5 s.nx)) s.nx s.h) s.nx.succ (av (some [s.nx]) s.nx s.gr) s.ty=S1 at q u;have E:(x.nx[d[j]][n]).to<aZ.length:=by omega
   have X:im aZ ms[k] x.nx[d[j]][n]=(decide ((x.nx[d[j]][n]).m=ms[k])&&aZ[(x.nx[d[j]][n]).to]):=by unfold im;rw[getD_at E]
   have f:=Dw (x.nx[d[j]].take n) x.nx[d[j]][n] aZ ms[k];rw[<-List.take_succ_eq_append_getElem M,X]at f;simp only[ab,ae]at g;simp only[Eg.c]at y q;simp only[Mv.c]at p;by_cases P:(x.nx[d[j]][n]).m=ms[k]
   .rw[dq P]at p f;cases z:aZ[(x.nx[d[j]][n]).to]
    .rw[z]at f;simp[U.qT,g,C,H,Q,M,D,T,O,V,aq,aA,an,y,q,p,E,z]at t;subst t;exact .inl ⟨trivial,_,_,rfl,u,by simp[g,f]⟩
    rw[z]at f;simp[U.qT,g,C,H,Q,M,D,T,O,V,aq,aA,an,y,q,p,E,z]at t;subst t;exact .inl ⟨trivial,_,_,rfl,u,by simp[g,f]⟩
   rw[cK P]at p f;simp[U.qT,g,C,H,Q,M,D,T,O,V,aq,aA,an,y,q,p]at t;subst t;exact .inl ⟨trivial,_,_,rfl,u,by simp[g,f]⟩)
  (λe s r B g t=>by
   have O:=iy (B.mem.own 0 _ _ _ h0) C;simp only[ab,ae]at g;simp[U.qT,g,C,H,O]at t;subst t;exact⟨_,_,rfl,B,by simp[g]⟩)
 rcases hq with⟨_,_,_,_,h⟩|⟨_,e',s',h1,h2,h3⟩
 .exact h.elim
 exact⟨e',s',h1,h2,h3⟩
def X4(M:of.length=x.nx.length){d:az}(O:∀j∈d,j<x.nx.length)(hl:d.length<=400){t:Nat}(ht:t<x.nx.length){e:En}{s:HS}{o:Out}{o2 o5 o6:Ky}{v3 v7 v8 v9 v10:HV}{F:bM}
  (f:bB e [(1,.aw x.c),(2,.ptr o2 0),(3,v3),(4,.psl (of.map iC)),(5,.ptr o5 0),(6,.sl o6 0 d.length 1),(7,v7),(8,v8),(9,v9),(10,v10),(11,iV t),(14,iV 0)])
  (P:cu s (.sl o6 0 d.length 1) 1 F (d.map nC))(Q:bO R (.loop U.tD) e s=o):
  ∃e',o=.code (.exit 6) e' s/\bB e' [(1,.aw x.c),(2,.ptr o2 0),(3,v3),(4,.psl (of.map iC)),(5,.ptr o5 0),(6,.sl o6 0 d.length 1),(7,v7),(8,v8),(9,v9),(10,v10),(11,iV t),(14,iV (ng of d t))]:=by
 have p:t<of.length:=by omega
 have T:=jd Q d.length (λk=>∀h:k<d.length,decide (of.getD d[k] 0=of.getD t 0)=false)
  (λk=>[(1,.aw x.c),(2,.ptr o2 0),(3,v3),(4,.psl (of.map iC)),(5,.ptr o5 0),(6,.sl o6 0 d.length 1),(7,v7),(8,v8),(9,v9),(10,v10),(11,iV t),(14,iV k)])
  [(1,.aw x.c),(2,.ptr o2 0),(3,v3),(4,.psl (of.map iC)),(5,.ptr o5 0),(6,.sl o6 0 d.length 1),(7,v7),(8,v8),(9,v9),(10,v10),(11,iV t),(14,iV d.length)] 6
  (λk o=>∃e',o=.code (.exit 6) e' s/\bB e' [(1,.aw x.c),(2,.ptr o2 0),(3,v3),(4,.psl (of.map iC)),(5,.ptr o5 0),(6,.sl o6 0 d.length 1),(7,v7),(8,v8),(9,v9),(10,v10),(11,iV t),(14,iV k)]) f
  (λk e r g f q=>by
   have u:(k:Int)<d.length:=by omega
   have B:d[k]<of.length:=by have:=O _ (cb g);omega
   have V:=br (n:=400) (show k<400 by omega) (by omega);have D:=iy P g;have E:=getD_at B (0:Int);have H:=getD_at p (0:Int);simp only[ab,ae]at f;by_cases z:of[d[k]]=of[t]
   .simp[U.tD,f,g,u,B,p,D,z]at q;subst q;exact .inr ⟨λh=>(by have:=h g;rw[E,H,z]at this;simp at this),by simp,_,rfl,by simp[f]⟩
   simp[U.tD,f,g,u,B,p,V,D,z]at q;subst q;exact .inl ⟨λ_=>(by rw[E,H];simp[z]),_,rfl,by simp[f]⟩)
  (λe r f q=>by
   simp only[ab,ae]at f;simp[U.tD,f]at q;subst q;exact⟨_,rfl,by simp[f]⟩)
 unfold ng;rcases T with⟨k,g,X,Y,e',rfl,C⟩|⟨y,e',rfl,C⟩
 .have Z:decide (of.getD d[k] 0=of.getD t 0)=true:=by
   cases h:decide (of.getD d[k] 0=of.getD t 0)
   .exact absurd (λ_=>h) Y
   rfl
  rw[rp g (λj hj=>X j hj (by omega)) Z];exact⟨e',rfl,C⟩
 rw[BV (λk g=>y k g g)];exact⟨e',rfl,C⟩
end
def ql(row:bu)(aZ:cf)(m:Mv):GG row aZ m= -1∨∃e∈row,im aZ m e=true/\GG row aZ m=(e.to:Int):=by
 rcases sv row with h|⟨r,e,h⟩
 .subst h;exact .inl rfl
 rw[h,tW,Dw]
 split
 .rename_i d;exact .inr ⟨e,by simp,d,rfl⟩
 rcases ql r aZ m with c|⟨f,c,g,j⟩
 .exact .inl c
 exact .inr ⟨f,by simp[c],g,j⟩
termination_by row.length
decreasing_by simp[h]
def ze(of:bb)(aZ:cf)(row:bu)(p:List Nat×List Eg)(m:Mv):List Nat×List Eg:=
 let t:=GG row aZ m
 if t<0 then p else
  let a:=ng of p.1 t.toNat
  (if a=p.1.length then p.1++[t.toNat]else p.1,p.2++[⟨m,a⟩])
def mW(of:bb)(aZ:cf)(row:bu)(c:az)(ms:bE):List Nat×List Eg:=ms.foldl (ze of aZ row) (c,[])
def H9(of:bb)(aZ:cf)(row:bu)(c:az)(ms:bE)(m:Mv):mW of aZ row c (ms++[m])=ze of aZ row (mW of aZ row c ms) m:=by simp[mW]
structure iq(n:Nat)(of:bb)(met:az):Prop where
 lt:∀j∈met,j<n
 nd:(met.map λj=>of.getD j 0).Nodup
def yC:∀(n:Nat) (l:az),l.Nodup->(∀k∈l,k<n)->l.length<=n
 |0,l,_,h=>by cases l with|nil=>simp|cons a r=>have:=h a (by simp);omega
 |n+1,l,c,h=>by
  have d:=yC n (l.erase n) (c.erase n) (λk f=>by
   have g:=h k (List.mem_of_mem_erase f);have j:k≠n:=λe=>by subst e;exact c.not_mem_erase f
   omega)
  rw[List.length_erase]at d
  split at d<;>omega
def iq.len{n:Nat}{of:bb}{c:az}(h:iq n of c):c.length<=n:=
 yC n c (List.Pairwise.of_map _ (λa b (d:of.getD a 0≠of.getD b 0) e=>d (by rw[e])) h.nd) h.lt
def Dx{α:Type}(a b c:α)(M:List α):(a::(M++[b])).set (M.length+1) c=a::(M++[c]):=by simp
def Dy{α:Type}(a b:α)(M:List α):(a::(M++[b]))[M.length+1]?=some b:=by simp
def Sr{of:bb}{c:az}{t:Nat}:ng of c t<=c.length:=Ss
def iq.snoc{n:Nat}{of:bb}{c:az}(h:iq n of c){t:Nat}(p:t<n)(q:ng of c t=c.length):iq n of (c++[t]):=by
 refine⟨λj d=>?_,?_⟩
 .rcases l5.1 d with f|f
  .exact h.lt j f
  rw[cr.1 f];exact p
 rw[eU,bX,lO];refine tB.2 ⟨h.nd,by simp,λa g b r=>?_⟩;rw[cr.1 r];obtain⟨j,d,rfl⟩:=cU.1 g;have:=(So.1 q) j d;simpa using this
section
variable{x:Fa}{aZ:cf}{of:bb}
def X5(hx:bA x)(hu:aZ.length=x.nx.length)(h3:of.length=x.nx.length){f:az}(h0:iq x.nx.length of f){j i:Nat}(C:f[j]?=some i){ms:bE}(h8:ms.length<=6000){e:En}{s:HS}{o:Out}{o2 o5:Ky}{v6:HV}{ao:aW}{M:cq}{K:de}
  (B:bB e [(1,.aw x.c),(2,.ptr o2 0),(3,.psl (aZ.map bC)),(4,.psl (of.map iC)),(5,.ptr o5 0),(6,v6),(7,iV j),(8,.ah),(9,.psl (ms.map Mv.c)),(10,iV 0)])
  (H:aI s ao ((v6,1,f.map nC)::(M++[(.ah,5,[])])) K)(Q:bO R (.loop U.w5) e s=o):
  ∃(e':En) (s':HS) (ao:aW) (v6 v8:HV) (d:az) (es:bu),o=.code (.exit 2) e' s'/\bB e' [(1,.aw x.c),(2,.ptr o2 0),(3,.psl (aZ.map bC)),(4,.psl (of.map iC)),(5,.ptr o5 0),(6,v6),(7,iV j),(8,v8)]/\
   aI s' ao ((v6,1,d.map nC)::(M++[(v8,5,es.map Eg.c)])) K/\(d,es)=mW of aZ (x.nx.getD i []) f ms/\iq x.nx.length of d/\d[j]?=some i/\es.length<=ms.length:=by
 have T:i<x.nx.length:=h0.lt i (cE C);have hn:=hx.n;revert o;show∀o,_;refine ajX ms.length
  (λk e s=>∃(ao:aW) (v6 v8:HV) (d:az) (es:bu),bB e [(1,.aw x.c),(2,.ptr o2 0),(3,.psl (aZ.map bC)),(4,.psl (of.map iC)),(5,.ptr o5 0),(6,v6),(7,iV j),(8,v8),(9,.psl (ms.map Mv.c)),(10,iV k)]/\
   aI s ao ((v6,1,d.map nC)::(M++[(v8,5,es.map Eg.c)])) K/\(d,es)=mW of aZ (x.nx.getD i []) f (ms.take k)/\iq x.nx.length of d/\d[j]?=some i/\es.length<=k)
  0 (by omega) ⟨ao,v6,.ah,f,[],B,H,rfl,h0,C,by simp⟩ ?_ ?_
 .rintro k e s r hk ⟨ao,v6,v8,d,es,B,H,hR,O,C,he⟩ u
  obtain⟨P,V⟩:=aU.1 C;have h4:(k:Int)<ms.length:=by omega
  have hw:=br (n:=6000) (show k<6000 by omega) (by omega);have h9:=O.len;obtain⟨o6,rfl⟩:=(H.mem.own 0 _ _ _ rfl).gP (by intro h;have:=ch List.length h;simp at this;subst this;simp at P);rw[bz]at B H;have q:mW of aZ (x.nx.getD i []) f (ms.take (k+1))=ze of aZ (x.nx.getD i []) (d,es) ms[k]:=by rw[eW hk,H9,<-hR]
  rw[getD_at T]at q;simp only[ab,ae]at B;simp-implicitDefEqProofs[U.w5,B,h4]at u;generalize Q:bO R (.loop U.qT) _ _=o at u;obtain⟨e1,s1,rfl,D,p⟩:=X3 (o2:=o2) (o5:=o5) (of:=of) (v8:=v8) (ms:=ms) hx hu P (by rw[V];exact T) hk (by simp[B]) H rfl Q;clear Q;simp only[V]at p;rcases ql x.nx[i] aZ ms[k]with X|⟨g,h5,hb,X⟩
  .rw[X]at p;simp only[ab,ae]at p;simp-implicitDefEqProofs[p,hw]at u;subst u;refine .inl ⟨_,_,rfl,_,_,_,d,es,by simp[p],D,?_,O,C,by omega⟩;rw[getD_at T,q];simp[ze,X]
  rw[X]at p;have Y:=hx.to _ (cb T) _ h5;have Z:¬((g.to:Int)<0):=by omega
  have gw:ze of aZ x.nx[i] (d,es) ms[k]=(if ng of d g.to=d.length then d++[g.to]else d,es++[Eg.mk ms[k] (ng of d g.to)]):=by simp[ze,X,Z]
  rw[gw]at q;simp only[ab,ae]at p;simp-implicitDefEqProofs[p,Z]at u;generalize Q:bO R (.loop U.tD) _ _=o at u;obtain⟨e2,rfl,y⟩:=X4 (o2:=o2) (o5:=o5) (v3:=.psl (aZ.map bC)) (v7:=iV j) (v8:=v8) (v9:=.psl (ms.map Mv.c)) (v10:=iV k) (t:=g.to) h3 O.lt (by omega) Y (by simp[p]) (D.mem.own 0 _ _ _ rfl) Q;clear Q;simp only[ab,ae]at y;by_cases ha:ng of d g.to=d.length
  .rw[au ha]at q;have E:(ng of d g.to:Int)=d.length:=by omega
   obtain⟨hd,s2,h7,a1,c1,h1⟩:=D.append 0 rfl (new:=[[iV g.to]]) (Sz.cons rfl Sz.nil) (by simp) (bI:=17592186044416) (by simp;omega);simp only[aO]at h1;obtain⟨h6,s3,h2,a2,c2,z⟩:=h1.append (M.length+1) (Dy _ _ _) (new:=[(Eg.mk ms[k] (ng of d g.to)).c]) (Sz.cons rfl Sz.nil) (by simp) (bI:=3518437208883) (by simp;omega);rw[Dx,show d.map nC++[[iV g.to]]=(d++[g.to]).map nC by simp,show es.map Eg.c++[(Eg.mk ms[k] (ng of d g.to)).c]=(es++[Eg.mk ms[k] (ng of d g.to)]).map Eg.c by simp]at z;simp only[iV]at a1;simp only[Eg.c,E]at a2;simp[y,E,hk,a1,a2,hw]at u;subst u;exact .inl ⟨_,_,rfl,_,_,_,d++[g.to],es++[Eg.mk ms[k] (ng of d g.to)],by simp[y],z,by rw[getD_at T,q],O.snoc Y ha,by rw[dD P];exact C,by simp;omega⟩
  rw[ar ha]at q;have E:¬(ng of d g.to:Int)=d.length:=by omega
  obtain⟨h6,s3,h2,a2,c2,z⟩:=D.append (M.length+1) (Dy _ _ _) (new:=[(Eg.mk ms[k] (ng of d g.to)).c]) (Sz.cons rfl Sz.nil) (by simp) (bI:=3518437208883) (by simp;omega);rw[Dx,show es.map Eg.c++[(Eg.mk ms[k] (ng of d g.to)).c]=(es++[Eg.mk ms[k] (ng of d g.to)]).map Eg.c by simp]at z;simp only[Eg.c]at a2;simp[y,E,hk,a2,hw]at u;subst u;exact .inl ⟨_,_,rfl,_,_,_,d,es++[Eg.mk ms[k] (ng of d g.to)],by simp[y],z,by rw[getD_at T,q],O,C,by simp;omega⟩
 rintro e s r ⟨ao,v6,v8,d,es,B,H,hR,O,C,he⟩ u
 simp only[ab,ae]at B;simp[U.w5,B]at u;subst u;rw[mP]at hR;exact⟨by simp,_,_,ao,v6,v8,d,es,rfl,by simp[B],H,hR,O,C,he⟩
end
def cQ(x:Fa)(of:bb)(aZ:cf):Nat->List Nat×List bu×List Bool
 |0=>([0],[],[])
 |i+1=>
  let p:=cQ x of aZ i
  if i<p.1.length then
   let row:=x.nx.getD (p.1.getD i 0) [];let q:=mW of aZ row p.1 (pO row)
   (q.1,p.2.1++[q.2],p.2.2++[x.fi.getD (p.1.getD i 0) false])
  else p
def J2{x:Fa}{of:bb}{aZ:cf}{i:Nat}{c:az}{rows:List bu}{fin:cf}(h:(c,rows,fin)=cQ x of aZ i)(f:i<c.length){d:az}{es:bu}(g:(d,es)=mW of aZ (x.nx.getD c[i] []) c (pO (x.nx.getD c[i] []))):
  (d,rows++[es],fin++[x.fi.getD c[i] false])=cQ x of aZ (i+1):=by
 rw[cQ,<-h];simp only[f,bp,getD_at f];rw[<-g]
def sy{x:Fa}{of:bb}{aZ:cf}{i:Nat}(h:(cQ x of aZ i).1.length<=i)(d:Nat):cQ x of aZ (i+d)=cQ x of aZ i:=by induction d with|zero=>rfl|succ d c=>show cQ x of aZ ((i+d)+1)=_;rw[cQ,c];simp only[];rw[ar (by omega)]
def ou(x:Fa)(of:bb)(aZ:cf):Fa:=⟨(cQ x of aZ x.nx.length).2.1,(cQ x of aZ x.nx.length).2.2⟩
section
variable{x:Fa}{aZ:cf}{of:bb}
def X6(H:bA x)(hu:aZ.length=x.nx.length)(h4:of.length=x.nx.length){e:En}{s:HS}{o:Out}{o2 o5:Ky}{v6:HV}{ao:aW}
  (g:bB e [(1,.aw x.c),(2,.ptr o2 0),(3,.psl (aZ.map bC)),(4,.psl (of.map iC)),(5,.ptr o5 0),(6,v6),(7,iV 0)])
  (p:aI s ao [(v6,1,[0].map nC),(.ah,1,[]),(.ah,1,[])] [(o5,[.ah,.ah]),(o2,[.ah,.ah])])(ho:bO R (.loop U.tE) e s=o):
  ∃(e':En) (s':HS) (ao:aW) (v6 vN vF:HV) (d:az) (aE:cq),o=.code (.exit 0) e' s'/\bB e' [(2,.ptr o2 0),(5,.ptr o5 0)]/\
   aI s' ao ((v6,1,d.map nC)::(vN,1,aE.map gP)::(vF,1,(ou x of aZ).fi.map bC)::aE) [(o5,[vN,vF]),(o2,[.ah,.ah])]/\aE.map (·.2)=(ou x of aZ).nx.map (λes=>(5,es.map Eg.c)):=by
 have hn:=H.n;have hz:=H.nf;have hs:=H.pos;revert o;show∀o,_;refine ajX x.nx.length
  (λi e s=>∃(ao:aW) (v6 vN vF:HV) (d:az) (aE:cq) (rows:List bu) (fin:cf),bB e [(1,.aw x.c),(2,.ptr o2 0),(3,.psl (aZ.map bC)),(4,.psl (of.map iC)),(5,.ptr o5 0),(6,v6),(7,iV i)]/\
   aI s ao ((v6,1,d.map nC)::(vN,1,aE.map gP)::(vF,1,fin.map bC)::aE) [(o5,[vN,vF]),(o2,[.ah,.ah])]/\aE.map (·.2)=rows.map (λes=>(5,es.map Eg.c))/\(d,rows,fin)=cQ x of aZ i/\iq x.nx.length of d/\i<=d.length/\0<d.length/\aE.length=i/\fin.length=i)
  0 (by omega) ⟨ao,v6,.ah,.ah,[0],[],[],[],g,p,rfl,rfl,⟨λj hj=>by simp at hj;omega,by simp⟩,by simp,by simp,rfl,rfl⟩ ?_ ?_
 .rintro i e s r hi ⟨ao,v6,vN,vF,d,aE,rows,fin,g,p,hI,O,P,h5,hp,Q,T⟩ u
  have hw:=br (n:=400) (show i<400 by omega) (by omega);have h6:=P.len;obtain⟨o6,rfl⟩:=(p.mem.own 0 _ _ _ rfl).gP (by intro h;have:=ch List.length h;simp at this;subst this;simp at hp);rw[bz]at g p;simp only[ab,ae]at g;by_cases V:i<d.length
  .have q:(i:Int)<d.length:=by omega
   have hm:=P.lt _ (cb V);have g6:=iy (p.mem.own 0 _ _ _ rfl) V;have C:=XX x.nx H.rows [d[i]] (by simp) (by simpa using hm) s0;rw[show fY x.nx [d[i]]=x.nx.getD d[i] [] by simp[fY]]at C;have t:R (.call 94 [.agg [.psl (x.nx.map oG),.ah,.ah],.psl [[iV d[i]]]] s)=.val (.psl ((pO (x.nx.getD d[i] [])).map Mv.c)) s:=by
    refine yx 94 U.f142 _ [.agg [.psl (x.nx.map oG),.psl [],.psl []],.psl [[iV d[i]]]] _ s rfl rfl rfl ?_ (by simp[dv,eo]) ?_ (by simp) C
    .have:=gF _ (pM x.nx);simp only[cI,cm,this,iA,jL]
    have:=iW _ (pM x.nx);simp only[oH,nn,this,qp]
   simp only[iV]at t;have X:(pO (x.nx.getD d[i] [])).length<=6000:=by have h1:=su (x.nx.getD d[i] []);rw[getD_at hm]at h1 ⊢;have:=H.row hm;omega
   simp[U.tE,g,V,q,g6,t]at u;generalize ho:bO R (.loop U.w5) _ _=o at u;obtain⟨e1,s1,ht,v6,v8,D,es,rfl,y,f,hR,h7,h8,k0⟩:=X5 (o2:=o2) (o5:=o5) (ms:=pO (x.nx.getD d[i] [])) (M:=(vN,1,aE.map gP)::(vF,1,fin.map bC)::aE) H hu h4 P (j:=i) (aX V) X (by simp[g]) (p.push 5) ho;clear ho;obtain⟨z,h9⟩:=aU.1 h8;obtain⟨ha,rfl⟩:=(f.mem.own 0 _ _ _ rfl).gP (by intro h;have:=ch List.length h;simp at this;subst this;simp at z);rw[bz]at y f;simp only[bo]at f;have c8:cellsOf v8=some [v8]:=(f.mem.own (aE.length+3) v8 5 _ (by simp;rfl)).one;have g1:=iy (f.mem.own 0 _ _ _ rfl) z;have hb:=(f.bm 0 o5 _ rfl).1.1;obtain⟨hd,s2,hy,a1,c1,B⟩:=f.append 1 rfl (new:=[[v8]]) (Sz.cons rfl Sz.nil) (by simp) (bI:=5864062014805) (by simp;omega);simp only[bJ,aO]at B;have g2:=iy (B.mem.own 0 _ _ _ rfl) z;have hf:=(B.bm 0 o5 _ rfl).1.1;rw[h9]at g1 g2;have Y:d[i]<x.fi.length:=by omega
   obtain⟨hg,s3,Z,a2,c2,h2⟩:=B.append 2 rfl (new:=[bC x.fi[d[i]]]) (Sz.cons rfl Sz.nil) (by simp) (bI:=140737488355328) (by simp;omega);simp only[bJ,aO]at h2;obtain⟨s4,b1,h3⟩:=h2.yB (a:=0) rfl 0 (by simp) c1;simp only[aO]at h3;obtain⟨s5,b2,E⟩:=h3.yB (a:=0) rfl 1 (by simp) c2;simp only[bJ,aO]at E;simp only[bC]at a2;simp only[ab,ae]at y;simp[y,hb,hf,z,g1,g2,Y,c8,a1,a2,b1,b2,hw]at u;subst u;have gw:=J2 O V hR;refine .inl ⟨_,_,rfl,Z,.sl ha 0 D.length 1,hd,hg,D,aE++[(v8,5,es.map Eg.c)],rows++[es],fin++[x.fi[d[i]]],by simp[y],?_,by simp[hI],?_,h7,by omega,by omega,by simp[Q,T]⟩
   .rw[show aE.map gP++[[v8]]=(aE++[(v8,5,es.map Eg.c)]).map gP by simp,show fin.map bC++[bC x.fi[d[i]]]=(fin++[x.fi[d[i]]]).map bC by simp]at E;exact E
   rw[getD_at Y]at gw;exact gw
  have hl:i=d.length:=by omega
  have q:¬(i:Int)<d.length:=by omega
  simp[U.tE,g,q]at u;subst u;have gw:=sy (x:=x) (of:=of) (aZ:=aZ) (i:=i) (by rw[<-O];exact pn hl.symm) (x.nx.length-i);rw[show i+(x.nx.length-i)=x.nx.length by omega,<-O]at gw;have hq:ou x of aZ=⟨rows,fin⟩:=by unfold ou;rw[gw]
  rw[hq];exact .inr ⟨by simp,_,_,_,_,_,_,d,aE,rfl,by simp[g],p,hI⟩
 rintro e s r ⟨ao,v6,vN,vF,d,aE,rows,fin,g,p,hI,O,P,h5,hp,Q,T⟩ u
 have h6:=P.len;obtain⟨o6,rfl⟩:=(p.mem.own 0 _ _ _ rfl).gP (by intro h;have:=ch List.length h;simp at this;subst this;simp at hp);rw[bz]at g p;simp only[ab,ae]at g;have q:¬(x.nx.length:Int)<d.length:=by omega
 simp[U.tE,g,q]at u;subst u;have hq:ou x of aZ=⟨rows,fin⟩:=by unfold ou;rw[<-O]
 rw[hq];exact⟨by simp,_,_,_,_,_,_,d,aE,rfl,by simp[g],p,hI⟩
end
def X7:∃ao,aI (HS.mk (.nd (some (.cells (cP [.ah,.ah]) 0 2 .e)) (.nd (some (.cells (cP [.ah,.ah]) 0 2 (.z .e))) .lf .lf) (.nd (some (.cells (cP [.int .i64 0]) 0 1 (.o .e))) .lf .lf)) (.z (.z .e)) (.nd (some [.e]) (.nd (some [.z .e]) .lf .lf) (.nd (some [.o .e]) .lf .lf)) .lf) ao
  [(.sl (.o .e) 0 1 1,1,[0].map nC),(.ah,1,[]),(.ah,1,[])] [(.z .e,[.ah,.ah]),(.e,[.ah,.ah])]:=by
 have f:∀(k:Ky) (i:Nat),(if k=Ky.o .e then some 0 else none)=some i->k.toNat<3/\i=0:=λk i p=>by
  by_cases h:k=.o .e
  .subst h;rw[au rfl]at p;cases p;exact⟨by decide,rfl⟩
  rw[ar h]at p;cases p
 refine⟨λk=>if k=.o .e then some 0 else none,⟨λk i p=>(f k i p).1,λk i p=>by rw[(f k i p).2];decide,λi v B t q=>?_⟩,λa o c g=>?_,λa b o c d g f=>?_⟩
 .match i,q with
  |0,q=>
   cases q;refine⟨Sz.cons rfl Sz.nil,λk p=>(f k _ p).1,.inr ⟨.o .e,_,_,.o .e,[],rfl,rfl,by decide,λj u=>?_,rfl,by simp,λm y=>?_,au rfl⟩⟩
   .have r:j=0:=by simp at u;omega
    subst r;rfl
   rw[cr.1 y];exact au rfl
  |1,q=>cases q;exact⟨Sz.nil,λk p=>(f k _ p).1,.inl ⟨rfl,rfl⟩⟩
  |2,q=>cases q;exact⟨Sz.nil,λk p=>(f k _ p).1,.inl ⟨rfl,rfl⟩⟩
  |n+3,q=>simp at q
 .match a,g with
  |0,g=>cases g;exact⟨⟨rfl,rfl,by decide⟩,rfl⟩
  |1,g=>cases g;exact⟨⟨rfl,rfl,by decide⟩,rfl⟩
  |n+2,g=>simp at g
 match a,b,g,f with
 |0,0,_,_=>rfl
 |1,1,_,_=>rfl
 |0,1,g,f=>cases g;cases f
 |1,0,g,f=>cases g;cases f
 |n+2,_,g,_=>simp at g
 |0,n+2,_,f=>simp at f
 |1,n+2,_,f=>simp at f
def afa(x:Fa)(C:bA x):∃(u:cf) (y:Fa),mQ x u/\(u[0]?=some false->y=j8)/\(u[0]?=some true->∃of,UO x u of/\y=ou x of u)/\∀s,R (.call 65 [.agg x.c] s)=.val (.agg y.c) s:=by
 obtain⟨u,D,d⟩:=ae2 x C;obtain⟨of,T,q⟩:=ae9 x C u D.1;simp only[Fa.c]at d q;have t:=aeN;simp only[j8,Fa.c]at t;have E:=C.pos;have B:0<u.length:=by rw[D.1];exact E
 have h0:u[0]?=some u[0]:=aX B;have V:of≠ []:=by have:=T.cls.len;intro h;subst h;simp at this;omega
 have X:∀s,zx 0 false (some (.psl (of.map iC))) s=.v (.bool false) s:=λs=>by cases of with|nil=>exact absurd rfl V|cons a r=>rfl
 cases Q:u[0]
 .rw[Q]at h0;refine⟨u,j8,D,λ_=>rfl,λh=>(by rw[h0]at h;cases h),λs=>Xu ?_⟩;simp[U.PU,s0,d,B,Q,t,aq,aA,an];simp[aa,j8]
 rw[Q]at h0;refine⟨u,ou x of u,D,λh=>(by rw[h0]at h;cases h),λ_=>⟨of,T,rfl⟩,λs=>Xu ?_⟩;simp[U.PU,s0,d,B,Q,q,X];obtain⟨ao,hM⟩:=X7;generalize hS:HS.mk _ _ _ _=S at hM ⊢;generalize ho:bO R (.loop U.tE) _ _=o;obtain⟨e1,s1,h3,v6,vN,vF,h5,aE,rfl,H,M,Y⟩:=X6 (o2:=.e) (o5:=.z .e) C D.1 T.cls.len (by simp) hM ho;clear ho;have hC:=(M.bm 0 _ _ rfl).1.1;obtain⟨s2,b2,j⟩:=M.put (a:=1) rfl (v:=.agg [vN,vF]) (new:=[vN,vF]) (by simp) rfl;simp only[bJ,aO]at j;have hE:=(j.bm 1 _ _ rfl).1.1;simp only[aB,aC,bn,Nat.reduceAdd]at b2 hE hC;simp only[ab,ae]at H;simp[H,hC,an,b2,hE];refine aY (.agg (.cons ?_ (.cons ?_ .nil)))
 .have Z:=((j.mem.own 1 _ _ _ rfl).vwH (f:=λe:tO=>e.1) (g:=λe:tO=>HV.psl e.2.2) (n:=14) (λx C=>?_))
  .have:aE.map (λx=>[HV.psl x.2.2])=(ou x of u).nx.map oG:=by
    have h:=ch (List.map λ(p:Nat×List ai)=>[HV.psl p.2]) Y;have O:oG=λx:bu=>[HV.psl (List.map Eg.c x)]:=rfl
    rw[O];simpa[tP]using h
   rw[<-this];exact Z
  obtain⟨k,hk,rfl⟩:=eO.1 C;have h2:=ch (λl=>l[k]?) Y;simp[hk]at h2;have hlen:aE.length=(ou x of u).nx.length:=by have:=ch List.length Y;simpa using this
  have h1:k<(ou x of u).nx.length:=by omega
  have h4:aE[k].2=(5,((ou x of u).nx[k]).map Eg.c):=by simp[h1]at h2;exact h2.symm▸rfl
  have P:=j.mem.own (k+3) aE[k].1 5 (((ou x of u).nx[k]).map Eg.c) (by simp[hk];rw[<-h4]);rw[h4];exact P.vw (by simp)
 exact(j.mem.own 2 _ _ _ rfl).vw (by simp)
def Ay(of:bb)(aZ:cf)(row:bu):∀(ms:bE) (p:List Nat×List Eg),(ms.foldl (ze of aZ row) p).2.length<=p.2.length+ms.length
 |[],p=>by simp
 |m::r,p=>by
  have c:=Ay of aZ row r (ze of aZ row p m);have h:(ze of aZ row p m).2.length<=p.2.length+1:=by
   simp only[ze]
   split<;>simp
  simp only[nw,aB];omega
def GH{x:Fa}(d:bA x)(of:bb)(aZ:cf)(i:Nat):(cQ x of aZ i).2.1.length<=i/\(cQ x of aZ i).2.2.length<=i/\∀l∈(cQ x of aZ i).2.1,l.length<=6000:=by
 induction i with
 |zero=>exact⟨aV _,aV _,λl h=>by cases h⟩
 |succ i f=>
  obtain⟨p,q,c⟩:=f;rw[cQ];simp only[]
  split
  .refine⟨by simp;omega,by simp;omega,λl g=>?_⟩;rcases l5.1 g with h|h
   .exact c l h
   rw[cr.1 h];have j:=Ay of aZ (x.nx.getD ((cQ x of aZ i).1.getD i 0) []) (pO (x.nx.getD ((cQ x of aZ i).1.getD i 0) [])) ((cQ x of aZ i).1,[]);have r:=su (x.nx.getD ((cQ x of aZ i).1.getD i 0) []);have t:(x.nx.getD ((cQ x of aZ i).1.getD i 0) []).length<=6000:=by
    by_cases h:(cQ x of aZ i).1.getD i 0<x.nx.length
    .rw[getD_at h];exact d.row h
    rw[KP,qz (by omega)];simp
   simp only[aC]at j;unfold mW;omega
  exact⟨by omega,by omega,c⟩
def X8(x y:Fa):Prop:=∃u,mQ x u/\(u[0]?=some false->y=j8)/\(u[0]?=some true->∃of,UO x u of/\y=ou x of u)
def Oh(x:Fa)(d:bA x):∃y:Fa,X8 x y/\(y.nx.length<=400/\y.fi.length<=400/\∀l∈y.nx,l.length<=6000)/\∀s,R (.call 65 [.agg x.c] s)=.val (.agg y.c) s:=by
 obtain⟨u,y,g,j,p,r⟩:=afa x d;have q:=d.pos;have z:=d.n;refine⟨y,⟨u,g,j,p⟩,?_,r⟩;cases f:u[0]?with
 |none=>have:=Dz.1 f;have:=g.1;omega
 |some b=>
  cases b
  .rw[j f];exact⟨by decide,by decide,λl h=>by simp[j8]at h;subst h;simp⟩
  obtain⟨of,_,rfl⟩:=p f;obtain⟨B,C,t⟩:=GH d of u x.nx.length;exact⟨by unfold ou;simp only;omega,by unfold ou;simp only;omega,t⟩
open Classical in
def hZ(x:Fa):Fa:=if h:bA x then Classical.choose (Oh x h)else j8
def uN{x:Fa}(d:bA x):X8 x (hZ x)/\((hZ x).nx.length<=400/\(hZ x).fi.length<=400/\∀l∈(hZ x).nx,l.length<=6000)/\∀s,R (.call 65 [.agg x.c] s)=.val (.agg (hZ x).c) s:=by unfold hZ;rw[dif_pos d];exact Classical.choose_spec (Oh x d)
def FH(x:Ax):Prop:=∃y:Fa,x=y.i/\bA y/\rj y/\hZ y=y
def Fa.X9{x y:Fa}(h:x.i=y.i):x=y:=by
 obtain⟨q,r⟩:=x;obtain⟨t,u⟩:=y;unfold Fa.i at h;simp only[Ax.mk.injEq]at h;obtain⟨c,f⟩:=h;subst f;have g:∀a b:Eg,a.i=b.i->a=b:=λa b h=>by obtain⟨z,d⟩:=a;obtain⟨B,j⟩:=b;simp only[Eg.i,Ei.mk.injEq]at h;obtain⟨c,f⟩:=h;subst c;rw[show d=j by omega]
 have p:∀a b:bu,a.map Eg.i=b.map Eg.i->a=b:=λa b h=>IG (λx y=>g x y)|>.1 h
 rw[IG (λx y=>p x y)|>.1 c]
open Classical in
def w76(x:Ax)(C:mN x)(s:HS):R (.call 36 [.agg x.c] s)=.val (iV (if FH x then 0 else 4)) s:=by
 refine q76 ?_;have f:=aeJ x C;have d:=aeK x C;cases t:mo x
 .have:¬FH x:=by
   rintro⟨y,rfl,r,_,_⟩
   have T:=r.pos;have V:=r.nf;have X:=r.to;have:mo y.i=true:=by unfold mo;simp only[bY,Fa.i,bz];refine⟨T,V,λl Y e Z=>?_⟩;obtain⟨l',D,rfl⟩:=cU.1 Y;obtain⟨e',E,rfl⟩:=cU.1 Z;have:=X l' D e' E;simp only[Eg.i];omega
   rw[this]at t;cases t
  rw[ar this];rw[t]at d;simp only[Ax.c]at f d;simp[U.VA,f,d,aa]
 rw[t]at d;obtain⟨y,rfl,r⟩:=RY C t;have hc:=Fa.XH y;obtain⟨h2,⟨H,M,O⟩,p⟩:=uN r;have g:=aeL y r;have j:=aeM (hZ y) y H M O;have q:FH y.i↔rj y/\hZ y=y:=⟨λ⟨z,h1,_,P,Q⟩=>by have:=Fa.X9 h1;subst this;exact⟨P,Q⟩,λ⟨P,Q⟩=>⟨y,rfl,r,P,Q⟩⟩;rw[hc]at f d ⊢;simp only[Fa.c]at f d g j p;by_cases u:rj y
 .by_cases B:hZ y=y
  .rw[au (q.2 ⟨u,B⟩)];simp only[u,B,eV]at g j p;simp[U.VA,f,d,g,j,p,aa]
  rw[ar (λh=>B (q.1 h).2)];simp only[u,eV]at g;rw[cK B]at j;simp[U.VA,f,d,g,j,p,aa]
 rw[ar (λh=>u (q.1 h).1)];simp only[u,kY]at g;simp[U.VA,f,d,g,aa]
structure Mn where
 op:bE
 lost:Bool
 forced:Bool
 begun:Bool
 deriving DecidableEq,Inhabited
@[simp]def Mn.c(x:Mn):ai:=[.psl (x.op.map Mv.c),.bool x.lost,.bool x.forced,.bool x.begun]
structure Sn where
 st:Nat
 mn:Mn
 deriving DecidableEq,Inhabited
abbrev jT:=List Sn
@[simp]def Sn.c(x:Sn):ai:=[iV x.st,.psl (x.mn.op.map Mv.c),.bool x.mn.lost,.bool x.mn.forced,.bool x.mn.begun]
def Mn.over(x:Mn):Bool:=x.begun&&decide (x.op=[])
def Ya(x:Mn)(s:HS):R (.call 69 [.agg x.c] s)=.val (.bool x.over) s:=by
 refine acZ ?_;obtain⟨op,l,f,b⟩:=x;cases b
 .simp[U.LS,Mn.over,aa]
 cases op with
 |nil=>simp[U.LS,Mn.over,aa]
 |cons m r=>
  have h:¬((r.length:Int)+1=0):=by omega
  simp[U.LS,Mn.over,aa,h]
def afb(l l':bE)(O:l.length<=400)(s:HS):R (.call 25 [.psl (l.map Mv.c),.psl (l'.map Mv.c)] s)=.val (.bool (decide (l=l'))) s:=by
 refine Xt ?_;by_cases y:l.length=l'.length
 case neg=>
  have z:¬(l.length:Int)=l'.length:=by omega
  have h0:¬l=l':=λh=>y (by rw[h])
  rw[cK h0];simp[U.b23,z,aa]
 simp[U.b23,y];generalize C:bO R (.loop U.C9) _ _=o;have H:=jd C l.length (λi=>∀h:i<l.length,l[i]=l'[i]'(by omega)) (λi=>[(0,.psl (l.map Mv.c)),(1,.psl (l'.map Mv.c)),(5,iV i)]) [] 0 (λ_ o=>∃q,o=.code .ret q s0/\look q 4=some (.bool false)) (by simp)
  (λi e r t d f=>by
   have g:(i:Int)<l.length:=by omega
   have D:i<l'.length:=by omega
   have j:=ri l[i] l'[i];simp only[Mv.c]at j;simp only[ab,ae]at d;by_cases u:l[i]=l'[i]
   .rw[dq u]at j;simp[U.C9,d,t,g,D,j,br (n:=400) (show i<400 by omega) (by omega)]at f;subst f;exact .inl ⟨λ_=>u,_,rfl,by simp[d]⟩
   rw[cK u]at j;simp[U.C9,d,t,g,D,j]at f;subst f;exact .inr ⟨λh=>u (h t),by simp,_,rfl,by simp⟩)
  (λe r d f=>by
   simp only[ab,ae]at d;simp[U.C9,d]at f;subst f;exact⟨_,rfl,by simp⟩)
 clear C;rcases H with⟨i,t,_,B,q,rfl,M⟩|⟨p,q,rfl,_⟩
 .have h0:¬l=l':=λh=>B (λ_=>by subst h;rfl)
  simp[M,aa,h0]
 have h0:l=l':=qD y λi E P=>p i E E
 simp[aa,h0]
def nU(l:bE):List (Int×Int):=l.map λm=>(m.id,m.arg)
def afc(l l':bE)(O:l.length<=400)(s:HS):R (.call 68 [.psl (l.map Mv.c),.psl (l'.map Mv.c)] s)=.val (.bool (decide (nU l=nU l'))) s:=by
 refine acY ?_;by_cases y:l.length=l'.length
 case neg=>
  have z:¬(l.length:Int)=l'.length:=by omega
  have h0:¬nU l=nU l':=λh=>y (by have:=ch List.length h;simpa[nU]using this)
  rw[cK h0];simp[U.PV,z,aa]
 simp[U.PV,y];generalize D:bO R (.loop U.tF) _ _=o;have H:=jd D l.length (λi=>∀h:i<l.length,l[i].id=(l'[i]'(by omega)).id/\l[i].arg=(l'[i]'(by omega)).arg) (λi=>[(0,.psl (l.map Mv.c)),(1,.psl (l'.map Mv.c)),(5,iV i)]) [] 0 (λ_ o=>∃t,o=.code .ret t s0/\look t 4=some (.bool false)) (by simp)
  (λi e r g f d=>by
   have j:(i:Int)<l.length:=by omega
   have B:i<l'.length:=by omega
   simp only[ab,ae]at f;by_cases p:l[i].id=l'[i].id
   .by_cases u:l[i].arg=l'[i].arg
    .simp[U.tF,f,g,j,B,p,u,br (n:=400) (show i<400 by omega) (by omega)]at d;subst d;exact .inl ⟨λ_=>⟨p,u⟩,_,rfl,by simp[f]⟩
    simp[U.tF,f,g,j,B,p,u]at d;subst d;exact .inr ⟨λh=>u (h g).2,by simp,_,rfl,by simp⟩
   simp[U.tF,f,g,j,B,p]at d;subst d;exact .inr ⟨λh=>p (h g).1,by simp,_,rfl,by simp⟩)
  (λe r f d=>by
   simp only[ab,ae]at f;simp[U.tF,f]at d;subst d;exact⟨_,rfl,by simp⟩)
 clear D;rcases H with⟨i,g,_,C,t,rfl,M⟩|⟨q,t,rfl,_⟩
 .have h0:¬nU l=nU l':=λh=>C (λ_=>by
   have:=ch (λl=>l[i]?) h;simpa[nU,g,show i<l'.length by omega]using this)
  simp[M,aa,h0]
 have h0:nU l=nU l':=qD (by simpa[nU]using y) λi E P=>by have:=q i (by simpa[nU]using E) (by simpa[nU]using E);simp[nU,this]
 simp[aa,h0]
def Yb(x y:Sn)(r:x.mn.op.length<=400)(s:HS):R (.call 72 [.agg x.c,.agg y.c] s)=.val (.bool (decide (x=y))) s:=by
 refine ac2 ?_;obtain⟨p,op,l,f,b⟩:=x;obtain⟨d,g,t,u,z⟩:=y;have h:=afb op g (by simpa using r);by_cases q:p=d
 .subst q;cases l<;>cases t<;>cases f<;>cases u<;>cases b<;>cases z<;>simp[U.P7,h,aa]
 have j:¬(p:Int)=d:=by omega
 simp[U.P7,q,j,aa]
def vr(top m:Mv):Bool:=decide (m.id=top.id)&&decide (m.arg=top.arg)&&decide (m.kind=3)&&(decide (top.kind=1)||decide (m.n<=0))
def ir(a:Ar)(x:Mn)(m:Mv):Bool:=
 if gT a m then
  if x.begun then
   match x.op.getLast? with
   |none=>false
   |some top=>
    if x.lost||x.forced then vr top m&&dH m
    else if dS m then
     if decide (0<top.id)&&decide (top.arg=0)then decide (m.id=top.id)&&decide (0<m.arg)else decide (0<m.id)&&decide (m.arg=0)
    else if dH m&&decide (top.arg=0)then vr top m&&decide (0<top.id)&&a.jumps
    else vr top m
  else decide (m.id=0)&&dS m
 else false
section
variable{m top:Mv}{e:En}{s:HS}{o:Ky}
def St(f:look e 5=some (.aw m.c))(g:look e 7=some (.ptr o 0))(d:aj s.h o=some (.cells (cP top.c) 0 4 o)):bO R U.fP e s=.code .normal (e.oE 8 (.bool (vr top m))) s:=by
 simp only[Mv.c]at f d;unfold vr;by_cases j:m.id=top.id
 .by_cases p:m.arg=top.arg
  .by_cases q:m.kind=3
   .by_cases r:top.kind=1<;>simp[f,g,d,j,p,q,r]
   simp[f,g,d,j,p,q]
  simp[f,g,d,j,p]
 simp[f,g,d,j]
end
def Yc(a:Ar)(ok:fz a)(Q:aQ a=0)(x:Mn)(C:x.op.length<=400)(m:Mv)(s:HS):R (.call 70 [.agg x.c,.agg a.c,.agg m.c] s)=.val (.bool (ir a x m)) s:=by
 refine ac0 ?_;obtain⟨op,l,f,b⟩:=x;have d:=aeH a ok Q m;have g:=w75 m;have j:=w28 m;unfold ir;simp only[Ar.c,Mv.c]at d g j;cases D:gT a m
 .rw[D]at d;simp-implicitDefEqProofs[-U.fP,U.HQ,d,aa]
 rw[D]at d;cases b
 .by_cases h0:m.id=0
  .simp only[h0]at g d;simp-implicitDefEqProofs[-U.fP,U.HQ,d,g,aa,h0]
  simp-implicitDefEqProofs[-U.fP,U.HQ,d,aa,h0]
 by_cases E:op.length=0
 .have h:=ja E;subst h;simp-implicitDefEqProofs[-U.fP,U.HQ,d,aa]
 obtain⟨n,H⟩:∃n,op.length=n+1:=⟨op.length-1,by omega⟩;have C:op.length<=400:=C;have z:n<op.length:=by omega
 have T:bT .i64 ((op.length:Int)-1)=n:=by rw[H];simp;exact cx (by omega) (by omega)
 have p:op.getLast?=some op[n]:=by rw[Su,H];simp
 rw[p];generalize y:op[n]=top;have B:op≠ []:=λh=>E (by rw[h];rfl)
 simp-implicitDefEqProofs[-U.fP,U.HQ,d,B,T,z,y,s0,aq,aA];rw[St (m:=m) (top:=top) (o:=.e) (by simp) (by simp) (by simp)];generalize vr top m=M;cases q:(l||f)
 .obtain⟨rfl,rfl⟩:l=false/\f=false:=by revert q;cases l<;>cases f<;>simp
  cases O:dS m
  .rw[O]at g;cases P:dH m
   .rw[P]at j;simp[-U.fP,g,j,aa]
   rw[P]at j;by_cases r:top.arg=0
   .cases M
    .simp[-U.fP,g,j,r,aa]
    by_cases u:0<top.id<;>simp[-U.fP,g,j,r,u,aa]
   simp[-U.fP,g,j,r,aa]
  rw[O]at g;by_cases u:0<top.id
  .by_cases r:top.arg=0
   .by_cases t:m.id=top.id
    .simp only[t]at g;simp[-U.fP,g,u,r,t,aa]
    simp[-U.fP,g,u,r,t,aa]
   by_cases t:0<m.id<;>simp[-U.fP,g,u,r,t,aa]
  by_cases t:0<m.id<;>simp[-U.fP,g,u,t,aa]
 cases M
 .cases l
  .cases f
   .cases q
   simp[-U.fP,aa]
  simp[-U.fP,aa]
 cases l
 .cases f
  .cases q
  simp[-U.fP,j,aa]
 simp[-U.fP,j,aa]
def Oi(l:Bool):∃ao,aI (HS.mk (.nd (some (.cells (cP [.ah,.bool false,.bool false,.bool false]) 0 4 .e)) (.nd (some (.cells (cP [.ah,.bool l,.bool false,.bool true]) 0 4 (.z .e))) .lf .lf) (.nd (some (.cells (cP []) 0 0 (.o .e))) .lf .lf)) (.z (.z .e)) (.nd (some [.e]) (.nd (some [.z .e]) .lf .lf) (.nd (some [.o .e]) .lf .lf)) .lf) ao
  [(.sl (.o .e) 0 0 4,4,[])] [(.z .e,[.ah,.bool l,.bool false,.bool true]),(.e,[.ah,.bool false,.bool false,.bool false])]:=by
 have g:∀(k:Ky) (i:Nat),(if k=Ky.o .e then some 0 else none)=some i->k.toNat<3/\i=0:=λk i p=>by
  by_cases h:k=.o .e
  .subst h;rw[au rfl]at p;cases p;exact⟨by decide,rfl⟩
  rw[ar h]at p;cases p
 refine⟨λk=>if k=.o .e then some 0 else none,⟨λk i p=>(g k i p).1,λk i p=>by rw[(g k i p).2];decide,λi v y r q=>?_⟩,λa o c f=>?_,λa b o c d f g=>?_⟩
 .match i,q with
  |0,q=>
   cases q;refine⟨Sz.nil,λk p=>(g k _ p).1,.inr ⟨.o .e,_,_,.o .e,[],rfl,rfl,by decide,λj t=>?_,rfl,by simp,λm u=>?_,au rfl⟩⟩
   .simp at t
   rw[cr.1 u];exact au rfl
  |n+1,q=>simp at q
 .match a,f with
  |0,f=>cases f;exact⟨⟨rfl,rfl,by show Ky.toNat (.z .e)<Ky.toNat (.z (.z .e));decide⟩,rfl⟩
  |1,f=>cases f;exact⟨⟨rfl,rfl,by show Ky.toNat .e<Ky.toNat (.z (.z .e));decide⟩,rfl⟩
  |n+2,f=>simp at f
 match a,b,f,g with
 |0,0,_,_=>rfl
 |1,1,_,_=>rfl
 |0,1,f,g=>cases f;cases g
 |1,0,f,g=>cases f;cases g
 |n+2,_,f,_=>simp at f
 |0,n+2,_,g=>simp at g
 |1,n+2,_,g=>simp at g
def aI.add{s:HS}{ao:aW}{K:de}{v:HV}{sz:Nat}{ak:aP}(h:aI s ao [(v,sz,ak)] K){new:aP}(f:Sz sz new){bI:Nat}(g:ak.length+new.length<=bI):
  ∃d s' c,j0 sz bI none (some v) (some (.psl new)) s=.v d s'/\aI s' c [(d,sz,ak++new)] K:=by
 by_cases h0:new=[]
 .subst h0;exact⟨v,s,ao,kQ (h.mem.own 0 _ _ _ rfl).gZ,by rw[qE];exact h⟩
 obtain⟨d,s',c,j,_,p⟩:=h.append 0 rfl f h0 g;exact⟨d,s',c,j,p⟩
def gL(x:Mn)(m:Mv):Mn:=
 if dS m then⟨x.op++[m],x.lost,false,true⟩
 else⟨x.op.dropLast,x.lost||(dH m&&decide (0<m.id)&&decide (m.arg=0)&& !x.forced),dH m&&decide (0<m.arg),true⟩
section
variable{m:Mv}{e:En}{s s':HS}{o:Ky}
def Sv(f:look e 3=some (.aw m.c))(g:look e 5=some (.ptr o 0))(gw:qh 1 (some (.ptr o 2)) (some (.bool (dH m&&decide (0<m.arg)))) s=.v .undef s'):bO R U.EZ e s=.code .normal e s':=by
 have d:=w28 m;simp only[Mv.c]at f d;cases h:dH m
 .rw[h]at d gw;simp at gw;simp[f,g,d,gw]
 rw[h]at d gw;simp at gw;simp[f,g,d,gw]
def Sw{x:Mn}(h:look e 2=some (.aw x.c))(p:look e 3=some (.aw m.c))(q:look e 5=some (.ptr o 0))(gw:qh 1 (some (.ptr o 1)) (some (.bool (x.lost||(dH m&&decide (0<m.id)&&decide (m.arg=0)&& !x.forced)))) s=.v .undef s'):bO R U.E0 e s=.code .normal e s':=by
 have d:=w28 m;obtain⟨op,l,f,b⟩:=x;simp only[Mv.c,Mn.c]at h p d gw;cases l
 .cases r:dH m
  .rw[r]at d gw;simp at gw;simp-implicitDefEqProofs[h,p,q,d,gw]
  rw[r]at d gw;by_cases j:0<m.id
  .by_cases g:m.arg=0
   .simp[j,g]at gw;simp only[g]at d;simp[h,p,q,d,gw,j,g]
   simp[j,g]at gw;simp[h,p,q,d,gw,j,g]
  simp[j]at gw;simp[h,p,q,d,gw,j]
 simp at gw;simp[h,q,gw]
end
def Yd(x:Mn)(M:x.op.length<=400)(m:Mv)(h0:dS m=false->x.op≠ [])(s:HS):R (.call 71 [.agg x.c,.agg m.c] s)=.val (.agg (gL x m).c) s:=by
 refine ac1 ?_;obtain⟨op,l,f,b⟩:=x;have q:=w75 m;have P:=w28 m;simp only[Mv.c]at q P;unfold gL;cases Q:dS m
 .rw[Q]at q;have T:op≠ []:=h0 Q;obtain⟨n,hn⟩:∃n,op.length=n+1:=⟨op.length-1,by have:=ym.2 T;omega⟩;have M:op.length<=400:=M;have V:n<=op.length:=by omega
  have hw:bT .i64 ((op.length:Int)-1)=n:=by rw[hn];simp;exact cx (by omega) (by omega)
  show _=some (HV.agg (Mn.c ⟨op.dropLast,l||(dH m&&decide (0<m.id)&&decide (m.arg=0)&& !f),dH m&&decide (0<m.arg),true⟩));obtain⟨ao,X⟩:=Oi l;have d:∀l:bE,Sz 4 (l.map Mv.c):=λl=>Sz.map (f:=Mv.c) (λx=>rfl) l
  have u:=mK (d op);have Y:(op.map Mv.c).dropLast=(op.take n).map Mv.c:=by rw[J3,bz,hn,Eo];rfl
  obtain⟨y,s2,B,C,g⟩:=X.add (d (op.take n)) (bI:=4398046511104) (by simp;omega);rw[bq]at g;obtain⟨s3,Z,j⟩:=g.yB (a:=0) rfl 0 (by simp) (g.mem.own 0 _ _ _ rfl).one;simp only[aO]at j;obtain⟨s4,O,p⟩:=j.yB (a:=0) rfl 2 (by simp) (x:=.bool (dH m&&decide (0<m.arg))) rfl;simp only[aO,bJ]at p;obtain⟨s5,b5,r⟩:=p.yB (a:=0) rfl 1 (by simp) (x:=.bool (l||(dH m&&decide (0<m.id)&&decide (m.arg=0)&& !f))) rfl
  simp only[aO,bJ]at r;have D:=(r.bm 0 _ _ rfl).1.1;generalize h1:(l||(dH m&&decide (0<m.id)&&decide (m.arg=0)&& !f))=q1 at*;generalize h2:(dH m&&decide (0<m.arg))=q2 at*;obtain⟨s6,b6,t⟩:=r.put (a:=1) rfl (v:=.agg [y,.bool q1,.bool q2,.bool true]) (new:=[y,.bool q1,.bool q2,.bool true]) (by simp) rfl;simp only[bJ,aO]at t;have E:=(t.bm 1 _ _ rfl).1.1;simp only[aB,aC,bn,Nat.reduceAdd]at b6 E D;rw[Eo]at C;simp-implicitDefEqProofs[-U.EZ,-U.E0,U.P5,q,s0,aq,aA,hw,V,u,C,Z];rw[Y,Sv (m:=m) (o:=.z .e) (s':=s4) (by simp) (by simp) (by rw[h2];exact O)];simp only[jZ,Mr];rw[Sw (m:=m) (x:=⟨op,l,f,b⟩) (o:=.z .e) (s':=s5) (by simp) (by simp) (by simp) (by show qh 1 _ (some (.bool (l||(dH m&&decide (0<m.id)&&decide (m.arg=0)&& !f)))) _=_;rw[h1];exact b5)];simp[an,D,b6,E];refine aY (.agg (.cons ?_ (.data (by simp))));have h:=(t.mem.own 0 _ _ _ rfl).vw (n:=13) (cD (λx=>by simp) _);simpa using h
 rw[Q]at q;show _=some (HV.agg (Mn.c ⟨op++[m],l,false,true⟩));obtain⟨ao,X⟩:=Oi l;have d:∀l:bE,Sz 4 (l.map Mv.c):=λl=>Sz.map (f:=Mv.c) (λx=>rfl) l
 have M:op.length<=400:=M;obtain⟨v1,s1,h3,a1,H⟩:=X.add (d op) (bI:=4398046511104) (by simp;omega);rw[bq]at H;obtain⟨y,s2,B,C,g⟩:=H.add (d [m]) (bI:=4398046511104) (by simp;omega);rw[<-List.map_append]at g;obtain⟨s3,Z,j⟩:=g.yB (a:=0) rfl 0 (by simp) (g.mem.own 0 _ _ _ rfl).one;simp only[aO]at j;have D:=(j.bm 0 _ _ rfl).1.1;obtain⟨s4,O,p⟩:=j.put (a:=1) rfl (v:=.agg [y,.bool l,.bool false,.bool true]) (new:=[y,.bool l,.bool false,.bool true]) (by simp) rfl;simp only[bJ,aO]at p;have E:=(p.bm 1 _ _ rfl).1.1;simp only[aB,aC,bn,Nat.reduceAdd]at O E D;simp only[bX,lO,Mv.c]at C;simp-implicitDefEqProofs[U.P5,q,s0,aq,aA,an,a1,C,Z,O,D,E];refine aY (.agg (.cons ?_ (.data (by simp))));have h:=(p.mem.own 0 _ _ _ rfl).vw (n:=13) (cD (λx=>by simp) _);simpa using h
section
variable{s:HS}{ao:aW}{L:cq}{K:de}
def aI.join{s':HS}(h:aI s ao L K)(f:cV (λ_=>False) s s'){v:HV}{sz:Nat}{F:bM}{ak:aP}(p:cu s' v sz F ak)(g:∀k,F k->s.nx.toNat<=k.toNat):∃d,aI s' d (L++[(v,sz,ak)]) K:=by
 classical
 refine⟨_,h.mem.join f p g,λa o c q=>?_,h.nd⟩;obtain⟨j,r⟩:=h.bm a o c q;refine⟨j.frame f (λh=>h),?_⟩;have:¬F o:=λt=>by have:=g o t;have:=j.2.2;omega
 simp only[this,bD];exact r
def aI.FI(h:aI s ao L K)(sz:Nat):∃c,aI {h:=av (some (.cells (cP []) 0 0 s.nx)) s.nx s.h,nx:=s.nx.succ,gr:=av (some [s.nx]) s.nx s.gr,ty:=s.ty} c (L++[(.sl s.nx 0 0 sz,sz,[])]) K:=by
 have f:=Ky.aS s.nx;refine h.join (cV.alloc _ _) (F:=λk=>k=s.nx) ⟨Sz.nil,λk d=>by subst d;simp only;omega,.inr ⟨s.nx,cP [],0,s.nx,[],rfl,?_,by simp,λj g=>by simp at g,?_,by simp,by simp,rfl⟩⟩ (λk d=>by subst d;exact aV _)
 .simp only;rw[af,au rfl]
 simp only;rw[af,au rfl]
def aI.cL(h:aI s ao L K)(c:ai):aI {h:=av (some (.cells (cP c) 0 c.length s.nx)) s.nx s.h,nx:=s.nx.succ,gr:=av (some [s.nx]) s.nx s.gr,ty:=s.ty} ao L ((s.nx,c)::K):=by
 have q:=Ky.aS s.nx;have g:ao s.nx=none:=by cases r:ao s.nx with|none=>rfl|some i=>have:=h.mem.bd _ _ r;omega
 have p:=h.frame (cV.alloc (s:=s) (.cells (cP c) 0 c.length s.nx) [s.nx]);refine⟨p.mem,λa o d f=>?_,λa b o d t f j=>?_⟩
 .cases a with
  |zero=>cases f;exact⟨⟨by simp only;rw[af,au rfl],by simp only;rw[af,au rfl],by simp only;omega⟩,g⟩
  |succ a=>exact p.bm a o d f
 have key:∀(a:Nat) (d:ai),K[a]?=some (s.nx,d)->False:=λa d f=>by have:=(h.bm a _ _ f).1.2.2;omega
 cases a with
 |zero=>
  cases b with
  |zero=>rfl
  |succ b=>cases f;exact(key b _ j).elim
 |succ a=>
  cases b with
  |zero=>cases j;exact(key a _ f).elim
  |succ b=>rw[h.nd a b o d t f j]
def aI.wg(h:aI s ao L K)(i:Nat){v:HV}{sz:Nat}{ak:aP}(d:L[i]?=some (v,sz,ak)){new:aP}(g:Sz sz new){bI:Nat}(j:ak.length+new.length<=bI):
  ∃f s' c,j0 sz bI none (some v) (some (.psl new)) s=.v f s'/\cellsOf f=some [f]/\aI s' c (L.set i (f,sz,ak++new)) K:=by
 by_cases h0:new=[]
 .subst h0;obtain⟨q,p⟩:=aU.1 d;refine⟨v,s,ao,kQ (h.mem.own i _ _ _ d).gZ,(h.mem.own i _ _ _ d).one,?_⟩;rw[qE,<-p,yD];exact h
 exact h.append i d g h0 j
end
def afd{x:Ax}(P:mN x){e:En}{s:HS}{o:Out}{o2 o3:Ky}{vF:HV}{ao:aW}
  (d:bB e [(1,.aw x.c),(2,.ptr o2 0),(3,.ptr o3 0),(4,iV 0)])
  (q:aI s ao [(vF,1,x.fi.map bC),(.ah,1,[])] [(o3,[.ah,vF]),(o2,[.ah,.ah])])(ho:bO R (.loop U.Db) e s=o):
  ∃(e':En) (s':HS) (ao:aW) (vN:HV) (aE:cq),o=.code (.exit 0) e' s'/\bB e' [(2,.ptr o2 0),(3,.ptr o3 0)]/\
   aI s' ao ((vF,1,x.fi.map bC)::(vN,1,aE.map gP)::aE) [(o3,[vN,vF]),(o2,[.ah,.ah])]/\aE.map (·.2)=x.nx.map (λes=>(5,es.map Ei.c)):=by
 have hn:=P.n;revert o;show∀o,_;refine ajX x.nx.length
  (λi e s=>∃(ao:aW) (vN:HV) (aE:cq),bB e [(1,.aw x.c),(2,.ptr o2 0),(3,.ptr o3 0),(4,iV i)]/\
   aI s ao ((vF,1,x.fi.map bC)::(vN,1,aE.map gP)::aE) [(o3,[vN,vF]),(o2,[.ah,.ah])]/\aE.map (·.2)=(x.nx.take i).map (λes=>(5,es.map Ei.c))/\aE.length=i)
  0 (by omega) ⟨ao,.ah,[],d,q,rfl,rfl⟩ ?_ ?_
 .rintro i e s r E ⟨ao,vN,aE,d,q,D,t⟩ u
  have H:(i:Int)<x.nx.length:=by omega
  have V:=br (n:=400) (show i<400 by omega) (by omega);have X:=P.row (aX E);obtain⟨Q,g⟩:=q.FI 5;have h:=(g.bm 0 o3 _ rfl).1.1;simp only[bo]at g;generalize M:HS.mk _ _ _ _=S1 at g h;have Y:((vF,1,x.fi.map bC)::(vN,1,aE.map gP)::(aE++[(HV.sl s.nx 0 0 5,5,([]:aP))]))[aE.length+2]?=some (HV.sl s.nx 0 0 5,5,[]):=by simp
  obtain⟨v8,s2,T,Z,c2,j⟩:=g.wg (aE.length+2) Y (new:=x.nx[i].map Ei.c) (Sz.map (f:=Ei.c) (λx=>rfl) _) (bI:=3518437208883) (by simp;omega);rw[show((vF,1,x.fi.map bC)::(vN,1,aE.map gP)::(aE++[(HV.sl s.nx 0 0 5,5,([]:aP))])).set (aE.length+2) (v8,5,[]++x.nx[i].map Ei.c)=(vF,1,x.fi.map bC)::(vN,1,aE.map gP)::(aE++[(v8,5,x.nx[i].map Ei.c)]) by simp]at j;have y:=(j.bm 0 o3 _ rfl).1.1;obtain⟨O,s3,z,a3,c3,B⟩:=j.append 1 rfl (new:=[[v8]]) (Sz.cons rfl Sz.nil) (by simp) (bI:=5864062014805) (by simp;omega);simp only[bJ,aO]at B;obtain⟨s4,b4,p⟩:=B.yB (a:=0) rfl 0 (by simp) c3;simp only[aO]at p;rw[show aE.map gP++[[v8]]=(aE++[(v8,5,x.nx[i].map Ei.c)]).map gP by simp]at p;have C:=(q.bm 0 o3 _ rfl).1.1;simp only[aB,aC,bn,Nat.reduceAdd]at C h y;simp only[ab,ae]at d;simp[U.Db,d,E,H,M,C,h,y,Z,c2,a3,b4,V]at u;subst u;refine .inl ⟨_,_,rfl,z,O,aE++[(v8,5,x.nx[i].map Ei.c)],by simp[d],p,?_,by simp[t]⟩;rw[eW E,eU,eU,D];rfl
 rintro e s r ⟨ao,vN,aE,d,q,D,t⟩ u
 simp only[ab,ae]at d;simp[U.Db,d]at u;subst u;rw[mP]at D;exact⟨by simp,_,_,ao,vN,aE,rfl,by simp[d],q,D⟩
def w69(x:Ax)(E:mN x)(s:HS):R (.call 29 [.agg x.c] s)=.val (.agg x.c) s:=by
 refine q69 ?_;have hf:=E.f;have h0:aI s0 (λ_=>none) [] []:=⟨dV.start (by simp),by simp,by simp⟩;obtain⟨ao,q⟩:=(h0.cL [.ah,.ah]).FI 1;have q:aI (HS.mk (.nd (some (.cells (cP [.ah,.ah]) 0 2 .e)) (.nd (some (.cells (cP []) 0 0 (.z .e))) .lf .lf) .lf) (.o .e) (.nd (some [.e]) (.nd (some [.z .e]) .lf .lf) .lf) .lf) ao [(.sl (.z .e) 0 0 1,1,[])] [(.e,[.ah,.ah])]:=q;obtain⟨v8,s1,T,a1,c1,t⟩:=q.wg 0 rfl (new:=x.fi.map bC) (Sz.map (f:=bC) (λx=>rfl) _) (bI:=140737488355328) (by simp;omega);simp only[aO,bq]at t;have r:=t.cL [.ah,.ah];have M:=(r.bm 0 _ _ rfl).1.1;generalize u:HS.mk _ _ _ _=S2 at r M;obtain⟨s3,V,y⟩:=r.put (a:=0) rfl (v:=.agg [.ah,v8]) (new:=[.ah,v8]) (by simp) rfl;simp only[aO]at y;simp only[aB,aC,bn,Nat.reduceAdd]at V u;simp[U.b69,s0,a1,c1,u,V];generalize X:bO R (.loop U.Db) _ _=o;obtain⟨e1,s4,Y,H,aE,rfl,B,j,O⟩:=afd (o2:=.e) (o3:=s1.nx) (vF:=v8) E (by simp) (y.push 1) X;clear X;have cN:cellsOf H=some [H]:=(j.mem.own 1 _ _ _ rfl).one;have cF:cellsOf v8=some [v8]:=(j.mem.own 0 _ _ _ rfl).one;have Z:=(j.bm 0 _ _ rfl).1.1;obtain⟨s5,b5,d⟩:=j.put (a:=1) rfl (v:=.agg [H,v8]) (new:=[H,v8]) (by simp) rfl;simp only[bJ,aO]at d;have hE:=(d.bm 1 _ _ rfl).1.1;simp only[aB,aC,bn,Nat.reduceAdd]at b5 hE Z;simp only[ab,ae]at B;simp[B,Z,an,b5,hE];refine aY (.agg (.cons ?_ (.cons ?_ .nil)))
 .have P:=((d.mem.own 1 _ _ _ rfl).vwH (f:=λe:tO=>e.1) (g:=λe:tO=>HV.psl e.2.2) (n:=14) (λx E=>?_))
  .have:aE.map (λx=>[HV.psl x.2.2])=x.nx.map zd:=by
    have h:=ch (List.map λ(p:Nat×List ai)=>[HV.psl p.2]) O;have C:zd=λx:fH=>[HV.psl (List.map Ei.c x)]:=rfl
    rw[C];simpa[tP]using h
   rw[<-this];exact P
  obtain⟨k,hk,rfl⟩:=eO.1 E;have q:=ch (λl=>l[k]?) O;simp[hk]at q;have hlen:aE.length=x.nx.length:=by have:=ch List.length O;simpa using this
  have Q:k<x.nx.length:=by omega
  have h4:aE[k].2=(5,(x.nx[k]).map Ei.c):=by simp[Q]at q;exact q.symm▸rfl
  have D:=d.mem.own (k+2) aE[k].1 5 ((x.nx[k]).map Ei.c) (by simp[hk];rw[<-h4]);rw[h4];exact D.vw (by simp)
 exact(d.mem.own 0 _ _ _ rfl).vw (by simp)
structure Sx where
 a:Ar
 x:Ax
 deriving DecidableEq,Inhabited
@[simp]def Sx.c(s:Sx):ai:=[.psl (s.a.ids.map Ty.c),.bool s.a.root.cell,.int .i64 s.a.root.n,.bool s.a.jumps,.psl (s.x.nx.map zd),.psl (s.x.fi.map bC)]
def w32(t:Sx)(g:t.a.ids.length<=9)(h:∀y∈t.a.ids,y.ps.length<=6)(j:mN t.x)(s:HS):R (.call 8 [.agg t.c] s)=.val (.agg t.c) s:=by refine q32 ?_;have d:=w18 t.a g h;have f:=w69 t.x j;simp only[Ar.c,Ax.c]at d f;simp[U.b32,d,f,s0,aq,aA,an,aa]
open Classical in
def w66(t:Sx)(ok:fz t.a)(p:mN t.x)(v:HV)(b:Bool)(g:aQ t.a=0->FH t.x->∀s,R (.call 43 [.agg t.a.c,.agg t.x.c] s)=.val (.cO [v,.bool b]) s)(s:HS):
  R (.call 16 [.agg t.c] s)=.val (iV (if aQ t.a=0 then if FH t.x then if b then 0 else 13 else 4 else aQ t.a)) s:=by
 refine q66 ?_;have d:=w24 t.a ok;have f:=w76 t.x p;simp only[Ar.c,Ax.c]at d f g;by_cases h:aQ t.a=0
 .rw[h]at d;by_cases j:FH t.x
  .have g:=g h j;simp only[j,bp]at f;cases b<;>simp[U.ZK,d,f,g,h,j,aa]
  simp only[j,bD]at f;simp[U.ZK,d,f,h,j,aa]
 simp[U.ZK,d,h,aa]
def pP(a b:Int):Int:=if a<b then-1 else if b<a then 1 else 0
def yE{a b:Int}:pP a b=0↔a=b:=by
 unfold pP
 split
 .omega
 split<;>omega
def qn(a:Int):pP a a=0:=yE.2 rfl
def BW{a b:Int}:pP a b<0↔a<b:=by
 unfold pP
 split
 .omega
 split<;>omega
def afe(a:Int)(s:HS):R (.call 189 [iV a] s)=.val (.bool false) s:=by refine aen ?_;simp[U.Wt,aa]
def aff(a:Int)(s:HS):R (.call 190 [.int .u8 a] s)=.val (.bool false) s:=by refine aeo ?_;simp[U.Wu,aa]
def afg(a b:Int)(s:HS):R (.call 178 [iV a,iV b] s)=.val (iV (pP a b)) s:=by
 refine aef ?_;have h:=afe;simp only[iV]at h;unfold pP;by_cases c:a<b
 .simp[U.Rm,h,c,aa]
 by_cases d:b<a<;>simp[U.Rm,h,c,d,aa]
def afh(a b:Int)(s:HS):R (.call 179 [.int .u8 a,.int .u8 b] s)=.val (iV (pP a b)) s:=by
 refine aeg ?_;have h:=aff;unfold pP;by_cases c:a<b
 .simp[U.Rn,h,c,aa]
 by_cases d:b<a<;>simp[U.Rn,h,c,d,aa]
def Ia:bb->Int
 |[]=>0
 |a::r=>if a=0 then Ia r else a
def J4:∀{l:bb} {i:Nat} (c:i<l.length),(∀j,(h:j<i)->l[j]'(by omega)=0)->l[i]≠0->Ia l=l[i]
 |[],i,c,_,_=>by simp at c
 |a::r,0,_,_,h=>by simp at h;simp[Ia,h]
 |a::r,i+1,c,d,f=>by have h0:=d 0 (by omega);simp only[tV]at h0;have g:=J4 (l:=r) (i:=i) (by simpa using c) (λj h=>by have:=d (j+1) (by omega);simpa using this) (by simpa using f);simp[Ia,h0,g]
def J5{l:bb}(h:∀i,(c:i<l.length)->l[i]=0):Ia l=0:=by induction l with|nil=>rfl|cons a r d=>have h0:=h 0 (by simp);simp only[tV]at h0;rw[Ia,au h0];exact d λi c=>by have:=h (i+1) (by simpa using c);simpa using this
def afi(l:bb)(E:l.length<=400)(s:HS):R (.call 177 [.psl (l.map iC)] s)=.val (iV (Ia l)) s:=by
 refine aee ?_;simp[U.Wp];generalize y:bO R (.loop U.xR) _ _=o;have z:=jd y l.length (λi=>∀h:i<l.length,l[i]=0) (λi=>[(3,iV 0),(6,.psl (l.map iC)),(7,iV l.length),(8,iV i)]) [(3,iV 0)] 0 (λi o=>∃h:i<l.length,∃q,o=.code .ret q s0/\look q 2=some (iV l[i])) (by simp)
  (λi e r c d f=>by
   have g:(i:Int)<l.length:=by omega
   simp only[ab,ae]at d;by_cases t:l[i]=0
   .simp[U.xR,d,c,g,t,br (n:=400) (show i<400 by omega) (by omega)]at f;subst f;exact .inl ⟨λ_=>t,_,rfl,by simp[d]⟩
   simp[U.xR,d,c,g,t]at f;subst f;exact .inr ⟨λh=>t (h c),by simp,c,_,rfl,by simp⟩)
  (λe r d f=>by
   simp only[ab,ae]at d;simp[U.xR,d]at f;subst f;exact⟨_,rfl,by simp[d]⟩)
 clear y;rcases z with⟨i,c,B,C,_,q,rfl,u⟩|⟨p,q,rfl,u⟩
 .rw[J4 c (λj D=>B j D (by omega)) (λh=>C λ_=>h)];simp[u,aa]
 rw[J5 (λi c=>p i c c)];simp only[ab,ae]at u;simp[u,aa]
def afj(a b:Mv)(s:HS):R (.call 153 [.agg a.c,.agg b.c] s)=.val (.bool (fv a b)) s:=by
 refine adO ?_;have d:=afg;have f:=afh;have g:=afi [pP a.id b.id,pP a.arg b.arg,pP a.kind b.kind,pP a.n b.n] (by simp);simp only[iV,bX,lO,iC]at d f g;have j:decide (Ia [pP a.id b.id,pP a.arg b.arg,pP a.kind b.kind,pP a.n b.n]<0)=fv a b:=by
  unfold fv;by_cases h:a.id=b.id
  .by_cases p:a.arg=b.arg
   .by_cases q:a.kind=b.kind
    .by_cases r:a.n=b.n
     .simp[Ia,h,p,q,r,qn]
     have:=mt yE.1 r;simp[Ia,h,p,q,qn,this,BW]
    have:=mt yE.1 q;simp[Ia,h,p,q,qn,this,BW]
   have:=mt yE.1 p;simp[Ia,h,p,qn,this,BW]
  have:=mt yE.1 h;simp[Ia,h,this,BW]
 simp[U.Wg,d,f,g,j,aa]
def rq(l:fH):Prop:=∀k,(h:k+1<l.length)->fv l[k].m l[k+1].m=true
open Classical in
def afk(l:fH)(V:l.length<=6000)(s:HS):R (.call 128 [.psl (l.map Ei.c)] s)=.val (.bool (decide (rq l))) s:=by
 refine adB ?_;have z:bT .i64 ((l.length:Int)-1)=(l.length:Int)-1:=cx (by omega) (by omega);simp[U.Wb,z];generalize D:bO R (.loop U.xF) _ _=o;have H:=jd D (l.length-1) (λi=>∀h:i+1<l.length,fv l[i].m l[i+1].m=true) (λi=>[(0,.psl (l.map Ei.c)),(6,iV ((l.length:Int)-1)),(7,iV i)]) [] 0 (λ_ o=>∃u,o=.code .ret u s0/\look u 2=some (.bool false)) (by simp)
  (λi e r M f g=>by
   have h0:i<l.length:=by omega
   have O:(i:Int)<l.length:=by omega
   obtain⟨j,B⟩:∃j,j=i+1:=⟨_,rfl⟩;have p:j<l.length:=by omega
   have P:(j:Int)<l.length:=by omega
   have y:(i:Int)<(l.length:Int)-1:=by omega
   have E:bT .i64 ((i:Int)+1)=(j:Int):=by rw[B];exact br (n:=6000) (show i<6000 by omega) (by omega)
   have d:=afj l[i].m l[j].m;simp only[Mv.c]at d;simp only[ab,ae]at f;cases q:fv l[i].m l[j].m
   .rw[q]at d;simp[U.xF,f,h0,p,y,E,d]at g;subst g;subst B;exact .inr ⟨λh=>(by rw[h p]at q;cases q),by simp,_,rfl,by simp⟩
   rw[q]at d;simp[U.xF,f,h0,p,y,E,d]at g;subst g;subst B;exact .inl ⟨λ_=>q,_,rfl,by simp[f]⟩)
  (λe r f g=>by
   simp only[ab,ae]at f;have y:¬((l.length-1:Nat):Int)<(l.length:Int)-1:=by omega
   simp[U.xF,f,y]at g;subst g;exact⟨_,rfl,by simp⟩)
 clear D;rcases H with⟨i,M,_,C,u,rfl,Q⟩|⟨t,u,rfl,_⟩
 .have h0:¬rq l:=λh=>C (λp=>h i p)
  simp[Q,aa,h0]
 have h0:rq l:=λk T=>t k (by omega) T
 simp[aa,h0]
def mX(n:Nat)(e:Ei):Bool:=decide (e.to<0)||decide ((n:Int)<=e.to)
def afl(x:Ax)(e:Ei)(s:HS):R (.call 155 [.agg e.c,.aw x.c] s)=.val (.bool (mX x.nx.length e)) s:=by
 refine adQ ?_;unfold mX;by_cases d:e.to<0
 .simp[U.QZ,d,aa]
 by_cases f:(x.nx.length:Int)<=e.to<;>simp[U.QZ,d,f,aa]
def zB{α:Type}(p:α->Bool)(l:List α):Int:=if l.any p then(l.findIdx p:Int)else-1
def vU{α:Type}{p:α->Bool}{l:List α}{i:Nat}(c:i<l.length)(f:∀j,(h:j<i)->p (l[j]'(by omega))=false)(d:p l[i]=true):zB p l=i:=by unfold zB;rw[au (ahf.2 ⟨_,cb c,d⟩),rp c f d]
def mY{α:Type}{p:α->Bool}{l:List α}(h:∀i,(c:i<l.length)->p l[i]=false):zB p l= -1:=by unfold zB;rw[ar];simp only[BX,rh];intro a d;obtain⟨i,c,rfl⟩:=eO.1 d;simp[h i c]
def yG{α:Type}(p:α->Bool)(l:List α):decide (0<=zB p l)=l.any p:=by unfold zB;cases l.any p<;>simp
def afm(x:Ax)(l:fH)(O:l.length<=6000)(s:HS):R (.call 180 [.psl (l.map Ei.c),.fn 155 [] [.aw x.c]] s)=.val (iV (zB (mX x.nx.length) l)) s:=by
 refine Xz ?_ rfl (by simp[eo]);simp[U.Ro];generalize z:bO R (.loop U.nM) _ _=o;have B:=jd z l.length (λi=>∀h:i<l.length,mX x.nx.length l[i]=false) (λi=>[(0,.psl (l.map Ei.c)),(1,.fn 155 [] [.aw x.c]),(7,iV l.length),(8,iV i)]) [] 0 (λi o=>∃y,o=.code .ret y s0/\look y 4=some (iV i)) (by simp)
  (λi e r f g p=>by
   have q:(i:Int)<l.length:=by omega
   have d:=afl x l[i];simp only[Ei.c,Ax.c]at d;simp only[ab,ae]at g;cases t:mX x.nx.length l[i]
   .rw[t]at d;simp[U.nM,g,f,q,d,br (n:=6000) (show i<6000 by omega) (by omega)]at p;subst p;exact .inl ⟨λ_=>t,_,rfl,by simp[g]⟩
   rw[t]at d;simp[U.nM,g,f,q,d]at p;subst p;exact .inr ⟨λh=>(by rw[h f]at t;cases t),by simp,_,rfl,by simp⟩)
  (λe r g p=>by
   simp only[ab,ae]at g;simp[U.nM,g]at p;subst p;exact⟨_,rfl,by simp⟩)
 clear z;rcases B with⟨i,f,C,D,y,rfl,E⟩|⟨u,y,rfl,_⟩
 .have H:mX x.nx.length l[i]=true:=by
   cases h:mX x.nx.length l[i]
   .exact absurd (λ_=>h) D
   rfl
  rw[vU f (λj M=>C j M (by omega)) H];simp[E,aa]
 rw[mY (λi f=>u i f f)];simp[aa]
def afn(x:Ax)(l:fH)(d:l.length<=6000)(s:HS):R (.call 157 [.psl (l.map Ei.c),.fn 155 [] [.aw x.c]] s)=.val (.bool (l.any (mX x.nx.length))) s:=by refine adS ?_ rfl (by simp[eo]);have h:=afm x l d;simp only[Ax.c,iV]at h;rw[<-yG];simp[U.Wj,h,aa]
def afo(x:Ax)(l:fH)(d:l.length<=6000)(s:HS):R (.call 156 [.psl (l.map Ei.c),.aw [.fn 155 [] [.aw x.c]]] s)=.val (.bool (l.any (mX x.nx.length))) s:=by refine adR ?_ rfl (by simp[eo]);have h:=afn x l d;simp only[Ax.c]at h;simp[U.Wi,h,aa]
def afp(x:Ax)(B:mN x)(s:HS):R (.call 158 [.psl (x.nx.map zd),.fn 156 [] [.aw [.fn 155 [] [.aw x.c]]]] s)=.val (iV (zB (λl:fH=>l.any (mX x.nx.length)) x.nx)) s:=by
 refine Xw ?_ rfl (by simp[eo]);have Q:=B.n;simp[U.Q0];generalize C:bO R (.loop U.nL) _ _=o;have D:=jd C x.nx.length (λi=>∀h:i<x.nx.length,x.nx[i].any (mX x.nx.length)=false) (λi=>[(0,.psl (x.nx.map zd)),(1,.fn 156 [] [.aw [.fn 155 [] [.aw x.c]]]),(7,iV x.nx.length),(8,iV i)]) [] 0 (λi o=>∃z,o=.code .ret z s0/\look z 4=some (iV i)) (by simp)
  (λi e r f g q=>by
   have t:(i:Int)<x.nx.length:=by omega
   have d:=afo x x.nx[i] (B.row (aX f));simp only[Ax.c]at d;simp only[ab,ae]at g;cases u:x.nx[i].any (mX x.nx.length)
   .rw[u]at d;simp[U.nL,g,f,t,d,br (n:=6000) (show i<6000 by omega) (by omega)]at q;subst q;exact .inl ⟨λ_=>u,_,rfl,by simp[g]⟩
   rw[u]at d;simp[U.nL,g,f,t,d]at q;subst q;exact .inr ⟨λh=>(by rw[h f]at u;cases u),by simp,_,rfl,by simp⟩)
  (λe r g q=>by
   simp only[ab,ae]at g;simp[U.nL,g]at q;subst q;exact⟨_,rfl,by simp⟩)
 clear C;rcases D with⟨i,f,E,H,z,rfl,M⟩|⟨y,z,rfl,_⟩
 .have O:x.nx[i].any (mX x.nx.length)=true:=by
   cases h:x.nx[i].any (mX x.nx.length)
   .exact absurd (λ_=>h) H
   rfl
  rw[vU (p:=λl:fH=>l.any (mX x.nx.length)) f (λj P=>E j P (by omega)) O];simp[M,aa]
 rw[mY (p:=λl:fH=>l.any (mX x.nx.length)) (λi f=>y i f f)];simp[aa]
def afq(x:Ax)(d:mN x)(s:HS):R (.call 131 [.psl (x.nx.map zd),.fn 156 [] [.aw [.fn 155 [] [.aw x.c]]]] s)=.val (.bool (x.nx.any λl=>l.any (mX x.nx.length))) s:=by refine Xv ?_ rfl (by simp[eo]);have h:=afp x d;simp only[Ax.c,iV]at h;rw[<-yG];simp[U.Qz,h,aa]
def J6(x:Ax):mo x=(decide (0<x.nx.length)&&decide (x.nx.length=x.fi.length)&& !(x.nx.any λl=>l.any (mX x.nx.length))):=by
 unfold mo;rw[qy];simp only[bY,aL,pf,rh,mX,n9,BX,and_assoc];constructor
 .rintro⟨c,d,f⟩
  refine⟨c,d,λl g=>?_⟩;intro e h;have:=f l g e h;omega
 rintro⟨c,d,f⟩
 refine⟨c,d,λl g e h=>?_⟩;have:=f l g e h;omega
def afr(x:Ax)(u:mN x)(s:HS):R (.call 130 [.agg x.c] s)=.val (.bool (mo x)) s:=by
 refine adD ?_;have d:=afq x u;rw[J6];have y:∀(S:HS) (o j:Ky),aj S.h o=some (.cells (cP [.fn 155 [] [.ptr j 0]]) 0 1 o)->aj S.h j=some (.cells (cP x.c) 0 2 j)->R (.call 131 [.psl (x.nx.map zd),.fn 156 [] [.ptr o 0]] S)=.val (.bool (x.nx.any λl=>l.any (mX x.nx.length))) S:=λS o j B p=>by refine adE (by simp[cI,cm]) (.cons (.data (by simp)) (.cons (Vw.fn .nil (.cons (Vw.ptr B rfl (.cons (Vw.fn .nil (.cons (Vw.ptr p rfl (.data (by simp[eo]))) .nil)) .nil)) .nil)) .nil)) (by simp[eo]) rfl d
 have f:=λS=>y S (.z .e) .e
 simp only[Ax.c]at f;by_cases r:0<x.nx.length
 .have q:0<(x.nx.length:Int):=by omega
  by_cases t:x.nx.length=x.fi.length
  .have g:(x.nx.length:Int)=x.fi.length:=by omega
   have C:0<x.fi.length:=by omega
   have D:0<(x.fi.length:Int):=by omega
   simp-implicitDefEqProofs[U.Md,t,C,f,s0,aq,aA,aa]
  have g:¬(x.nx.length:Int)=x.fi.length:=by omega
  simp[U.Md,r,t,g,s0,aq,aA,aa]
 have q:¬0<(x.nx.length:Int):=by omega
 simp[U.Md,r,s0,aq,aA,aa]
def afs(x:Ax)(p:mN x)(s:HS):R (.call 154 [.agg x.c] s)=.val (iV (x.nx.map List.length).sum) s:=by
 refine adP ?_;have z:=p.n;have q:∀r∈x.nx,r.length<=70368744177664:=λr f=>by obtain⟨i,g⟩:=uG.1 f;have:=p.row g;omega
 simp[U.Wh];generalize t:bO R (.loop U.BC) _ _=o;have u:=jd t x.nx.length (λ_=>True) (λi=>[(6,.psl (x.nx.map zd)),(2,iV (pN x.nx i)),(7,iV x.nx.length),(8,iV i)]) [(2,iV (pN x.nx x.nx.length))] 0 (λ_ _=>True) (by simp[pN])
  (λi e r g d f=>by
   have j:(i:Int)<x.nx.length:=by omega
   have:=BK q i (by omega);have:=q _ (cb g);have y:bT .i64 ((pN x.nx i:Int)+(x.nx[i].length:Int))=(pN x.nx (i+1):Nat):=by rw[tQ g,cx (by omega) (by omega)];simp
   simp only[ab,ae]at d;simp[U.BC,d,g,j,y,br (n:=400) (show i<400 by omega) (by omega)]at f;subst f;exact .inl ⟨trivial,_,rfl,by simp[d]⟩)
  (λe r d f=>by
   simp only[ab,ae]at d;simp[U.BC,d]at f;subst f;exact⟨_,rfl,by simp[d]⟩)
 clear t;rcases u with⟨i,_,_,h,_⟩|⟨_,B,rfl,d⟩
 .exact absurd trivial h
 rw[Dq]at d;simp only[ab,ae]at d;simp[d,aa]
def afu(x:Ax)(g:mN x)(s:HS):R (.call 129 [.agg x.c] s)=.val (.bool false) s:=by
 refine adC ?_;have d:=afs x g;have p:(x.nx.length:Int)<=400:=by have:=g.n;omega
 have q:(x.fi.length:Int)<=400:=by have:=g.f;omega
 have r:(((x.nx.map List.length).sum:Nat):Int)<=6000:=by have:=g.e;omega
 have h:¬(6000:Int)<((x.nx.map List.length).sum:Nat):=by omega
 simp only[Ax.c]at d;have j:¬(400:Int)<max (x.nx.length:Int) x.fi.length:=by omega
 simp[U.Wc,j,d,h,aa]
def Sy(a b:Ei):pW ⟨true,[0,0,0,0,0]⟩ (.agg a.c) (.agg b.c)=some (decide (a=b)):=by rw[ahe _ _ _ rfl rfl];simp only[Ei.c];rw[dy _ _ _ _ _ _ (eA ..) (dy _ _ _ _ _ _ (eA ..) (dy _ _ _ _ _ _ (eA ..) (dy _ _ _ _ _ _ (eA ..) (dy _ _ _ _ _ _ (eA ..) ahd))))];obtain⟨⟨d,f,g,h⟩,j⟩:=a;obtain⟨⟨p,q,r,t⟩,u⟩:=b;simp[BF]
def afv(l l':cf)(O:l.length<=6000)(s:HS):R (.call 159 [.psl (l.map bC),.psl (l'.map bC)] s)=.val (.bool (decide (l=l'))) s:=by
 refine adT ?_;by_cases j:l.length=l'.length
 case neg=>
  have u:¬(l.length:Int)=l'.length:=by omega
  have h0:¬l=l':=λh=>j (by rw[h])
  rw[cK h0];simp[U.Q1,u,aa]
 simp[U.Q1,j];generalize z:bO R (.loop U.xI) _ _=o;have D:=jd z l.length (λi=>∀h:i<l.length,l[i]=l'[i]'(by omega)) (λi=>[(0,.psl (l.map bC)),(1,.psl (l'.map bC)),(12,iV l'.length),(13,iV i)]) [] 0 (λ_ o=>∃p,o=.code .ret p s0/\look p 4=some (.bool false)) (by simp)
  (λi e r q c d=>by
   have E:(i:Int)<l.length:=by omega
   have B:i<l'.length:=by omega
   have f:(i:Int)<l'.length:=by omega
   have H:=br (n:=6000) (show i<6000 by omega) (by omega);simp only[ab,ae]at c;by_cases t:l[i]=l'[i]
   .simp[U.xI,c,q,B,f,t,H]at d;subst d;exact .inl ⟨λ_=>t,_,rfl,by simp[c]⟩
   simp[U.xI,c,q,B,f,t]at d;subst d;exact .inr ⟨λh=>t (h q),by simp,_,rfl,by simp⟩)
  (λe r c d=>by
   simp only[ab,ae]at c;simp[U.xI,c,j]at d;subst d;exact⟨_,rfl,by simp⟩)
 clear z;rcases D with⟨i,q,_,y,p,rfl,M⟩|⟨g,p,rfl,_⟩
 .have h0:¬l=l':=λh=>y (λ_=>by subst h;rfl)
  simp[M,aa,h0]
 have h0:l=l':=qD j λi C P=>g i C C
 simp[aa,h0]
def afw(l l':fH)(Q:l.length<=6000)(s:HS):R (.call 161 [.psl (l.map Ei.c),.psl (l'.map Ei.c)] s)=.val (.bool (decide (l=l'))) s:=by
 refine adV ?_;by_cases q:l.length=l'.length
 case neg=>
  have z:¬(l.length:Int)=l'.length:=by omega
  have h0:¬l=l':=λh=>q (by rw[h])
  rw[cK h0];simp[U.Q3,z,aa]
 simp[U.Q3,q];generalize C:bO R (.loop U.xK) _ _=o;have H:=jd C l.length (λi=>∀h:i<l.length,l[i]=l'[i]'(by omega)) (λi=>[(0,.psl (l.map Ei.c)),(1,.psl (l'.map Ei.c)),(12,iV l'.length),(13,iV i)]) [] 0 (λ_ o=>∃t,o=.code .ret t s0/\look t 4=some (.bool false)) (by simp)
  (λi e r u d f=>by
   have M:(i:Int)<l.length:=by omega
   have D:i<l'.length:=by omega
   have g:(i:Int)<l'.length:=by omega
   have O:=br (n:=6000) (show i<6000 by omega) (by omega);have j:=Sy l[i] l'[i];simp only[Ei.c]at j;simp only[ab,ae]at d;by_cases y:l[i]=l'[i]
   .rw[dq y]at j;simp[U.xK,d,u,D,g,j,O]at f;subst f;exact .inl ⟨λ_=>y,_,rfl,by simp[d]⟩
   rw[cK y]at j;simp[U.xK,d,u,D,g,j]at f;subst f;exact .inr ⟨λh=>y (h u),by simp,_,rfl,by simp⟩)
  (λe r d f=>by
   simp only[ab,ae]at d;simp[U.xK,d,q]at f;subst f;exact⟨_,rfl,by simp⟩)
 clear C;rcases H with⟨i,u,_,B,t,rfl,P⟩|⟨p,t,rfl,_⟩
 .have h0:¬l=l':=λh=>B (λ_=>by subst h;rfl)
  simp[P,aa,h0]
 have h0:l=l':=qD q λi E T=>p i E E
 simp[aa,h0]
def afx(l l':List fH)(Q:l.length<=6000)(E:∀r∈l,r.length<=6000)(s:HS):R (.call 160 [.psl (l.map zd),.psl (l'.map zd),.fn 161 [] []] s)=.val (.bool (decide (l=l'))) s:=by
 refine adU ?_ rfl (by simp[eo]);by_cases p:l.length=l'.length
 case neg=>
  have y:¬(l.length:Int)=l'.length:=by omega
  have h0:¬l=l':=λh=>p (by rw[h])
  rw[cK h0];simp[U.Q2,y,aa]
 simp[U.Q2,p];generalize B:bO R (.loop U.xJ) _ _=o;have H:=jd B l.length (λi=>∀h:i<l.length,l[i]=l'[i]'(by omega)) (λi=>[(1,.psl (l'.map zd)),(2,.fn 161 [] []),(15,.psl (l.map zd)),(16,iV l'.length),(17,iV i)]) [] 0 (λ_ o=>∃q,o=.code .ret q s0/\look q 6=some (.bool false)) (by simp)
  (λi e r f d c=>by
   have M:(i:Int)<l.length:=by omega
   have C:i<l'.length:=by omega
   have g:(i:Int)<l'.length:=by omega
   have O:=br (n:=6000) (show i<6000 by omega) (by omega);have t:=afw l[i] l'[i] (E _ (cb f));simp only[ab,ae]at d;by_cases u:l[i]=l'[i]
   .rw[dq u]at t;simp[U.xJ,d,f,C,g,t,O]at c;subst c;exact .inl ⟨λ_=>u,_,rfl,by simp[d]⟩
   rw[cK u]at t;simp[U.xJ,d,f,C,g,t]at c;subst c;exact .inr ⟨λh=>u (h f),by simp,_,rfl,by simp⟩)
  (λe r d c=>by
   simp only[ab,ae]at d;simp[U.xJ,d,p]at c;subst c;exact⟨_,rfl,by simp⟩)
 clear B;rcases H with⟨i,f,_,z,q,rfl,P⟩|⟨j,q,rfl,_⟩
 .have h0:¬l=l':=λh=>z (λ_=>by subst h;rfl)
  simp[P,aa,h0]
 have h0:l=l':=qD p λi D T=>j i D D
 simp[aa,h0]
def afy(x y:Ax)(h:mN x)(s:HS):R (.call 132 [.agg x.c,.agg y.c] s)=.val (.bool (decide (x=y))) s:=by
 refine adF ?_;have d:=afv x.fi y.fi (by have:=h.f;omega);have g:=afx x.nx y.nx (by have:=h.n;omega) (λr p=>by obtain⟨i,q⟩:=uG.1 p;exact h.row q);obtain⟨z,t⟩:=x;obtain⟨B,u⟩:=y;by_cases j:t=u
 .subst j;simp[U.QB,d,g,aa]
 simp only[j,kY]at d;simp[U.QB,d,j,aa]
def Az{a b:Mv}:fv a b=true↔a.id<b.id∨(a.id=b.id/\(a.arg<b.arg∨(a.arg=b.arg/\(a.kind<b.kind∨(a.kind=b.kind/\a.n<b.n))))):=by
 unfold fv;by_cases c:a.id=b.id
 .by_cases d:a.arg=b.arg
  .by_cases f:a.kind=b.kind<;>simp[c,d,f]
  simp[c,d]
 simp[c]
def DA{a b c:Mv}(d:fv a b=true)(f:fv b c=true):fv a c=true:=by rw[Az]at*;omega
def AA(a:Mv):fv a a=false:=by
 cases h:fv a a
 .rfl
 rw[Az]at h;omega
def tR.lt{l:bu}(h:tR l)(i:Nat):∀j,(d:j<l.length)->(c:i<j)->fv l[i].m l[j].m=true
 |0,_,c=>by omega
 |j+1,d,c=>by
  have f:=h j d;by_cases g:i=j
  .subst g;exact f
  exact DA (tR.lt h i j (by omega) (by omega)) f
def tR.uniq{l:bu}(h:tR l){e e':Eg}(g:e∈l)(d:e'∈l)(f:e.m=e'.m):e=e':=by
 obtain⟨i,p,rfl⟩:=eO.1 g;obtain⟨j,q,rfl⟩:=eO.1 d;rcases wo i j with c|c|c
 .have:=h.lt i j q c;rw[f,AA]at this;cases this
 .subst c;rfl
 have:=h.lt j i p c;rw[f,AA]at this;cases this
def AB:∀(l:bE) (m:Mv),(∀x∈l,fv x m=true)->kJ l m=l++[m]
 |[],m,_=>rfl
 |a::r,m,h=>by rw[kJ,au (h a (by simp)),AB r m (λx c=>h x (by simp[c]))];rfl
def GI{l:bu}(h:tR l):∀k,k<=l.length->pO (l.take k)=(l.take k).map (·.m)
 |0,_=>by simp[pO]
 |k+1,j=>by
  have c:k<l.length:=by omega
  rw[eW c,sr,GI h k (by omega),AB,eU]
  .rfl
  intro m d;obtain⟨e,f,rfl⟩:=cU.1 d;obtain⟨i,g,rfl⟩:=eO.1 f;rw[List.getElem_take];simp at g;exact h.lt i k c (by omega)
def GJ(aZ:cf)(m:Mv):∀(row:bu) (t:Int),(0<=t∨∃e∈row,im aZ m e=true)->0<=row.foldl (λt e=>if im aZ m e then(e.to:Int)else t) t
 |[],t,h=>by
  rcases h with h|⟨_,h,_⟩
  .exact h
  cases h
 |a::r,t,h=>by
  rw[nw];refine GJ aZ m r _ ?_;by_cases c:im aZ m a=true
  .rw[au c];exact .inl (by omega)
  rw[ar c];rcases h with h|⟨e,d,h⟩
  .exact .inl h
  rcases bk.1 d with rfl|d
  .exact(c h).elim
  exact .inr ⟨e,d,h⟩
def SA{row:bu}(h:tR row){aZ:cf}{e:Eg}(d:e∈row)(g:aZ.getD e.to false=true):GG row aZ e.m=(e.to:Int):=by
 have h0:0<=GG row aZ e.m:=GJ aZ e.m row (-1) (.inr ⟨e,d,by unfold im;rw[g];simp⟩);rcases ql row aZ e.m with p|⟨q,c,f,j⟩
 .omega
 simp only[im,aL,bY]at f;rw[j,h.uniq c d f.1]
def yH{n:Nat}{of:bb}{aZ:cf}{row:bu}(f:∀e∈row,e.to<n):∀(ms:bE) (P:az) (c:bu),∃t,(ms.foldl (ze of aZ row) (P,c)).1=P++t/\
  (∀j∈t,aZ.getD j false=true)/\(iq n of P->iq n of (ms.foldl (ze of aZ row) (P,c)).1)
 |[],P,c=>⟨[],by simp,by simp,id⟩
 |m::ms,P,c=>by
  rw[nw];have gw:∃t d,ze of aZ row (P,c) m=(P++t,d)/\(∀j∈t,aZ.getD j false=true)/\(iq n of P->iq n of (P++t)):=by
   unfold ze;simp only;by_cases h0:GG row aZ m<0
   .rw[au h0];exact⟨[],c,by simp⟩
   rw[ar h0];rcases ql row aZ m with u|⟨e,y,h,p⟩
   .omega
   rw[p,gD];by_cases q:ng of P e.to=P.length
   .rw[au q];simp only[im,aL]at h;exact⟨[e.to],_,rfl,λj g=>by rw[cr.1 g];exact h.2,λr=>r.snoc (f e y) q⟩
   rw[ar q];exact⟨[],_,by simp;rfl,by simp⟩
  obtain⟨t,d,u,h,p⟩:=gw;rw[u];obtain⟨z,B,C,D⟩:=yH f ms (P++t) d;refine⟨t++z,by rw[B];simp,λj g=>?_,λr=>D (p r)⟩;rcases l5.1 g with g|g
  .exact h j g
  exact C j g
def AD(c:Nat)(e:Eg):Nat:=if e.to=c then c+1 else c
def gp(c:Nat)(es:bu):Nat:=es.foldl AD c
def ub(c:Nat)(es:bu)(e:Eg):gp c (es++[e])=AD (gp c es) e:=by simp[gp]
structure DB(x:Fa):Prop where
 live:∀i,i<x.nx.length->Lv x i
 inj:∀B,Bis x (List.replicate x.nx.length true) B->∀a b,B a b->a=b
 bfs:∃c:Nat->Nat,c 0=1/\c x.nx.length=x.nx.length/\∀i,i<x.nx.length->i<c i/\c i<=x.nx.length/\c (i+1)=gp (c i) (x.nx.getD i [])/\∀k e,(x.nx.getD i [])[k]?=some e->e.to<=gp (c i) ((x.nx.getD i []).take k)
section
variable{x:Fa}{of:bb}{aZ:cf}
def sA{i:Nat}(h:i<(cQ x of aZ i).1.length):cQ x of aZ (i+1)=((mW of aZ (x.nx.getD ((cQ x of aZ i).1.getD i 0) []) (cQ x of aZ i).1 (pO (x.nx.getD ((cQ x of aZ i).1.getD i 0) []))).1,
  (cQ x of aZ i).2.1++[(mW of aZ (x.nx.getD ((cQ x of aZ i).1.getD i 0) []) (cQ x of aZ i).1 (pO (x.nx.getD ((cQ x of aZ i).1.getD i 0) []))).2],(cQ x of aZ i).2.2++[x.fi.getD ((cQ x of aZ i).1.getD i 0) false]):=by
 rw[cQ];simp only[au h]
def jB(f:bA x)(p:Nat):∀e∈x.nx.getD p [],e.to<x.nx.length:=by
 intro e c;by_cases d:p<x.nx.length
 .rw[getD_at d]at c;exact f.to _ (cb d) e c
 rw[KP,qz (by omega)]at c;simp at c
def BY(d:bA x)(h0:aZ.getD 0 false=true):∀i,iq x.nx.length of (cQ x of aZ i).1/\(∀j∈(cQ x of aZ i).1,aZ.getD j false=true)/\(cQ x of aZ i).1[0]?=some 0/\(cQ x of aZ i).2.1.length=(cQ x of aZ i).2.2.length
 |0=>by refine⟨⟨by intro j c;simp[cQ]at c;have:=d.pos;omega,by simp[cQ]⟩,by intro j c;simp[cQ]at c;subst c;exact h0,by simp[cQ]⟩
 |i+1=>by
  obtain⟨f,g,h,p⟩:=BY d h0 i;by_cases r:i<(cQ x of aZ i).1.length
  .rw[sA r];obtain⟨t,q,u,y⟩:=yH (of:=of) (aZ:=aZ) (jB d ((cQ x of aZ i).1.getD i 0)) (pO (x.nx.getD ((cQ x of aZ i).1.getD i 0) [])) (cQ x of aZ i).1 [];refine⟨y f,?_,?_,by simp[p]⟩
   .show∀j∈(mW _ _ _ _ _).1,_;unfold mW;rw[q];intro j c;rcases l5.1 c with c|c
    .exact g j c
    exact u j c
   show(mW _ _ _ _ _).1[0]?=_;unfold mW;rw[q,dD (by omega)];exact h
  rw[sy (by omega) 1];exact⟨f,g,h,p⟩
def GK(c:bA x)(i:Nat):∀d,(cQ x of aZ i).1<+:(cQ x of aZ (i+d)).1/\(cQ x of aZ i).2.1<+:(cQ x of aZ (i+d)).2.1/\(cQ x of aZ i).2.2<+:(cQ x of aZ (i+d)).2.2
 |0=>⟨rr _,rr _,rr _⟩
 |d+1=>by
  obtain⟨f,g,h⟩:=GK c i d;rw[show i+(d+1)=i+d+1 by omega];by_cases j:i+d<(cQ x of aZ (i+d)).1.length
  .rw[sA j];obtain⟨t,p,_⟩:=yH (of:=of) (aZ:=aZ) (jB c ((cQ x of aZ (i+d)).1.getD (i+d) 0)) (pO (x.nx.getD ((cQ x of aZ (i+d)).1.getD (i+d) 0) [])) (cQ x of aZ (i+d)).1 [];refine⟨f.trans ?_,g.trans (yI _ _),h.trans (yI _ _)⟩;show _<+:(mW _ _ _ _ _).1;unfold mW;rw[p];exact yI _ _
  rw[sy (by omega) 1];exact⟨f,g,h⟩
def DC{M:az}{row:bu}:∀(es:bu) (P:az) (d:bu),(∀e∈es,GG row aZ e.m=(e.to:Int))->((es.map (·.m)).foldl (ze of aZ row) (P,d)).1<+:M->
  ((es.map (·.m)).foldl (ze of aZ row) (P,d)).2=d++es.map (λe=>⟨e.m,ng of M e.to⟩)/\∃c:bu->Nat,c []=P.length/\c es=((es.map (·.m)).foldl (ze of aZ row) (P,d)).1.length/\
   ∀k e,es[k]?=some e->(ng of M e.to<=c (es.take k))/\c (es.take (k+1))=if ng of M e.to=c (es.take k)then c (es.take k)+1 else c (es.take k)
 |[],P,d,_,_=>⟨by simp,λ_=>P.length,rfl,rfl,λk e h=>by simp at h⟩
 |e::es,P,d,X,y=>by
  rw[bX,nw]at y ⊢;have h0:=X e (by simp);have gw:ze of aZ row (P,d) e.m=(if ng of P e.to=P.length then P++[e.to]else P,d++[⟨e.m,ng of P e.to⟩]):=by unfold ze;simp only[h0,ar (show¬(e.to:Int)<0 by omega),gD]
  rw[gw]at y ⊢;generalize f:(if ng of P e.to=P.length then P++[e.to]else P)=u at y ⊢;obtain⟨t,z⟩:∃t,((es.map (·.m)).foldl (ze of aZ row) (u,d++[⟨e.m,ng of P e.to⟩])).1=u++t:=by
   clear y gw f;generalize d++[(⟨e.m,ng of P e.to⟩:Eg)]=g;generalize es.map (·.m)=Y
   induction Y generalizing u g with
   |nil=>exact⟨[],by simp⟩
   |cons m Y Z=>
    rw[nw];obtain⟨E,B⟩:∃E B,ze of aZ row (u,g) m=(u++E,B):=by
     unfold ze;simp only
     split
     .exact⟨[],g,by simp⟩
     split
     .exact⟨_,_,rfl⟩
     exact⟨[],_,by simp;rfl⟩
    obtain⟨B,hq⟩:=B;rw[hq];obtain⟨t,h⟩:=Z (u++E) B;exact⟨E++t,by rw[h];simp⟩
  have C:u<+:M:=by refine List.IsPrefix.trans ?_ y;rw[z];exact yI _ _
  have q:ng of P e.to=ng of M e.to:=by
   obtain⟨r,hr⟩:=C;unfold ng at f ⊢;rw[<-hr];by_cases O:(P.findIdx λj=>decide (of.getD j 0=of.getD e.to 0))=P.length
   .rw[au O]at f;rw[<-f,O,yt,SB,ar (by omega)];simp[List.findIdx_cons]
   rw[ar O]at f;have Q:(P.findIdx λj=>decide (of.getD j 0=of.getD e.to 0))<P.length:=by have:=Ss (xs:=P) (p:=λj=>decide (of.getD j 0=of.getD e.to 0));omega
   rw[<-f,SB,au Q]
  obtain⟨h1,c,c0,c1,c2⟩:=DC es u (d++[⟨e.m,ng of P e.to⟩]) (λT V=>X T (by simp[V])) y;refine⟨by rw[h1,q];simp,λl=>if l=[]then P.length else c l.tail,by simp,by simpa using c1,λk T H=>?_⟩;have D:u.length=if ng of M e.to=P.length then P.length+1 else P.length:=by
   rw[<-f,q]
   split<;>simp
  cases k with|zero=>simp only[BO,bQ]at H;subst H;simp only[R8,bp,JT,SC,c0,D,reduceCtorEq,bD];exact⟨by rw[<-q];exact Sr,trivial⟩|succ k=>simp only[BP]at H;simp only[JT,SC,reduceCtorEq,bD];exact c2 k T H
end
def sB{α β:Type}{p:β->Bool}{q:α->Bool}{f:α->β}:∀{l:List α},(∀e∈l,p (f e)=q e)->(l.map f).find? p=(l.find? q).map f
 |[],_=>rfl
 |a::l,h=>by
  have c:=h a (by simp);have d:=sB (l:=l) (λe g=>h e (by simp[g]));rw[bX,tY,tY,c];cases q a
  .simpa using d
  rfl
def BZ{α:Type}{l l':List α}(h:l<+:l'){i:Nat}{v:α}(c:l[i]?=some v):l'[i]?=some v:=by obtain⟨t,rfl⟩:=h;rw[dD (aU.1 c).1];exact c
def iq.inj{n:Nat}{of:bb}{c:az}(h:iq n of c){a b:Nat}(r:a∈c)(t:b∈c)(g:of.getD a 0=of.getD b 0):a=b:=by
 obtain⟨i,p,rfl⟩:=eO.1 r;obtain⟨j,q,rfl⟩:=eO.1 t;have f:=List.pairwise_iff_getElem.1 h.nd;simp only[bz,BR]at f;rcases wo i j with d|d|d
 .exact(f i j p q d g).elim
 .subst d;rfl
 exact(f j i q p d g.symm).elim
def iq.nodup{n:Nat}{of:bb}{c:az}(h:iq n of c):c.Nodup:=List.Pairwise.of_map _ (λa b (d:of.getD a 0≠of.getD b 0) e=>d (by rw[e])) h.nd
def iq.at{n:Nat}{of:bb}{c:az}(h:iq n of c){t:Nat}(f:t∈c):c[ng of c t]?=some t:=by have d:ng of c t<c.length:=List.findIdx_lt_length_of_exists ⟨t,f,by simp⟩;have g:decide (of.getD c[ng of c t] 0=of.getD t 0)=true:=List.findIdx_getElem (w:=d);rw[aX d,h.inj (cb d) f (by simpa using g)]
def MT{x:Fa}(D:bA x)(ha:rj x)(hl:hZ x=x):x=j8∨DB x:=by
 obtain⟨⟨u,hu,h0,h1⟩,_,_⟩:=uN D;rw[hl]at h0 h1;cases Q:u[0]?with
 |none=>have:=Dz.1 Q;have:=hu.1;have:=D.pos;omega
 |some b=>
 cases b
 .exact .inl (h0 Q)
 right;obtain⟨of,hs,hq⟩:=h1 Q;clear h0 h1;have hz:=D.pos;have k5:=D.nf;have h6:u.getD 0 false=true:=by rw[KP,Q];rfl
 have hN:(cQ x of u x.nx.length).2.1=x.nx:=(ch Fa.nx hq).symm;have hF:(cQ x of u x.nx.length).2.2=x.fi:=(ch Fa.fi hq).symm;generalize V:x.nx.length=n at*;have E:∀i,i<n->i<(cQ x of u i).1.length:=by intro i y;apply A3;intro hc;have d:=sy (x:=x) (of:=of) (aZ:=u) (i:=i) (by omega) (n-i);rw[show i+(n-i)=n by omega]at d;have g:=(GH D of u i).1;rw[<-d,hN,V]at g;omega
 have hlen:∀i,i<=n->(cQ x of u i).2.1.length=i:=by
  intro i
  induction i with|zero=>intro _;rfl|succ i ih=>intro y;rw[sA (E i (by omega))];simp[ih (by omega)]
 obtain⟨H,h7,_,_⟩:=BY (of:=of) D h6 n;rw[V]at H;have z:∀i,i<=n->(cQ x of u i).1<+:(cQ x of u n).1/\(cQ x of u i).2.1<+:(cQ x of u n).2.1/\(cQ x of u i).2.2<+:(cQ x of u n).2.2:=by intro i y;have:=GK (of:=of) (aZ:=u) D i (n-i);rwa[show i+(n-i)=n by omega]at this
 generalize h8:(cQ x of u n).1=f at*;have Z:f.length=n:=by have d:=H.len;have g:=E (n-1) (by omega);have P:=(z (n-1) (by omega)).1.length_le;omega
 have h:∀j,j<n->j∈f:=by
  intro j hj;apply A3;intro hc;have:=yC n (j::f) (mE.2 ⟨hc,H.nodup⟩) (λk X=>by
   rcases bk.1 X with rfl|X
   .exact hj
   exact H.lt k X)
  simp at this;omega
 have T:∀j,j<n->u.getD j false=true:=λj hj=>h7 j (h j hj)
 have C:∀j,j<n->u[j]?=some true:=by
  intro j hj;have d:=T j hj;rw[KP]at d;cases g:u[j]?with
  |none=>rw[g]at d;cases d
  |some b=>rw[g]at d;simpa using d
 have O:∀i p,i<n->f[i]?=some p->x.nx.getD i []=(x.nx.getD p []).map (λe=>⟨e.m,ng of f e.to⟩)/\x.fi[i]?=x.fi[p]?/\
   ∃c:bu->Nat,c []=(cQ x of u i).1.length/\c (x.nx.getD p [])=(cQ x of u (i+1)).1.length/\∀k e,(x.nx.getD p [])[k]?=some e->(ng of f e.to<=c ((x.nx.getD p []).take k))/\
    c ((x.nx.getD p []).take (k+1))=if ng of f e.to=c ((x.nx.getD p []).take k)then c ((x.nx.getD p []).take k)+1 else c ((x.nx.getD p []).take k):=by
  intro i p y hp;have ho:=H.lt p (cE hp);have hr:(cQ x of u i).1.getD i 0=p:=by have d:=aX (E i y);have g:=BZ (z i (by omega)).1 d;rw[hp]at g;rw[KP,d];simp only[Option.getD_some];exact(lr g).symm
  have gw:=sA (of:=of) (aZ:=u) (E i y);rw[hr]at gw;have Y:tR (x.nx.getD p []):=by rw[getD_at (by rw[V];exact ho)];exact ha _ (cb _)
  have h9:pO (x.nx.getD p [])=(x.nx.getD p []).map (·.m):=by have:=GI Y _ (aV _);rwa[mP]at this
  have r:=jB D p;rw[V]at r;obtain⟨g1,g2,g3⟩:=z (i+1) (by omega);rw[gw]at g1 g2 g3;unfold mW at g1 g2;rw[h9]at g1 g2;obtain⟨k1,c,k2,k3,k4⟩:=DC (M:=f) (x.nx.getD p []) (cQ x of u i).1 [] (λe he=>SA Y he (T _ (r e he))) g1;refine⟨?_,?_,c,k2,?_,k4⟩
  .have d:=BZ g2 (i:=i) (by rw[iZ (by rw[hlen i (by omega)];exact aV _),hlen i (by omega),kZ];rfl);rw[hN,k1]at d;rw[KP,d];simp
  .have hd:(cQ x of u i).2.2.length=i:=by rw[<-(BY (of:=of) D h6 i).2.2.2,hlen i (by omega)]
   have d:=BZ g3 (i:=i) (by rw[iZ (by rw[hd];exact aV _),hd,kZ];rfl);rw[hF]at d;rw[d,aX (by omega),getD_at (by omega)]
  rw[k3,gw];unfold mW;rw[h9]
 have hid:∀i,i<n->f[i]?=some i:=by
  have hB:Bis x u λa b=>a<n/\f[a]?=some b:=by
   refine⟨λa b ⟨d,g⟩=>?_,λa b ⟨d,g⟩ m=>?_⟩
   .have hb:=H.lt b (cE g);exact⟨by omega,by omega,(O a b d g).2.1,by rw[C a d,C b hb]⟩
   have r:=jB D b;rw[V]at r;rw[(O a b d g).1,sB (q:=im u m) (λe he=>by
    simp only[im];have P:=H.at (h _ (r e he));rw[T _ (r e he),T _ (by have:=(aU.1 P).1;omega)])]
   cases h5:(x.nx.getD b []).find? (im u m)with|none=>trivial|some e=>have P:=H.at (h _ (r e (Ap h5)));exact⟨by have:=(aU.1 P).1;rw[Z]at this;exact this,P⟩
  intro i y;have d:=aX (show i<f.length by omega);have g:=hs.cls.coarse _ hB i _ ⟨y,d⟩;have P:=H.inj (h i y) (cb (show i<f.length by omega)) (lY g 0);rw[d,<-P]
 have hf:∀t,t<n->ng of f t=t:=by intro t ht;have d:=H.at (h t ht);have g:=hid (ng of f t) (by have:=(aU.1 d).1;omega);rw[d]at g;exact(lr g).symm
 refine⟨λi y=>(hu.2 i).1 (C i (by omega)),λB hB a b hg=>?_,λi=>(cQ x of u i).1.length,by simp[cQ],by rw[V];simp only[h8,Z],λi y=>?_⟩
 .have hy:List.replicate x.nx.length true=u:=by
   have k6:=hu.1;refine qD (by simp;omega) λk d g=>?_
   have P:=C k (by omega);rw[aX g]at P;simp only[List.getElem_replicate];exact(lr P).symm
  rw[hy]at hB;obtain⟨d,g,_⟩:=hB.fi a b hg;exact H.inj (h a (by omega)) (h b (by omega)) (lY (hs.cls.coarse B hB a b hg) 0)
 rw[V]at y ⊢;obtain⟨_,_,c,k2,k3,k4⟩:=O i i y (hid i y);have r:=jB D i;rw[V]at r;have hc:∀k,k<=(x.nx.getD i []).length->c ((x.nx.getD i []).take k)=gp (cQ x of u i).1.length ((x.nx.getD i []).take k):=by
  intro k
  induction k with|zero=>intro _;simp[gp,k2]|succ k ih=>intro X;have d:=aX (show k<(x.nx.getD i []).length by omega);have g:=(k4 k _ d).2;rw[hf _ (r _ (cb _))]at g;rw[g,eW (show k<(x.nx.getD i []).length by omega),ub,<-ih (by omega)];rfl
 refine⟨E i y,by have:=(z i (by omega)).1.length_le;rw[Z]at this;exact this,?_,λk e X=>?_⟩
 .have:=hc _ (aV _);rw[mP,k3]at this;exact this
 have k0:=(aU.1 X).1;have d:=(k4 k e X).1;rw[hf _ (r e (cE X)),hc k (by omega)]at d;exact d
def UP(c:List Rs)(o:Out):Bool:=match o with
 |.code (.exit _) _ _=>false
 |.code _ e s=>(match ml (dF e s c) s with|.val v s'=>vu s' 16 v|_=>false)
 |_=>false
def sC(F:HF)(ih:Task->Out)(args:ai):gy F ih args=UP F.rs (bO ih F.c (bc args 0) s0):=by
 unfold gy;cases bO ih F.c (bc args 0) s0 with
 |val=>rfl
 |bad=>rfl
 |code x e s=>
  cases x with
  |exit=>rfl
  |normal=>show(match leave F e s with|.val v s'=>vu s' 16 v|_=>false)=(match ml (dF e s F.rs) s with|.val v s'=>vu s' 16 v|_=>false);rw[ij]
  |ret=>show(match leave F e s with|.val v s'=>vu s' 16 v|_=>false)=(match ml (dF e s F.rs) s with|.val v s'=>vu s' 16 v|_=>false);rw[ij]
def vV{c:List Rs}{e:En}{s s':HS}{v:HV}(h:ml (dF e s c) s=.val v s')(d:vu s' 16 v=true):UP c (.code .ret e s)=true:=by show(match ml (dF e s c) s with|.val v s'=>vu s' 16 v|_=>false)=true;rw[h];exact d
def sD{f:HV->Bool}:∀{l:ai},(∀v∈l,f v=true)->vd f l=true
 |[],_=>rfl
 |a::r,h=>by rw[vd,h a (by simp),sD λv c=>h v (by simp[c])];rfl
section
variable{s:HS}{n:Nat}
def DD{v:HV}(h:ff v=true):vu s (n+1) v=true:=by show(bif ff v then true else _)=true;rw[h];rfl
def MU{l:ai}(h:∀v∈l,vu s n v=true):vu s (n+1) (.cO l)=true:=sD h
def MV{l:ai}(h:∀v∈l,vu s n v=true):vu s (n+1) (.agg l)=true:=sD h
def AE{v:HV}{sz:Nat}{F:bM}{ak:aP}(h:cu s v sz F ak)(d:∀c∈aD ak,vu s n c=true):vu s (n+1) v=true:=by
 have f:=h;rcases h.2.2 with⟨rfl,_⟩|⟨o,t,j,g,rest,rfl,_⟩
 .rfl
 show(bif Nat.beq ak.length 0 then true else(match s.bF o 0 (ak.length*sz)with|some l=>vd (vu s n) l|none=>false))=true;rw[gI,f.cells.2];cases Nat.beq ak.length 0
 .exact sD d
 rfl
def sE{v:HV}{sz:Nat}{F:bM}{ak:aP}(h:cu s v sz F ak)(d:∀c∈aD ak,ff c=true):vu s (n+2) v=true:=AE h λc f=>DD (d c f)
def GL(l:bb):∀c∈aD (l.map iC),ff c=true:=by
 induction l with
 |nil=>intro c d;cases d
 |cons a l f=>
  intro c d;rw[bX,cj]at d;rcases l5.1 d with h|h
  .rw[cr.1 h];rfl
  exact f c h
def GM(l:cf):∀c∈aD (l.map bC),ff c=true:=by
 induction l with
 |nil=>intro c d;cases d
 |cons a l f=>
  intro c d;rw[bX,cj]at d;rcases l5.1 d with h|h
  .rw[cr.1 h];rfl
  exact f c h
def J7(l:bu):∀c∈aD (l.map Eg.c),ff c=true:=by
 induction l with
 |nil=>intro c d;cases d
 |cons a l f=>
  intro c d;rw[bX,cj]at d;rcases l5.1 d with h|h
  .simp only[Eg.c,bk,J8,or_false]at h;rcases h with rfl|rfl|rfl|rfl|rfl<;>rfl
  exact f c h
end
@[simp]def Ye{s:HS}{neg:Bool}{r:ai}{l:aP}:zx 0 neg (some (.psl (r::l))) s=.v (.bool (false != neg)) s:=rfl
@[simp]def Yf{s:HS}{neg:Bool}:zx 0 neg (some .ah) s=.v (.bool (true != neg)) s:=rfl
@[simp]def afz{s:HS}{neg:Bool}{o:Ky}{a b c:Nat}:zx 0 neg (some (.sl o a b c)) s=.v (.bool (false != neg)) s:=rfl
section
variable{s:HS}{ao:aW}{L:cq}{K:de}
def aI.cut(h:aI s ao L K)(i:Nat){v:HV}{sz:Nat}{ak:aP}(r:L[i]?=some (v,sz,ak))(n:Nat)(t:n<=ak.length)(h0:ak≠ []):∃g,v=.sl g 0 ak.length sz/\aI s ao (L.set i (.sl g 0 n sz,sz,ak.take n)) K:=by
 obtain⟨g,u,y⟩:=(h.mem.own i v sz ak r).cut n t h0;have p:=(aU.1 r).1;refine⟨g,u,⟨h.mem.bd,λk j z=>by rw[jk];exact h.mem.top k j z,λj w q c d=>?_⟩,h.bm,h.nd⟩;rw[gl]at d;by_cases f:i=j
 .subst f;rw[au rfl,au p]at d;cases d;exact y
 rw[ar f]at d;exact h.mem.own j w q c d
def Yg(h:aI s ao L K)(b:Bool)(t:cf)(M:t.length<=100000):∃v s' c,R (.call 169 [.psl ([.bool b]::t.map bC)] s)=.val v s'/\cellsOf v=some [v]/\aI s' c (L++[(v,1,(b::t).map bC)]) K:=by
 obtain⟨y,z⟩:=h.FI 1;generalize j:HS.mk _ _ _ _=O at z;have D:(L++[(HV.sl s.nx 0 0 1,1,([]:aP))])[L.length]?=some (.sl s.nx 0 0 1,1,[]):=by simp
 obtain⟨v,s2,d,p,E,B⟩:=z.wg L.length D (new:=(b::t).map bC) (Sz.map (f:=bC) (λx=>rfl) _) (bI:=140737488355328) (by simp;omega);have g:(L++[(HV.sl s.nx 0 0 1,1,([]:aP))]).set L.length (v,1,[]++(b::t).map bC)=L++[(v,1,(b::t).map bC)]:=by simp
 rw[g]at B;rw[bX]at p;have q:∃u,ev R U.Ju (bc [.psl ([.bool b]::t.map bC)] 0) s=.code .ret u s2/\look u 2=some v:=by generalize C:ev R U.Ju (bc [.psl ([.bool b]::t.map bC)] 0) s=r;simp only[bC]at p;simp[U.Ju,j,p]at C;subst C;exact⟨_,rfl,by simp⟩
 obtain⟨u,q,H⟩:=q;exact⟨v,s2,d,ad7 ⟨.ret,_,s2,q,.inr rfl,by simp[H]⟩,E,B⟩
end
def afA(l:fH)(q:l.length<=100000)(s:HS):R (.call 170 [.psl (l.map Ei.c)] s)=.val (.psl (l.map Ei.c)) s:=by cases l with|nil=>exact ad8|cons a t=>refine ad9 (by simp[eo]) ?_;have h0:aI s0 (λ_=>none) [] []:=⟨dV.start (by simp),by simp,by simp⟩;obtain⟨ao,g⟩:=h0.FI 5;simp only[bq]at g;generalize h:HS.mk _ _ _ _=u at g;obtain⟨v8,s1,p,j,y,d⟩:=g.wg 0 rfl (new:=(a::t).map Ei.c) (Sz.map (f:=Ei.c) (λx=>rfl) _) (bI:=3518437208883) (by simp at q ⊢;omega);simp only[aO,bq]at d;have r:=(d.mem.own 0 _ _ _ rfl).vw (n:=14) (by exact cD (λx=>by simp[eo]) _);rw[bX]at j;simp only[Ei.c]at j;simp[U.Q9,h,j];have:=aY r;simpa using this
structure B0(x:Fa)(i k:Nat)(fr:ep):Prop where
 len:fr.length=x.nx.length
 sz:∀l∈fr,l.length<=i*6000+k
 snd:∀(q:Nat) (l:az),fr[q]?=some l->∀p∈l,∃es,x.nx[p]?=some es/\∃e∈es,e.to=q
 cmp:∀(i' k':Nat),(i'<i∨i'=i/\k'<k)->∀l,x.nx[i']?=some l->∀e:Eg,l[k']?=some e->∃l',fr[e.to]?=some l'/\i'∈l'
def B0.start(x:Fa):B0 x 0 0 (List.replicate x.nx.length []):=by
 refine⟨by simp,λl d=>by rw[Aw d];simp,λq l c p f=>?_,λg j h=>by omega⟩;rw[yJ]at c
 split at c
 .cases c;cases f
 cases c
def B0.step{x:Fa}{i k:Nat}{fr:ep}(h:B0 x i k fr){l:bu}{e:Eg}(z:x.nx[i]?=some l)(B:l[k]?=some e){l':az}(d:fr[e.to]?=some l'):B0 x i (k+1) (fr.set e.to (l'++[i])):=by
 obtain⟨g,_⟩:=aU.1 d;refine⟨by simp[h.len],λu f=>?_,λq u y p C=>?_,λD E P u f H j=>?_⟩
 .rcases yk f with r|r
  .have:=h.sz u r;omega
  have:=h.sz l' (cE d);rw[r];simp;omega
 .rw[gl]at y;by_cases c:e.to=q
  .rw[au c,au g]at y;cases y;rcases l5.1 C with r|r
   .exact h.snd q l' (c▸d) p r
   rw[cr.1 r];exact⟨l,z,e,cE B,c⟩
  rw[ar c]at y;exact h.snd q u y p C
 rw[gl];by_cases t:D=i/\E=k
 .obtain⟨rfl,rfl⟩:=t;rw[z]at f;cases f;rw[B]at j;cases j;rw[au rfl,au g];exact⟨_,rfl,by simp⟩
 obtain⟨Q,M,O⟩:=h.cmp D E (by omega) u f H j;by_cases c:e.to=H.to
 .rw[au c,au g];rw[c,M]at d;cases d;exact⟨_,rfl,by simp[O]⟩
 rw[ar c];exact⟨Q,M,O⟩
def B0.row{x:Fa}{i:Nat}{fr:ep}{l:bu}(p:x.nx[i]?=some l)(q:l.length<=6000)(h:B0 x i l.length fr):B0 x (i+1) 0 fr:=by
 have g:∀d∈fr,d.length<=(i+1)*6000+0:=λd c=>by rw[iB,iR];exact fu (h.sz d c) (J9 q _)
 refine⟨h.len,g,h.snd,λj r t d c u f=>h.cmp j r ?_ d c u f⟩;by_cases y:j=i
 .subst y;rw[p]at c;cases c;exact .inr ⟨rfl,(aU.1 f).1⟩
 omega
def Ib(l:az):Nat×List ai:=(1,l.map nC)
section
variable{x:Fa}
def Yh(T:bA x){i:Nat}(V:i<x.nx.length){e:En}{s:HS}{o:Out}{o3:Ky}{v20 v21 v22:HV}{ao:aW}{aE:cq}{fr:ep}
  (g:bB e [(1,.aw x.c),(3,.sl o3 0 x.nx.length 1),(4,iV i),(20,v20),(21,v21),(22,v22),(27,.psl (x.nx[i].map Eg.c)),(28,iV x.nx[i].length),(29,iV 0)])
  (C:aI s ao ((.sl o3 0 x.nx.length 1,1,aE.map gP)::aE) [])(q:aE.map (·.2)=fr.map Ib)(p:B0 x i 0 fr)(ho:bO R (.loop U.xL) e s=o):
  ∃(e':En) (s':HS) (ao:aW) (aE:cq) (fr:ep),o=.code (.exit 2) e' s'/\bB e' [(1,.aw x.c),(3,.sl o3 0 x.nx.length 1),(20,v20),(21,v21),(22,v22)]/\
   aI s' ao ((.sl o3 0 x.nx.length 1,1,aE.map gP)::aE) []/\aE.map (·.2)=fr.map Ib/\B0 x (i+1) 0 fr:=by
 have hn:=T.n;have D:=aX V;have X:=T.row V;revert o;show∀o,_;refine ajX x.nx[i].length
  (λk e s=>∃(ao:aW) (aE:cq) (fr:ep),bB e [(1,.aw x.c),(3,.sl o3 0 x.nx.length 1),(4,iV i),(20,v20),(21,v21),(22,v22),(27,.psl (x.nx[i].map Eg.c)),(28,iV x.nx[i].length),(29,iV k)]/\
   aI s ao ((.sl o3 0 x.nx.length 1,1,aE.map gP)::aE) []/\aE.map (·.2)=fr.map Ib/\B0 x i k fr)
  0 (by omega) ⟨ao,aE,fr,g,C,q,p⟩ ?_ ?_
 .rintro k e s r Y ⟨ao,aE,fr,g,C,q,p⟩ E
  have Z:(k:Int)<x.nx[i].length:=by omega
  have H:=aX Y;have t:=T.to _ (cb V) _ (cb Y);generalize he:x.nx[i][k]=d at*;have h5:aE.length=x.nx.length:=by have:=ch List.length q;simp only[bz]at this;rw[this,p.len]
  have f:aE[d.to]?=some (aE[d.to]'(by omega)):=aX (by omega);obtain⟨B,u⟩:∃B,fr[d.to]?=some B:=⟨_,aX (by rw[p.len];exact t)⟩;obtain⟨w,hw⟩:∃w,aE[d.to]'(by omega)=(w,Ib B):=by have h1:=ch (λl=>l[d.to]?) q;simp only[fV,f,u,me,bQ]at h1;exact⟨_,ahv rfl h1⟩
  have j:=C.cL d.c;have y:=(j.bm 0 _ _ rfl).1.1;generalize M:HS.mk _ _ _ _=S1 at j y;have g6:eN (aj S1.h o3) d.to=some w:=by rw[(j.mem.own 0 _ _ _ rfl).cell d.to (by simp;omega)];simp[hw,gP]
  rw[hw]at f;obtain⟨v',s2,O,a2,c2,z⟩:=j.append (d.to+1) (by rw[BP];exact f) (new:=[[iV i]]) (Sz.cons rfl Sz.nil) (by simp) (bI:=17592186044416) (by have:=p.sz B (cE u);simp;omega);simp only[bJ]at z;have P:=(z.bm 0 _ _ rfl).1.1;obtain⟨o1,s3,b1,b2,Q⟩:=z.jQ 0 rfl d.to (by simp;omega) c2;simp[t]at b1;obtain rfl:=b1;simp only[aO,jl]at Q b2;have h4:(d.to:Int)<x.nx.length:=by omega
  have h2:=br (n:=6000) (show k<6000 by omega) (by omega);simp only[ab,ae]at g;simp only[Eg.c,aB,aC,bn,Nat.reduceAdd,iV]at y P M a2;have h3:(x.nx[i].map Eg.c)[k]?=some d.c:=by rw[fV,H];rfl
  simp only[Eg.c]at h3;simp[U.xL,g,Y,Z,he,M,y,P,aq,aA,g6,a2,b2,t,h2]at E;subst E;refine .inl ⟨_,_,rfl,O,aE.set d.to (v',1,B.map nC++[[iV i]]),fr.set d.to (B++[i]),by simp[g],?_,?_,p.step D H u⟩
  .rw[mR];have:=Q;exact⟨this.mem,by simp,by simp⟩
  rw[mR,mR,q];simp[Ib,nC]
 rintro e s r ⟨ao,aE,fr,g,C,q,p⟩ E
 simp only[ab,ae]at g;simp[U.xL,g]at E;subst E;exact⟨by simp,_,_,ao,aE,fr,rfl,by simp[g],C,q,p.row D X⟩
end
def Yi{α:Type}(A:List α)(a b:α):(A++[a,b])[A.length]?=some a:=by simp
def SD{α:Type}(A:List α)(a b:α):(A++[a,b])[A.length+1]?=some b:=by simp
def afB{α:Type}(A:List α)(a b c:α):(A++[a,b]).set A.length c=A++[c,b]:=by simp
def MW{α:Type}(A:List α)(a b c:α):(A++[a,b]).set (A.length+1) c=A++[a,c]:=by simp
def uO:∀(u:cf) (q:Nat),u[q]?=some false->(u.set q true).count false+1=u.count false
 |[],q,h=>by simp at h
 |b::u,0,h=>by simp only[BO,bQ]at h;subst h;simp
 |b::u,q+1,h=>by have:=uO u q (by simpa using h);rw[bJ,SE,SE];omega
structure B1(x:Fa)(u:cf)(td:az)(w:aG):Prop where
 len:u.length=x.nx.length
 snd:∀i:Nat,u[i]?=some true->Lv x i
 fin:∀i:Nat,x.fi[i]?=some true->u[i]?=some true
 tu:∀p∈td,u[p]?=some true
 cls:∀(i:Nat) l,x.nx[i]?=some l->∀e∈l,u[e.to]?=some true->e.to∈td∨u[i]?=some true∨w i
def B1.done{x:Fa}{u:cf}(h:B1 x u [] λ_=>False):mQ x u:=by
 refine⟨h.len,λi=>⟨h.snd i,λd=>?_⟩⟩
 induction d with
 |fin f=>exact h.fin _ f
 |Fy g j _ p=>
  rcases h.cls _ _ g _ j p with c|c|c
  .cases c
  .exact c
  exact c.elim
def B1.pop{x:Fa}{u:cf}{g:az}{p:Nat}(h:B1 x u (g++[p]) λ_=>False){fr:ep}(y:B0 x x.nx.length 0 fr){l':az}(z:fr[p]?=some l'):B1 x u g λi=>∃j,0<=j/\l'[j]?=some i:=by
 refine⟨h.len,h.snd,h.fin,λq B=>h.tu q (by simp[B]),λi l d e r C=>?_⟩;rcases h.cls i l d e r C with c|c|c
 .rcases l5.1 c with f|f
  .exact .inl f
  obtain⟨k,D⟩:=uG.1 r;obtain⟨M,t,E⟩:=y.cmp i k (.inl (aU.1 d).1) l d e D;rw[cr.1 f,z]at t;cases t;obtain⟨j,H⟩:=uG.1 E;exact .inr (.inr ⟨j,fN _,H⟩)
 .exact .inr (.inl c)
 exact c.elim
def B1.old{x:Fa}{u:cf}{p:az}{l':az}{j q:Nat}(h:B1 x u p λi=>∃c,j<=c/\l'[c]?=some i)(r:l'[j]?=some q)(t:u[q]?=some true):B1 x u p λi=>∃c,j+1<=c/\l'[c]?=some i:=by
 refine⟨h.len,h.snd,h.fin,h.tu,λi l y e z B=>?_⟩;rcases h.cls i l y e z B with d|d|⟨c,d,f⟩
 .exact .inl d
 .exact .inr (.inl d)
 by_cases g:c=j
 .subst g;rw[r]at f;cases f;exact .inr (.inl t)
 exact .inr (.inr ⟨c,by omega,f⟩)
def B1.new{x:Fa}{u:cf}{D:az}{l':az}{j q:Nat}(h:B1 x u D λi=>∃f,j<=f/\l'[f]?=some i)(E:l'[j]?=some q)(H:u[q]?=some false)(y:Lv x q):B1 x (u.set q true) (D++[q]) λi=>∃f,j+1<=f/\l'[f]?=some i:=by
 obtain⟨z,_⟩:=aU.1 H;have c:∀i:Nat,(u.set q true)[i]?=some true↔i=q∨u[i]?=some true:=by
  intro i;rw[gl];by_cases g:q=i
  .subst g;simp[z]
  rw[ar g];exact⟨.inr,λh=>h.resolve_left (λh=>g h.symm)⟩
 refine⟨by simp[h.len],λi r=>?_,λi r=>(c i).2 (.inr (h.fin i r)),λp M=>?_,λi l r e O P=>?_⟩
 .rcases(c i).1 r with rfl|d
  .exact y
  exact h.snd i d
 .rcases l5.1 M with d|d
  .exact(c p).2 (.inr (h.tu p d))
  exact(c p).2 (.inl (cr.1 d))
 rcases(c _).1 P with d|d
 .exact .inl (by simp[d])
 rcases h.cls i l r e O d with t|t|⟨f,t,B⟩
 .exact .inl (by simp[t])
 .exact .inr (.inl ((c i).2 (.inr t)))
 by_cases C:f=j
 .subst C;rw[E]at B;cases B;exact .inr (.inl ((c _).2 (.inl rfl)))
 exact .inr (.inr ⟨f,by omega,B⟩)
section
variable{x:Fa}
def Yj(E:bA x){e:En}{s:HS}{o:Out}{o3:Ky}{ao:aW}{aE:cq}{fr:ep}
  (d:bB e [(1,.aw x.c),(3,.sl o3 0 x.nx.length 1),(20,.psl (x.nx.map oG)),(21,iV x.nx.length),(22,iV 0)])
  (j:aI s ao ((.sl o3 0 x.nx.length 1,1,aE.map gP)::aE) [])(p:aE.map (·.2)=fr.map Ib)(q:B0 x 0 0 fr)(u:bO R (.loop U.xM) e s=o):
  ∃(e':En) (s':HS) (ao:aW) (aE:cq) (fr:ep),o=.code (.exit 0) e' s'/\bB e' [(1,.aw x.c),(3,.sl o3 0 x.nx.length 1)]/\
   aI s' ao ((.sl o3 0 x.nx.length 1,1,aE.map gP)::aE) []/\aE.map (·.2)=fr.map Ib/\B0 x x.nx.length 0 fr:=by
 have M:=E.n;revert o;show∀o,_;refine ajX x.nx.length
  (λi e s=>∃(ao:aW) (aE:cq) (fr:ep),bB e [(1,.aw x.c),(3,.sl o3 0 x.nx.length 1),(20,.psl (x.nx.map oG)),(21,iV x.nx.length),(22,iV i)]/\
   aI s ao ((.sl o3 0 x.nx.length 1,1,aE.map gP)::aE) []/\aE.map (·.2)=fr.map Ib/\B0 x i 0 fr)
  0 (by omega) ⟨ao,aE,fr,d,j,p,q⟩ ?_ ?_
 .rintro i e s r H ⟨ao,aE,fr,d,j,p,q⟩ g
  have y:(i:Int)<x.nx.length:=by omega
  simp only[ab,ae]at d;simp[U.xM,d,H,y]at g;generalize u:bO R (.loop U.xL) _ _=o at g;obtain⟨e',s',t,f,z,rfl,h,B,C,D⟩:=Yh E H (v20:=.psl (x.nx.map oG)) (v21:=iV x.nx.length) (v22:=iV i) (by simp[d]) j p q u;clear u;simp only[ab,ae]at h;simp[h,br (n:=400) (show i<400 by omega) (by omega)]at g;subst g;exact .inl ⟨_,_,rfl,t,f,z,by simp[h],B,C,D⟩
 rintro e s r ⟨ao,aE,fr,d,j,p,q⟩ g
 simp only[ab,ae]at d;simp[U.xM,d]at g;subst g;exact⟨by simp,_,_,ao,aE,fr,rfl,by simp[d],j,p,q⟩
def Yk{A:cq}{u:cf}(E:u.length<=400){e:En}{s:HS}{o:Out}{v3:HV}{o8:Ky}{ao:aW}
  (d:bB e [(3,v3),(8,.sl o8 0 u.length 1),(9,.ah),(50,.sl o8 0 u.length 1),(51,iV u.length),(52,iV 0)])
  (f:aI s ao (A++[(.sl o8 0 u.length 1,1,u.map bC),(.ah,1,[])]) [])(H:bO R (.loop U.tJ) e s=o):
  ∃(e':En) (s':HS) (ao:aW) (v9:HV),o=.code (.exit 4) e' s'/\bB e' [(3,v3),(8,.sl o8 0 u.length 1),(9,v9)]/\
   aI s' ao (A++[(.sl o8 0 u.length 1,1,u.map bC),(v9,1,(((List.range u.length).filter λi=>u.getD i false)).map nC)]) []:=by
 revert o;show∀o,_;refine ajX u.length
  (λi e s=>∃(ao:aW) (v9:HV),bB e [(3,v3),(8,.sl o8 0 u.length 1),(9,v9),(50,.sl o8 0 u.length 1),(51,iV u.length),(52,iV i)]/\
   aI s ao (A++[(.sl o8 0 u.length 1,1,u.map bC),(v9,1,(((List.range i).filter λi=>u.getD i false)).map nC)]) [])
  0 (by omega) ⟨ao,.ah,d,f⟩ ?_ ?_
 .rintro i e s r q ⟨ao,v9,d,f⟩ g
  have h:(i:Int)<u.length:=by omega
  have y:=br (n:=400) (show i<400 by omega) (by omega);have t:=ly (f.mem.own A.length _ _ _ (Yi _ _ _)) (aX q);simp only[ab,ae]at d;have c:((List.range (i+1)).filter λi=>u.getD i false)=((List.range i).filter λi=>u.getD i false)++(if u[i]then [i]else []):=by rw[yl,ah1,List.filter_cons,getD_at q];cases u[i]<;>rfl
  cases z:u[i]
  .rw[z]at t c;simp[U.tJ,d,q,h,t,y]at g;subst g;refine .inl ⟨_,_,rfl,ao,v9,by simp[d],?_⟩;rw[c];simpa using f
  rw[z]at t c;have B:((List.range i).filter λi=>u.getD i false).length<=i:=by have:=Ka (λi=>u.getD i false) (List.range i);simpa using this
  obtain⟨C,s2,j,D,M,p⟩:=f.append (A.length+1) (SD _ _ _) (new:=[[iV i]]) (Sz.cons rfl Sz.nil) (by simp) (bI:=17592186044416) (by simp only[bz,aB,aC];omega);rw[MW]at p;simp[U.tJ,d,q,h,t,y,D]at g;subst g;refine .inl ⟨_,_,rfl,j,C,by simp[d],?_⟩;rw[c];simpa[nC]using p
 rintro e s r ⟨ao,v9,d,f⟩ g
 simp only[ab,ae]at d;simp[U.tJ,d]at g;subst g;exact⟨by simp,_,_,ao,v9,rfl,by simp[d],f⟩
def Yl(hx:bA x){A:cq}{a:Nat}{T:HV}{l':az}(hA:A[a]?=some (T,1,l'.map nC))(h5:l'.length<=2400000)(Z:∀q∈l',q<x.nx.length)(h3:∀q∈l',Lv x q){u:cf}{c:az}{N:Nat}(C:c.length+u.count false=N)(h6:N<=400)
  {e:En}{s:HS}{o:Out}{v3 v9:HV}{o8:Ky}{ao:aW}(f:B1 x u c λi=>∃B,0<=B/\l'[B]?=some i)
  (d:bB e [(3,v3),(8,.sl o8 0 x.nx.length 1),(9,v9),(80,T),(81,iV l'.length),(82,iV 0)])
  (p:aI s ao (A++[(.sl o8 0 x.nx.length 1,1,u.map bC),(v9,1,c.map nC)]) [])(ho:bO R (.loop U.tK) e s=o):
  ∃(e':En) (s':HS) (ao:aW) (v9:HV) (u:cf) (c:az),o=.code (.exit 8) e' s'/\bB e' [(3,v3),(8,.sl o8 0 x.nx.length 1),(9,v9)]/\c.length+u.count false=N/\(B1 x u c λ_=>False)/\
   aI s' ao (A++[(.sl o8 0 x.nx.length 1,1,u.map bC),(v9,1,c.map nC)]) []:=by
 have hn:=hx.n;have h4:=(aU.1 hA).1;revert o;show∀o,_;refine ajX l'.length
  (λj e s=>∃(ao:aW) (v9:HV) (u:cf) (c:az),bB e [(3,v3),(8,.sl o8 0 x.nx.length 1),(9,v9),(80,T),(81,iV l'.length),(82,iV j)]/\c.length+u.count false=N/\(B1 x u c λi=>∃B,j<=B/\l'[B]?=some i)/\
   aI s ao (A++[(.sl o8 0 x.nx.length 1,1,u.map bC),(v9,1,c.map nC)]) [])
  0 (by omega) ⟨ao,v9,u,c,d,C,f,p⟩ ?_ ?_
 .rintro j e s r t ⟨ao,v9,u,c,d,C,f,p⟩ y
  have D:(j:Int)<l'.length:=by omega
  have E:=aX t;have hw:=br (n:=2400000) (show j<2400000 by omega) (by omega);have hq:=Z _ (cb t);have H:=h3 _ (cb t);have z:=p.mem.own a T 1 (l'.map nC) (by rw[dD h4];exact hA);obtain⟨o9,rfl⟩:=z.gP (by intro h;rw[FJ]at h;rw[h]at t;simp at t);rw[bz]at d z;have g0:=iy z t;generalize l'[j]=q at*;have h7:=f.len;have g:q<u.length:=by omega
  have h8:(q:Int)<x.nx.length:=by omega
  have V:=ly (p.mem.own A.length _ _ _ (Yi _ _ _)) (aX g);simp only[ab,ae]at d;cases X:u[q]
  .rw[X]at V;obtain⟨o1,s1,b1,b2,M⟩:=p.jQ A.length (Yi _ _ _) q (by simpa using g) (x:=.bool true) rfl;simp[hq]at b1;obtain rfl:=b1;rw[afB]at M;simp only[jl]at b2;obtain⟨v',s2,O,a2,c2,P⟩:=M.append (A.length+1) (SD _ _ _) (new:=[[iV q]]) (Sz.cons rfl Sz.nil) (by simp) (bI:=17592186044416) (by simp only[bz,aB,aC];omega);rw[MW]at P;have Q:u[q]?=some false:=by rw[aX g,X]
   simp[U.tK,d,t,D,g0,V,hq,b2,a2,hw]at y;subst y;refine .inl ⟨_,_,rfl,O,v',u.set q true,c++[q],by simp[d],?_,f.new E Q H,?_⟩
   .have:=uO u q Q;simp only[bZ,aB,aC];omega
   rw[mR,eU];exact P
  rw[X]at V;simp[U.tK,d,t,D,g0,V,hq,hw]at y;subst y;exact .inl ⟨_,_,rfl,ao,v9,u,c,by simp[d],C,f.old E (by rw[aX g,X]),p⟩
 rintro e s r ⟨ao,v9,u,c,d,C,f,p⟩ y
 simp only[ab,ae]at d;simp[U.tK,d]at y;subst y;refine⟨by simp,_,_,ao,v9,u,c,rfl,by simp[d],C,⟨f.len,f.snd,f.fin,f.tu,λi l hi e he hu=>?_⟩,p⟩;rcases f.cls i l hi e he hu with Y|Y|⟨B,Y,h2⟩
 .exact .inl Y
 .exact .inr (.inl Y)
 have:=(aU.1 h2).1;omega
def Ym(hx:bA x){A:cq}{o3:Ky}{aE:cq}{fr:ep}(V:A[0]?=some (.sl o3 0 x.nx.length 1,1,aE.map gP))(h8:∀q:Nat,A[q+1]?=aE[q]?)(hI:aE.map (·.2)=fr.map Ib)(Q:B0 x x.nx.length 0 fr)
  {u:cf}{T:az}(hN:T.length+u.count false<=400){e:En}{s:HS}{o:Out}{v9:HV}{o8:Ky}{ao:aW}(g:B1 x u T λ_=>False)
  (d:bB e [(3,.sl o3 0 x.nx.length 1),(8,.sl o8 0 x.nx.length 1),(9,v9)])
  (f:aI s ao (A++[(.sl o8 0 x.nx.length 1,1,u.map bC),(v9,1,T.map nC)]) [])(ho:bO R (.loop U.tL) e s=o):
  ∃(e':En) (s':HS) (ao:aW) (v9:HV) (u:cf),o=.code (.exit 6) e' s'/\bB e' [(8,.sl o8 0 x.nx.length 1)]/\mQ x u/\
   aI s' ao (A++[(.sl o8 0 x.nx.length 1,1,u.map bC),(v9,1,[])]) []:=by
 have hn:=hx.n;have hl:aE.length=x.nx.length:=by have:=ch List.length hI;simp only[bz]at this;rw[this,Q.len]
 have j:∀(e:En) (s:HS) (r:Out) (ao:aW) (v9:HV) (u:cf),bB e [(3,.sl o3 0 x.nx.length 1),(8,.sl o8 0 x.nx.length 1),(9,v9)]->(B1 x u [] λ_=>False)->
   aI s ao (A++[(.sl o8 0 x.nx.length 1,1,u.map bC),(v9,1,[])]) []->bO R U.tL e s=r->gJ r/\∃(e':En) (s':HS) (ao:aW) (v9:HV) (u:cf),r=.code (.exit 6) e' s'/\bB e' [(8,.sl o8 0 x.nx.length 1)]/\mQ x u/\
   aI s' ao (A++[(.sl o8 0 x.nx.length 1,1,u.map bC),(v9,1,[])]) []:=by
  intro e s r ao v9 u d g f z;have hlen:=f.mem.len (A.length+1) (SD _ _ _) s;simp only[ab,ae]at d;simp only[aC]at hlen;simp[U.tL,d,hlen]at z;subst z;exact⟨by simp,_,_,ao,v9,u,rfl,by simp[d],g.done,f⟩
 refine bh ho (T.length+u.count false)
  (λi e s=>∃(ao:aW) (v9:HV) (C:cf) (c:az),bB e [(3,.sl o3 0 x.nx.length 1),(8,.sl o8 0 x.nx.length 1),(9,v9)]/\c.length+C.count false+i=T.length+u.count false/\(B1 x C c λ_=>False)/\
   aI s ao (A++[(.sl o8 0 x.nx.length 1,1,C.map bC),(v9,1,c.map nC)]) []) _
  0 (by omega) ⟨ao,v9,u,T,d,by omega,g,f⟩
  (λi e s r hi ⟨ao,v9,C,c,d,B,g,f⟩ z=>by
   rcases sv c with h0|⟨t,p,h0⟩
   .subst h0;exact .inr (j e s r ao v9 C d g f z)
   rw[tW]at h0;subst h0;have X:=g.tu p (by simp);have Y:p<x.nx.length:=by have:=(aU.1 X).1;have:=g.len;omega
   have hk:(p:Int)<x.nx.length:=by omega
   have hlen:=f.mem.len (A.length+1) (SD _ _ _) s;have H:=f.mem.own (A.length+1) _ _ _ (SD _ _ _);obtain⟨o9,rfl⟩:=H.gP (by simp);rw[bz]at d H;have g9:=iy H (i:=t.length) (by simp);obtain⟨hp,h9,M⟩:=f.cut (A.length+1) (SD _ _ _) t.length (by simp) (by simp);rw[MW]at M;simp at h9;obtain rfl:=h9;rw[show((t++[p]).map nC).take t.length=t.map nC by simp]at M;obtain⟨O,y⟩:∃O,fr[p]?=some O:=⟨_,aX (by rw[Q.len];exact Y)⟩;have D:aE[p]?=some (aE[p]'(by omega)):=aX (by omega);obtain⟨w,hw⟩:∃w,aE[p]'(by omega)=(w,Ib O):=by have E:=ch (λl=>l[p]?) hI;simp only[fV,D,y,me,bQ]at E;exact⟨_,ahv rfl E⟩
   have P:A[p+1]?=some (w,1,O.map nC):=by rw[h8,D,hw];rfl
   have g6:eN (aj s.h o3) p=some w:=by have E:=f.mem.own 0 _ _ _ (by rw[dD (by have:=(aU.1 V).1;omega)];exact V);rw[E.cell p (by simp;omega)];simp[hw,gP]
   have Z:=f.mem.len (p+1) (by rw[dD (by have:=(aU.1 P).1;omega)];exact P) s;simp only[bz,bZ,aB,aC]at hlen Z d g9;have h4:bT .i64 (t.length:Int)=t.length:=cx (by omega) (by simp at B;omega);have h5:(0:Int)<(t.length:Int)+1:=by omega
   have ha:(t++[p])[t.length]'(by simp)=p:=by simp
   rw[ha]at g9;simp only[ab,ae]at d;have e1:((t.length+(0+1):Nat):Int)=(t.length:Int)+1:=by omega
   simp only[e1]at hlen;simp[U.tL,d,hlen,h5,h4,g9,Y,g6,Z]at z;generalize ho:bO R (.loop U.tK) _ _=o at z;have hb:=g.pop Q y;obtain⟨e',s',h6,hd,u2,hf,rfl,h7,hs,hg,hj⟩:=Yl hx (v3:=.sl o3 0 x.nx.length 1) P (by
     have:=Q.sz O (cE y);exact fu this (by rw[iB];exact fu (ji _ hn) (by decide)))
    (λq hq=>by obtain⟨es,E,_⟩:=Q.snd p O y q hq;exact(aU.1 E).1)
    (λq hq=>by obtain⟨es,E,e1,h2,h3⟩:=Q.snd p O y q hq;exact .Fy E h2 (h3▸g.snd p X)) (N:=t.length+C.count false) rfl (by simp at B;omega) hb (by simp[d]) M ho
   clear ho;simp only[ab,ae]at h7;simp at z;subst z;exact .inl ⟨_,_,rfl,h6,hd,u2,hf,by simp[h7],by simp at B;omega,hg,hj⟩)
  (λe s r ⟨ao,v9,C,c,d,B,g,f⟩ z=>by
   have h0:c=[]:=ja (by omega);subst h0;exact j e s r ao v9 C d g f z)
def afC(x:Fa)(C:bA x):∃u,mQ x u/\gy U.f195 R [.agg x.c]=true/\∀s,R (.call 162 [.agg x.c] s)=.val (.psl (u.map bC)) s:=by
 have hn:=C.n;have d:=C.nf;have hb:=C.pos;generalize g:bO R U.Q4 (bc [.agg x.c] 0) s0=r
 suffices h:∃u,mQ x u/\pF [.tmp 2] r=some (.psl (u.map bC))/\UP [.tmp 2] r=true by obtain⟨u,T,h,V⟩:=h;rw[<-g]at h V;exact⟨u,T,by rw[sC];exact V,λs=>adW h⟩
 have h0:aI s0 (λ_=>none) [] []:=⟨dV.start (by simp),by simp,by simp⟩;obtain⟨s1,m1,Y,Z⟩:=lZ (s:=s0) (n:=x.nx.length) (bI:=5864062014805) (by omega) .ah;obtain⟨c1,h7⟩:=h0.join Z Y (λk hk=>by subst hk;exact aV _);have D:aI s1 c1 ((.sl s0.nx 0 x.nx.length 1,1,(List.replicate x.nx.length ((.ah,1,[]):tO)).map gP)::List.replicate x.nx.length (.ah,1,[])) []:=by
  rw[List.map_replicate];have key:∀(n:Nat) (L:cq),aI s1 c1 L []->aI s1 c1 (L++List.replicate n (.ah,1,[])) []:=by
   intro n
   induction n with|zero=>intro L h;simpa using h|succ n ih=>intro L h;have:=ih _ (h.push 1);rwa[yt]at this
  exact key x.nx.length _ h7
 simp[U.Q4,m1]at g;generalize j:bO R (.loop U.xM) _ _=o at g;obtain⟨e2,s2,c2,aE,fr,rfl,y,h8,hI,hF⟩:=Yj C (o3:=s0.nx) (by simp) D (by simp[Ib]) (B0.start x) j;clear j;have hd:aE.length=x.nx.length:=by have:=ch List.length hI;simp only[bz]at this;rw[this,hF.len]
 obtain⟨b,t,z⟩:∃b t,x.fi=b::t:=by cases V:x.fi with|nil=>have h9:=ch List.length V;simp only[aC]at h9;omega|cons b t=>exact⟨b,t,rfl⟩
 obtain⟨v8,s3,c3,a3,k3,f⟩:=Yg h8 b t (by rw[z]at d;simp at d;omega);have f:=f.push 1;rw[<-z]at f;have E:x.fi.map bC=[.bool b]::t.map bC:=by rw[z];rfl
 simp only[ab,ae]at y;obtain⟨o8,rfl⟩:=(f.mem.own (aE.length+1) v8 1 (x.fi.map bC) (by simp)).gP (by rw[E];simp);rw[bz,<-d]at f a3;simp[y,E,a3]at g;generalize j:bO R (.loop U.tJ) _ _=o at g;obtain⟨e4,s4,c4,v9,rfl,B,H⟩:=Yk (A:=(.sl s0.nx 0 x.nx.length 1,1,aE.map gP)::aE) (u:=x.fi) (v3:=.sl s0.nx 0 x.nx.length 1) (o8:=o8) (by omega) (by rw[<-d];simp[y]) (by rw[<-d];simpa using f) j;clear j;rw[<-d]at B H;simp only[ab,ae]at B;simp at g;generalize j:bO R (.loop U.tL) _ _=o at g;have M:((List.range x.nx.length).filter λi=>x.fi.getD i false).length+x.fi.count false<=400:=by
  have T:=Ka (λi=>x.fi.getD i false) (List.range x.nx.length);have h2:∀(l:cf),((List.range l.length).filter λi=>l.getD i false).length+l.count false<=l.length:=by
   intro l;have h3:((List.range l.length).filter λi=>l.getD i false).length=l.count true:=by
    have h4:l=(List.range l.length).map λi=>l.getD i false:=qD (by simp) λi h5 h6=>by simp[h5]
    conv=>rhs;rw[h4]
    rw[List.count_eq_countP,List.countP_map,SF]
    congr 1
    refine List.filter_congr λi _=>?_
    show l.getD i false=(l.getD i false==true);cases l.getD i false<;>rfl
   have h4:∀l:cf,l.count true+l.count false=l.length:=by
    intro l
    induction l with
    |nil=>rfl
    |cons b l ih=>cases b<;>simp<;>omega
   rw[h3,h4];exact aV _
  have:=h2 x.fi;rw[<-d]at this;omega
 have hJ:B1 x x.fi ((List.range x.nx.length).filter λi=>x.fi.getD i false) λ_=>False:=by
  refine⟨d.symm,λi X=>.fin X,λi X=>X,λp hp=>?_,λi l X e he hu=>?_⟩
  .rw[tk,fX]at hp;rw[aX (by omega),<-hp.2,getD_at (by omega)]
  left;obtain⟨T,h2⟩:=aU.1 hu;rw[tk,fX];exact⟨by omega,by rw[getD_at T];exact h2⟩
 obtain⟨e5,s5,c5,hg,u,rfl,O,ha,P⟩:=Ym C (A:=(.sl s0.nx 0 x.nx.length 1,1,aE.map gP)::aE) (o3:=s0.nx) (aE:=aE) rfl (λq=>rfl) hI hF M hJ (by simp[B]) H j;clear j;simp only[ab,ae]at O;have Q:=P.mem.own _ _ _ _ (Yi _ _ _);have hv:=(P.mem.own _ _ _ _ (Yi _ _ _)).vw (n:=14) (by exact cD (λx=>by simp[eo]) _);simp[O]at g;subst g;refine⟨u,ha,?_,vV (v:=.sl o8 0 x.nx.length 1) (s':=s5) (by simp) (sE Q (GM u))⟩;simp;exact aY hv
end
def afD(s:HS):R (.call 163 [] s)=.val (.agg j8.c) s:=by refine adY ?_;simp[U.Wl,s0,aq,aA,an];exact aY (Vw.agg (.cons (Vw.sl (l:=[.ah]) (l':=[.psl []]) rfl (.cons .ah .nil) (λ_=>rfl) (λh=>by cases h)) (.cons (Vw.sl (l:=[.bool false]) (l':=[.bool false]) rfl (.data (by simp)) (λ_=>rfl) (λh=>by cases h)) .nil)))
def afE(u:cf)(e:Eg)(h:e.to<u.length)(s:HS):R (.call 165 [.agg e.c,.aw [.psl (u.map bC)]] s)=.val (.bool (!u.getD e.to false)) s:=by
 refine ad0 ?_;have d:(e.to:Int)<u.length:=by omega
 rw[getD_at h];simp[U.Wm,aa,h]
def Yn(u:cf)(l:bu)(Q:l.length<=6000)(C:∀e∈l,e.to<u.length)(s:HS):R (.call 180 [.psl (l.map Eg.c),.fn 165 [] [.aw [.psl (u.map bC)]]] s)=.val (iV (zB (λe:Eg=> !u.getD e.to false) l)) s:=by
 refine Xz ?_ rfl (by simp[eo]);simp[U.Ro];generalize B:bO R (.loop U.nM) _ _=o;have D:=jd B l.length (λi=>∀h:i<l.length,(!u.getD l[i].to false)=false) (λi=>[(0,.psl (l.map Eg.c)),(1,.fn 165 [] [.aw [.psl (u.map bC)]]),(7,iV l.length),(8,iV i)]) [] 0 (λi o=>∃z,o=.code .ret z s0/\look z 4=some (iV i)) (by simp)
  (λi e r f g p=>by
   have q:(i:Int)<l.length:=by omega
   have d:=afE u l[i] (C _ (cb f));simp only[Eg.c]at d;simp only[ab,ae]at g;cases t:(!u.getD l[i].to false)
   .rw[t]at d;simp[U.nM,g,f,q,d,br (n:=6000) (show i<6000 by omega) (by omega)]at p;subst p;exact .inl ⟨λ_=>t,_,rfl,by simp[g]⟩
   rw[t]at d;simp[U.nM,g,f,q,d]at p;subst p;exact .inr ⟨λh=>(by rw[h f]at t;cases t),by simp,_,rfl,by simp⟩)
  (λe r g p=>by
   simp only[ab,ae]at g;simp[U.nM,g]at p;subst p;exact⟨_,rfl,by simp⟩)
 clear B;rcases D with⟨i,f,E,H,z,rfl,M⟩|⟨y,z,rfl,_⟩
 .have O:(!u.getD l[i].to false)=true:=by
   cases h:(!u.getD l[i].to false)
   .exact absurd (λ_=>h) H
   rfl
  rw[vU f (λj P=>E j P (by omega)) O];simp[M,aa]
 rw[mY (λi f=>y i f f)];simp[aa]
def Yo(u:cf)(l:bu)(t:l.length<=6000)(p:∀e∈l,u[e.to]?=some true){s:HS}{o3 g:Ky}(y:aj s.h o3=some (.cells (cP [.psl (u.map bC)]) 0 1 g)):
  R (.call 164 [.psl (l.map Eg.c),.fn 165 [] [.ptr o3 0]] s)=.val (.psl (l.map Eg.c)) s:=by
 have d:=Yn u l t (λe z=>(aU.1 (p e z)).1);rw[mY (λi B=>by
  obtain⟨C,D⟩:=aU.1 (p _ (cb B));rw[getD_at C,D];rfl)]at d
 have E:R (.call 180 [.psl (l.map Eg.c),.fn 165 [] [.ptr o3 0]] s)=.val (iV (-1)) s:=aeh (by simp[cI,cm]) (.cons (.data (by simp)) (.cons (Vw.fn .nil (.cons (Vw.ptr y rfl (.data (by simp[eo]))) .nil)) .nil)) (by simp[eo]) rfl d;have f:∃j,ev R U.Mp (bc [.psl (l.map Eg.c),.fn 165 [] [.ptr o3 0]] 0) s=.code .ret j s/\look j 4=some (.psl (l.map Eg.c)):=by generalize q:ev R U.Mp (bc [.psl (l.map Eg.c),.fn 165 [] [.ptr o3 0]] 0) s=r;simp[U.Mp,E]at q;subst q;exact⟨_,rfl,by simp⟩
 obtain⟨j,f,H⟩:=f;exact adZ rfl ⟨.ret,_,s,f,.inr rfl,by simp[H]⟩
def Yp(l:bu)(d:l.length<=100000)(s:HS):R (.call 170 [.psl (l.map Eg.c)] s)=.val (.psl (l.map Eg.c)) s:=by have:=afA (l.map Eg.i) (by simpa using d) s;rw[wB]at this;exact this
def afF(x:Fa)(Y:bA x){s:HS}{ao:aW}{L:cq}{K:de}(h:aI s ao L K):∃vN vF s' d K',R (.call 134 [.agg x.c] s)=.val (.agg [vN,vF]) s'/\cellsOf vN=some [vN]/\cellsOf vF=some [vF]/\
  aI s' d (L++[(vF,1,x.fi.map bC),(vN,1,x.nx.map oG)]) (K'++K):=by
 have hn:=Y.n;have C:=Y.nf;have h5:=Y.pos;obtain⟨b,t,u⟩:∃b t,x.fi=b::t:=by cases hf:x.fi with|nil=>have h9:=ch List.length hf;simp only[aC]at h9;omega|cons b t=>exact⟨b,t,rfl⟩
 have h1:x.fi.map bC=[.bool b]::t.map bC:=by rw[u];rfl
 have D:=h.cL [.ah,.ah];generalize E:HS.mk _ _ _ _=S1 at D;obtain⟨vF,s2,c2,a2,k2,H⟩:=Yg D b t (by rw[u]at C;simp at C;omega);rw[<-u]at H;have M:=H.cL [.ah,.ah];generalize O:HS.mk _ _ _ _=S3 at M;obtain⟨s4,b4,f⟩:=M.put (a:=0) rfl (v:=.agg [.ah,vF]) (new:=[.ah,vF]) (by simp[cellsOf]) rfl;have f:=f.push 1;simp only[aO]at f;rw[show L++[(vF,1,x.fi.map bC)]++[((.ah,1,[]):tO)]=L++[(vF,1,x.fi.map bC),(.ah,1,[])] by simp]at f;simp only[aB,aC,bn,Nat.reduceAdd]at E O b4;have hE:∃y s' vN d,ev R U.Me (bc [.agg x.c] 0) s=.code .ret y s'/\look y 2=some (.ptr s.nx 0)/\cellsOf vN=some [vN]/\
   aI s' d (L++[(vF,1,x.fi.map bC),(vN,1,x.nx.map oG)]) ((s2.nx,[vN,vF])::(s.nx,[vN,vF])::K):=by
  generalize g:ev R U.Me (bc [.agg x.c] 0) s=r;simp[U.Me,E,h1,a2,k2,O,b4]at g;generalize ho:ev R (.loop U.BB) _ _=o at g;have z:∃(y:En) (s':HS) (ao:aW) (vN:HV),o=.code (.exit 0) y s'/\bB y [(2,.ptr s.nx 0),(3,.ptr s2.nx 0)]/\cellsOf vN=some [vN]/\
    aI s' ao (L++[(vF,1,x.fi.map bC),(vN,1,x.nx.map oG)]) ((s2.nx,[vN,vF])::(s.nx,[.ah,.ah])::K):=by
   clear g;revert o;refine ajY x.nx.length
    (λi e s'=>∃(ao:aW) (vN:HV),bB e [(2,.ptr s.nx 0),(3,.ptr s2.nx 0),(11,.psl (x.nx.map oG)),(12,iV x.nx.length),(13,iV i)]/\cellsOf vN=some [vN]/\
     aI s' ao (L++[(vF,1,x.fi.map bC),(vN,1,(x.nx.take i).map oG)]) ((s2.nx,[vN,vF])::(s.nx,[.ah,.ah])::K))
    0 (by omega) ⟨c2,.ah,by simp,rfl,f⟩ ?_ ?_
   .rintro i e s' r Z ⟨ao,vN,j,B,p⟩ g
    have h3:(i:Int)<x.nx.length:=by omega
    have h7:=Y.row Z;have P:=Yp x.nx[i] (by omega);have q:=(p.bm 0 s2.nx _ rfl).1.1;obtain⟨h4,s5,Q,a5,k5,T⟩:=p.append (L.length+1) (SD _ _ _) (new:=[[.psl (x.nx[i].map Eg.c)]]) (Sz.cons rfl Sz.nil) (by simp) (bI:=5864062014805) (by simp;omega);rw[MW]at T;obtain⟨s6,b6,V⟩:=T.yB (a:=0) rfl 0 (by simp) k5;simp only[aO]at V;have h6:(x.nx.map oG)[i]?=some [.psl (x.nx[i].map Eg.c)]:=by rw[fV,aX Z];rfl
    simp only[aB,aC,bn,Nat.reduceAdd]at q;simp only[ab,ae]at j;simp[U.BB,j,Z,h3,P,q,a5,b6,br (n:=400) (show i<400 by omega) (by omega)]at g;subst g;refine .inl ⟨_,_,rfl,Q,h4,by simp[j],k5,?_⟩;rw[eW Z,eU];exact V
   rintro e s' r ⟨ao,vN,j,B,p⟩ g
   simp only[ab,ae]at j;simp[U.BB,j]at g;subst g;rw[mP]at p;exact⟨by simp,_,_,ao,vN,rfl,by simp[j],B,p⟩
  obtain⟨y,s',d,vN,rfl,j,B,p⟩:=z;have q:=(p.bm 0 s2.nx _ rfl).1.1;obtain⟨s7,b7,X⟩:=p.put (a:=1) rfl (v:=.agg [vN,vF]) (new:=[vN,vF]) (by simp[cellsOf]) rfl;simp only[aO,bJ]at X;simp only[aB,aC,bn,Nat.reduceAdd]at q b7;simp only[ab,ae]at j;simp[j,q,an,b7]at g;subst g;exact⟨_,s7,vN,d,rfl,by simp[j],B,X⟩
 obtain⟨y,s',vN,d,hE,h2,B,p⟩:=hE;have q:=(p.bm 1 s.nx _ rfl).1.1;refine⟨vN,vF,s',d,[(s2.nx,[vN,vF]),(s.nx,[vN,vF])],adH rfl ⟨.ret,_,s',hE,.inr rfl,?_⟩,B,k2,p⟩;simp only[aB,aC,bn,Nat.reduceAdd]at q;simp[h2,q,an]
end Go.Proofs.YtcfbbbjhnaienaaGreatDoor.K.Hm.S
