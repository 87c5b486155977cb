/- PactBlame returns true for every pact and word, part 4. -/
import Derived.Test.YtepamfbheocmhaaGreatDoorCac
set_option linter.all false
open List renaming length_singleton->dx,cons_append->bx,nil_append->bA,length_cons->az,length_nil->aE,getElem_cons_zero->Bo,getElem?_cons_zero->xS,take_zero->SM,getElem?_cons_succ->Bp,take_succ_cons->Bq,find?_cons->ti,length_dropLast->SS,mem_of_mem_tail->SX,set_cons_zero->aQ,flatten_cons->SY,count_append->SZ,set_cons_succ->cd,findIdx_eq_length->S7,findIdx_le_length->Ta,foldl_cons->mY,findIdx_append->Th,tail_cons->Ti
open Int renaming natCast_zero->SR,toNat_natCast->hY
open Function renaming comp_def->EU
set_option maxRecDepth 10000
noncomputable section
namespace Go.Proofs.YtepamfbheocmhaaGreatDoor.K.Hm.S
open Go
def EX(x:Wk)(v1 v2 v3 v4:HV):aj:=[.psl (x.a.ids.map Ty.c),.bool x.a.root.cell,.int .i64 x.a.root.n,.bool x.a.jumps,v1,v2,v3,v4,.bool x.lost,.int .i64 x.po]
def Ye(x:Wk)(v1 v2 v3 v4:HV):cE:=[(v1,4,x.w.map Mv.c),(v2,1,x.op.map nC),(v3,1,x.pt.map iC),(v4,1,x.js.map iC)]
def DL(s:HS)(o:Ky)(x:Wk):Prop:=∃v1 v2 c d av,iB s o (EX x v1 v2 c d) av (Ye x v1 v2 c d)
def DL.U8{n:Nat}{s:HS}{o:Ky}{x:Wk}(h:DL s o x):Vw s (n+4) (.ptr o 0) (.aw x.c):=by obtain⟨v1,v2,d,f,av,h⟩:=h;refine Vw.ptr h.bD.1 rfl ?_;exact .cons (.data (by simp)) (.cons (.data (by simp)) (.cons (.data (by simp)) (.cons (.data (by simp)) (.cons ((h.own 0 _ _ _ rfl).vw (by simp)) (.cons ((h.own 1 _ _ _ rfl).vw (by simp)) (.cons ((h.own 2 _ _ _ rfl).vw (by simp)) (.cons ((h.own 3 _ _ _ rfl).vw (by simp)) (.cons (.data (by simp)) (.cons (.data (by simp)) .nil)))))))))
def DL.vw{s:HS}{o:Ky}{x:Wk}(h:DL s o x):nA s 16 [.ptr o 0] [.aw x.c]:=.cons h.U8 .nil
def cy(x:Wk)(m:Mv):Wk:=
 if de m then{x with w:=x.w++[m],op:=x.op++[x.w.length],pt:=x.pt++[-1],js:=x.js++[if 0<m.arg then((x.op.getLastD 0:Nat):Int)else if 0<m.id then 0 else-1],po:=max x.po (x.op.length+1)}
 else{x with w:=x.w++[m],op:=x.op.dropLast,pt:=x.pt.set (x.op.getLastD 0) x.w.length++[((x.op.getLastD 0:Nat):Int)],js:=x.js++[((x.op.getLastD 0:Nat):Int)],lost:=x.lost||(cJ m&&decide (0<m.id)&&decide (m.arg=0)&& !bf x.w)}
def pT{o:Ky}{k:Nat}{l:aj}:cj (.ptr o k::l)=false:=by rw[cj];simp[bV]
def Yf(x:Wk)(t:jl x)(m:Mv)(Z:de m=true)(cU:0<m.arg->x.op≠ [])(s:HS)(o:Ky)(h:DL s o x):
  ∃s',R (.call 91 [.ptr o 0,.agg m.c] s)=.val (.bM []) s'/\DL s' o (cy x m):=by
 have E:R (.call 38 [.ptr o 0] s)=.val (.bool (bf x.w)) s:=v65 pT h.vw (by simp) rfl (w65 x t);obtain⟨v1,v2,v3,v4,av,h⟩:=h;have hl:=t.len;have u:=U5 m;simp only[Mv.c]at u;have f4:=h.get 4 rfl;have l1:=h.len 0 rfl;obtain⟨H,s1,hb,a1,c1,h1⟩:=h.append 0 rfl (new:=[m.c]) (Sz.cons rfl Sz.nil) (by simp) (bw:=4398046511104) (by simp;omega);obtain⟨s2,b1,f⟩:=h1.field 4 (by simp[EX]) c1;have g5:=f.get 5 rfl;have l5:=f.len 1 rfl;simp only[Mv.c]at a1;generalize z:(if 0<m.arg then((x.op.getLastD 0:Nat):Int)else if 0<m.id then 0 else-1)=j;have key:∀(e:En) (r:Out),ev R U.sM e s2=r->look e 0=some (.ptr o 0)->look e 3=some (.aw m.c)->look e 6=some (iV (-1))->∃g,r=.code .normal g s2/\look g 6=some (iV j)/\look g 0=some (.ptr o 0)/\look g 4=look e 4:=by
  intro e r d B M e6;by_cases p:0<m.arg
  .obtain⟨k,n,q⟩:∃k n,x.op=k++[n]:=by
    rcases mu x.op with O|⟨k,n,O⟩
    .exact absurd O (cU p)
    exact⟨k,n,by simpa using O⟩
   have hlen:x.op.length=k.length+1:=by rw[q];simp
   obtain⟨o1,i1,i2⟩:=f.at1 1 rfl k.length (by simp[hlen]);have hg:=t.C6;have hw:bQ .i64 (k.length:Int)=k.length:=bT (by omega) (by omega);simp[q]at i1 i2 l5;simp[U.sM,B,M,p,g5,l5,hw,i1,i2]at d;subst d;refine⟨_,rfl,?_,by simp[B]⟩;rw[<-z,ar p,q];simp
  by_cases C:0<m.id
  .simp[U.sM,M,p,C]at d;subst d;exact⟨_,rfl,by simp[<-z,p,C,B]⟩
  simp[U.sM,M,p,C]at d;subst d;exact⟨_,rfl,by simp[<-z,p,C,e6,B]⟩
 have p5:=f.get 5 rfl;have p6:=f.get 6 rfl;have p7:=f.get 7 rfl;obtain⟨P,s3,hd,a2,c2,Q⟩:=f.append 1 rfl (new:=[[iV x.w.length]]) (Sz.cons rfl Sz.nil) (by simp) (bw:=17592186044416) (by have:=t.C6;simp;omega);have q6:=Q.get 6 rfl;have q7:=Q.get 7 rfl;obtain⟨T,s4,hf,a3,c3,h4⟩:=Q.append 2 rfl (new:=[[iV (-1)]]) (Sz.cons rfl Sz.nil) (by simp) (bw:=17592186044416) (by have:=t.SB;simp;omega);have r7:=h4.get 7 rfl;obtain⟨V,s5,y,a4,c4,h5⟩:=h4.append 3 rfl (new:=[[iV j]]) (Sz.cons rfl Sz.nil) (by simp) (bw:=17592186044416) (by have:=t.SC;simp;omega);obtain⟨s6,b2,h6⟩:=h5.field 5 (by simp[EX]) c2;obtain⟨s7,b3,h7⟩:=h6.field 6 (by simp[EX]) c3;obtain⟨s8,b4,D⟩:=h7.field 7 (by simp[EX]) c4;have t9:=D.get 9 rfl;have t5:=D.get 5 rfl;have lt:=D.len 1 rfl;obtain⟨X,b5,h9⟩:=D.field 9 (by simp[EX]) (x:=.int .i64 (max x.po (x.op.length+1))) rfl;simp at a2 a3 a4 lt l1;have Y:∃g,ev R U.Eu (bb [.ptr o 0,.agg m.c] 0) s=.code .ret g X:=by generalize d:ev R U.Eu (bb [.ptr o 0,.agg m.c] 0) s=r;simp-implicitDefEqProofs[U.Eu,l1,f4,E,a1,b1,u,Z]at d;generalize hk:ev R U.sM _ s2=r1 at d;obtain⟨e1,k1,k2,k3,k4⟩:=key _ _ hk (by simp) (by simp) (by simp);clear hk;subst k1;simp at k4;simp-implicitDefEqProofs[k2,k3,k4,p5,p6,p7,q6,q7,r7,a2,a3,a4,b2,b3,b4,t9,t5,lt,b5]at d;subst d;exact⟨_,rfl⟩
 obtain⟨g,Y⟩:=Y;refine⟨X,XW rfl ⟨.ret,_,X,Y,.inr rfl,by simp⟩,H,P,T,V,y,?_⟩;unfold cy;rw[ar Z,z];simpa[EX,Ye]using h9
def Yg(x:Wk)(u:jl x)(m:Mv)(Z:de m=false)(cU:x.op≠ [])(s:HS)(o:Ky)(h:DL s o x):
  ∃s',R (.call 91 [.ptr o 0,.agg m.c] s)=.val (.bM []) s'/\DL s' o (cy x m):=by
 have hb:R (.call 38 [.ptr o 0] s)=.val (.bool (bf x.w)) s:=v65 pT h.vw (by simp) rfl (w65 x u);obtain⟨v1,v2,v3,v4,av,h⟩:=h;have hl:=u.len;have hk:=u.C6;have C:=U5 m;have j:=Su m;simp only[Mv.c]at C j;obtain⟨r,n,d⟩:∃k n,x.op=k++[n]:=by
  rcases mu x.op with D|⟨k,n,D⟩
  .exact absurd D cU
  exact⟨k,n,by simpa using D⟩
 have hlen:x.op.length=r.length+1:=by rw[d];simp
 have D:n<x.pt.length:=by rw[u.SB];exact u.op n (by rw[d];simp)
 have hw:bQ .i64 (r.length:Int)=r.length:=bT (by omega) (by omega);have f4:=h.get 4 rfl;have l1:=h.len 0 rfl;obtain⟨E,s1,ho,a1,c1,h1⟩:=h.append 0 rfl (new:=[m.c]) (Sz.cons rfl Sz.nil) (by simp) (bw:=4398046511104) (by simp;omega);obtain⟨s2,b1,Q⟩:=h1.field 4 (by simp[EX]) c1;have g5:=Q.get 5 rfl;have l5:=Q.len 1 rfl;obtain⟨o1,T,i2⟩:=Q.at1 1 rfl r.length (by simp[hlen]);obtain⟨o2,hd,h3⟩:=Q.cut 1 rfl r.length (by simp[hlen]) (by simp[cU]);obtain⟨s4,b2,h4⟩:=h3.field 5 (x:=.sl o2 0 r.length 1) (by simp[EX]) rfl;have g6:=h4.get 6 rfl;obtain⟨o3,s5,i3,b3,h5⟩:=h4.iY 2 rfl n (by simpa using D) (x:=iV x.w.length) rfl;have p6:=h5.get 6 rfl;have p7:=h5.get 7 rfl;obtain⟨H,s6,hp,a3,c3,h6⟩:=h5.append 2 rfl (new:=[[iV n]]) (Sz.cons rfl Sz.nil) (by simp) (bw:=17592186044416) (by have:=u.SB;simp;omega);have q7:=h6.get 7 rfl;obtain⟨M,s7,q,a4,c4,h7⟩:=h6.append 3 rfl (new:=[[iV n]]) (Sz.cons rfl Sz.nil) (by simp) (bw:=17592186044416) (by have:=u.SC;simp;omega);obtain⟨s8,b4,h8⟩:=h7.field 6 (by simp[EX]) c3;obtain⟨s9,b5,h9⟩:=h8.field 7 (by simp[EX]) c4;obtain⟨hg,b6,hj⟩:=h9.field 8 (by simp[EX]) (x:=.bool true) rfl;simp only[Mv.c]at a1;simp only[iu]at b3 i3;simp[d]at T i2 l5 a3 a4 l1;have key:∀(e:En) (r:Out),(ev R U.AM e s9).bY (ev R (.cond (.t 157) U.AN .skip))=r->look e 0=some (.ptr o 0)->look e 3=some (.aw m.c)->look e 5=some (.bool (bf x.w))->
   ∃V s',r=.code .normal V s'/\DL s' o (cy x m):=by
  intro e r1 g e0 O X;have f:(cJ m&&decide (0<m.id)&&decide (m.arg=0)&& !bf x.w)=false->DL s9 o (cy x m):=by intro f;refine⟨E,.sl o2 0 r.length 1,H,M,q,?_⟩;unfold cy;rw[Z,f,d];simpa[EX,Ye,d]using h9
  have P:(cJ m&&decide (0<m.id)&&decide (m.arg=0)&& !bf x.w)=true->DL hg o (cy x m):=by intro f;refine⟨E,.sl o2 0 r.length 1,H,M,q,?_⟩;unfold cy;rw[Z,f,d];simpa[EX,Ye,d]using hj
  cases y:cJ m
  .simp[O,j,y]at g;subst g;exact⟨_,_,rfl,f (by simp[y])⟩
  by_cases z:0<m.id
  .by_cases B:m.arg=0
   .have p:=j;rw[B]at p;cases Y:bf x.w
    .rw[Y]at X;simp[e0,O,X,p,y,z,B,b6]at g;subst g;exact⟨_,_,rfl,P (by simp[y,z,B,Y])⟩
    rw[Y]at X;simp[O,X,p,y,z,B]at g;subst g;exact⟨_,_,rfl,f (by simp[Y])⟩
   simp[O,j,y,z,B]at g;subst g;exact⟨_,_,rfl,f (by simp[B])⟩
  simp[O,j,y,z]at g;subst g;exact⟨_,_,rfl,f (by simp[z])⟩
 have hE:∃V s',ev R U.Eu (bb [.ptr o 0,.agg m.c] 0) s=.code .normal V s'/\DL s' o (cy x m):=by generalize g:ev R U.Eu (bb [.ptr o 0,.agg m.c] 0) s=r1;rw[hd]at g5 T;simp[d]at g5 T;subst T;simp-implicitDefEqProofs[-U.AM,-U.AN,U.Eu,l1,f4,hb,a1,b1,C,Z,g5,hw,i2,b2,g6,i3,b3,p6,p7,q7,a3,a4,b4,b5]at g;exact key _ _ g (by simp) (by simp) (by simp)
 obtain⟨V,s',hE,hW⟩:=hE;exact⟨s',XW rfl ⟨.normal,_,s',hE,.inl rfl,by simp⟩,hW⟩
def nD{a:Ar}{m:Mv}(h:fv a m=true):∃b e,di a m.id m.arg=some (b,e):=by unfold fv cu lC at h;cases d:di a m.id m.arg with|none=>rw[d]at h;simp at h|some c=>exact⟨c.1,c.2,rfl⟩
def HK{a:Ar}{m:Mv}(h:fv a m=true)(h0:m.id=0):m.arg=0:=by
 obtain⟨b,e,c⟩:=nD h;unfold di at c
 split at c
 .rename_i h;exact h.2
 rw[h0]at c;simp at c
def pq{x:Wk}{m:Mv}(h:fV x m=true):fv x.a m=true:=by unfold fV at h;simp only[aL]at h;exact h.1
def j0{x:Wk}{m:Mv}(c:fV x m=true)(d:x.w≠ []):x.op≠ []:=by
 intro f;unfold fV at c;rw[au d]at c;have:ie x=none:=by unfold ie;rw[f];rfl
 rw[this]at c;simp at c
def fJ{x:Wk}{m:Mv}(c:fV x m=true)(d:x.w=[]):m.id=0/\de m=true:=by unfold fV at c;rw[ar d]at c;simp at c;exact c.2
def afG(x:Wk)(j:jl x)(m:Mv)(d:fV x m=true)(s:HS)(o:Ky)(h:DL s o x):
  ∃s',R (.call 91 [.ptr o 0,.agg m.c] s)=.val (.bM []) s'/\DL s' o (cy x m):=by
 cases g:de m with
 |true=>
  refine Yf x j m g (λp=>?_) s o h;by_cases f:x.w=[]
  .have:=HK (pq d) (fJ d f).1;omega
  exact j0 d f
 |false=>
  refine Yg x j m g ?_ s o h;by_cases f:x.w=[]
  .have:=(fJ d f).2;rw[g]at this;cases this
  exact j0 d f
def vd(x:Wk)(m:Mv):(cy x m).a=x.a:=by unfold cy;split<;>rfl
def rL(x:Wk)(m:Mv):(cy x m).w=x.w++[m]:=by unfold cy;split<;>rfl
def jl.take{x:Wk}(c:jl x){m:Mv}(g:x.w.length<400)(cU:de m=false->x.op≠ []):jl (cy x m):=by
 have h:=c.C6;have j:=c.SB;have p:=c.SC;cases f:de m with
 |true=>
  unfold cy;rw[ar f];refine⟨c.ok,c.Yd,by simp;omega,λn d=>?_,by simp;omega,by simp;omega,by simp;omega⟩;simp only[cP,dq]at d;simp only[cA,dx];rcases d with d|rfl
  .have:=c.op n d;omega
  omega
 |false=>unfold cy;rw[f];refine⟨c.ok,c.Yd,by simp;omega,λn d=>?_,by simp;omega,by simp;omega,by simp;omega⟩;have:=c.op n ((xN _).subset d);simp only[cz,bn,cA,dx];omega
def cK(x:Wk):bc->Wk×Nat
 |[]=>(x,0)
 |m::r=>if fV x m then((cK (cy x m) r).1,(cK (cy x m) r).2+1)else(x,0)
def iP(a:Ar):Wk:=⟨a,[],[],[],[],false,0⟩
def jl.zero{a:Ar}(ok:dW a)(c:aI a=0):jl (iP a):=⟨ok,c,by simp[iP],by simp[iP],by simp[iP],by simp[iP],by simp[iP]⟩
def w94(a:Ar)(ok:dW a)(h:aI a=0)(w:bc)(X:w.length<=400)(s:HS):R (.call 57 [.agg a.c,.psl (w.map Mv.c)] s)=.val (.bM [.aw (cK (iP a) w).1.c,iV (cK (iP a) w).2]) s:=by
 refine q94 ?_;simp[U.b94,s0];generalize M:bJ R (.loop U.CN) _ _=o;have C:=ba M w.length
  (λi e s'=>∃x,look e 1=some (.psl (w.map Mv.c))/\look e 6=some (.ptr .e 0)/\look e 7=some (iV i)/\DL s' .e x/\jl x/\x.w.length=i/\cK (iP a) w=((cK x (w.drop i)).1,(cK x (w.drop i)).2+i))
  (λo=>∃j s',(o=.code .ret j s'∨o=.code (.exit 0) j s')/\((o=.code .ret j s'/\look j 4=some (.ptr .e 0)/\look j 5=some (iV (cK (iP a) w).2))∨(o=.code (.exit 0) j s'/\look j 1=some (.psl (w.map Mv.c))/\look j 6=some (.ptr .e 0)/\(cK (iP a) w).2=w.length))/\DL s' .e (cK (iP a) w).1)
  0 (by omega) ⟨iP a,by simp,by simp,by simp,by
   exact⟨.ah,.ah,.ah,.ah,_,iB.start ⟨by simp[EX,iP],by simp,by simp[Ky.toNat]⟩ (by simp[Ye,iP])⟩,jl.zero ok h,rfl,by simp⟩
  (λi e s' r D ⟨x,t,u,B,y,p,z,d⟩ q=>by
   have f:=adL (args:=[.ptr .e 0,.agg w[i].c]) (l:=[.aw x.c,.agg w[i].c]) (s:=s') (v:=.bool (fV x w[i])) pT (.cons y.U8 (.data (by simp))) (by simp) rfl (λs=>afF x p w[i] s);have E:w.drop i=w[i]::w.drop (i+1):=nU D;rw[E]at d;simp only[Mv.c]at f;cases h:fV x w[i]with
   |false=>rw[h]at f;simp only[cK,h,cz,bn]at d;simp[U.CN,t,u,B,D,f]at q;subst q;refine .inr ⟨by simp,_,_,.inl rfl,.inl ⟨rfl,by simp[d]⟩,by rw[d];exact y⟩
   |true=>
    rw[h]at f;simp only[cK,h,bj]at d;obtain⟨Q,g,H⟩:=afG x p w[i] h s' .e y;simp only[Mv.c]at g;simp[U.CN,t,u,B,D,f,g,bo (n:=400) (show i<400 by omega) (by omega)]at q;subst q;refine .inl ⟨_,_,rfl,cy x w[i],by simp[t],by simp[u],by simp,H,p.take (by omega) (λC=>?_),by rw[rL];simp[z],?_⟩
    .by_cases O:x.w=[]
     .have:=(fJ h O).2;rw[C]at this;cases this
     exact j0 h O
    rw[d];simp;omega)
  (λe s' r ⟨x,t,u,B,y,p,z,d⟩ q=>by
   rw[Ay]at d;simp only[cK]at d;simp[U.CN,t,B]at q;subst q;exact⟨by simp,_,_,.inr rfl,.inr ⟨rfl,by simp[t,u,d]⟩,by rw[d];exact y⟩)
 clear M;obtain⟨j,s',_,E,y⟩:=C;have P:Vw s' 15 (.ptr .e 0) (.aw (cK (iP a) w).1.c):=y.U8;rcases E with⟨rfl,T,V⟩|⟨rfl,t,u,q⟩
 .simp[T,V];exact aH (.bM (.cons P (.cons (.data (by simp)) .nil)))
 simp[t,u];rw[<-q];exact aH (.bM (.cons P (.cons (.data (by simp)) .nil)))
def gl(a:Ar)(w:bc):Int×Int:=if aI a≠0 then(0,aI a)else if 400<w.length then(0,5)else if(cK (iP a) w).2<w.length then((cK (iP a) w).2,13)else(0,0)
def Bi(a:Ar)(w:bc):aj:=[if(gl a w).2=0 then .aw (cK (iP a) w).1.c else .dO,iV (gl a w).1,iV (gl a w).2]
def w63(a:Ar)(ok:dW a)(w:bc)(s:HS):R (.call 36 [.agg a.c,.psl (w.map Mv.c)] s)=.val (.bM (Bi a w)) s:=by
 refine q63 ?_;have g:=w24 a ok;simp only[Ar.c]at g;unfold Bi gl;by_cases h:aI a=0
 .by_cases j:(400:Int)<w.length
  .have d:400<w.length:=by omega
   simp[U.VX,g,h,j,d];exact aH (.bM (.data (by simp)))
  have d:¬400<w.length:=by omega
  have p:=w94 a ok h w (by omega);simp only[Ar.c,iV]at p;by_cases q:((cK (iP a) w).2:Int)<w.length
  .have f:(cK (iP a) w).2<w.length:=by omega
   simp[U.VX,g,h,j,d,p,q,f];exact aH (.bM (.data (by simp)))
  have f:¬(cK (iP a) w).2<w.length:=by omega
  simp[U.VX,g,h,j,d,p,q,f];exact aH (.bM (.data (by simp)))
 simp[U.VX,g,h];exact aH (.bM (.data (by simp)))
def w61(a:Ar)(ok:dW a)(w:bc)(s:HS):R (.call 16 [.agg a.c,.psl (w.map Mv.c)] s)=.val (.bM [iV (gl a w).1,iV (gl a w).2]) s:=by refine q61 ?_;have d:=w63 a ok w;simp only[Ar.c,Bi]at d;simp[U.b61,d];exact aH (.bM (.data (by simp)))
def rM(w:bc):Nat->Bool
 |0=>false
 |j+1=>match w[j]?with|some m=>cJ m&&decide (0<m.arg)|none=>false
abbrev gw(e:xI):aj:=[e.1]
section
variable{s:HS}{av:aZ}{of:aY}{aA:cE}{v1 v2:HV}{i:Nat}
end
def HL{a:Ar}{w:bc}(c:aI a=0)(h:(gl a w).2=0):w.length<=400:=by
 unfold gl at h;by_cases d:400<w.length
 .simp[c,d]at h
 omega
def jr(w:bc)(c:ay):bc:=c.map λi=>qK (w.getD i ⟨0,0,0,0⟩)
structure Sp where
 id:Int
 arg:Int
 b:Bs
 BY:Bool
 deriving DecidableEq
@[simp]def Sp.c(p:Sp):aj:=[.int .i64 p.id,.int .i64 p.arg,.bool p.b.cell,.int .i64 p.b.n,.bool p.BY]
def Bj(i:Nat):Nat->tR->List Sp
 |_,[]=>[]
 |j,b::r=>⟨(i:Int)+1,(j:Int)+1,b,true⟩::Bj i (j+1) r
def yW(jumps:Bool):Nat->xF->List Sp
 |_,[]=>[]
 |i,t::r=>⟨(i:Int)+1,0,t.res,jumps||decide (0<t.ps.length)⟩::(Bj i 0 t.ps++yW jumps (i+1) r)
def tU(a:Ar):List Sp:=⟨0,0,a.root,a.jumps⟩::yW a.jumps 0 a.ids
abbrev p0(p:Sp):HV:=.agg p.c
section
variable{l:Ky}{G:bU}{I:aj->HS->Prop}{Fn:HS->Prop}{N:Nat}(hG:∀k,G k->k.toNat<N)(iA:∀x,yV N (I x))(Ib:yV N Fn)
 (er:∀x rest s1,N<=s1.nx.toNat->I (x::rest) s1->∃b s2,R (.round l [x] s1)=.val (.bool b) s2/\cX G s1 s2/\(b=true->I rest s2)/\(b=false->Fn s2))
include hG iA er
theorem Yh(a:Ar)(i:Nat)(ps:tR)(hl:ps.length<4611686018427387904)(hi:i<4611686018427387904)(rest:aj)(e:En)(s:HS)(r:Out)(z:look e 1=some (.iR l))(B:look e 4=some (iV i))(f:look e 45=some (.psl (ps.map Bs.c)))(d:look e 46=some (iV ps.length))(g:look e 47=some (iV 0))
  (C:look e 2=some (.aw a.c))(v20 v21 v22:HV)(p:look e 20=some v20)(q:look e 21=some v21)(t:look e 22=some v22)
  (P:N<=s.nx.toNat)(y:I ((Bj i 0 ps).map p0++rest) s)(u:ev R (.loop U.oV) e s=r):
  ∃e' s',cX (λk=>G k∨Up N k) s s'/\((r=.code .ret e' s'/\Fn s')∨(r=.code (.exit 2) e' s'/\I rest s'/\look e' 1=some (.iR l)/\look e' 2=some (.aw a.c)/\look e' 20=some v20/\look e' 21=some v21/\look e' 22=some v22)):=by
 refine eU u ps.length
  (λj e s'=>look e 1=some (.iR l)/\look e 4=some (iV i)/\look e 45=some (.psl (ps.map Bs.c))/\look e 46=some (iV ps.length)/\look e 47=some (iV j)/\look e 2=some (.aw a.c)/\look e 20=some v20/\look e 21=some v21/\look e 22=some v22/\
   cX (λk=>G k∨Up N k) s s'/\N<=s'.nx.toNat/\I ((Bj i j (ps.drop j)).map p0++rest) s')
  (λr=>∃e' s',cX (λk=>G k∨Up N k) s s'/\((r=.code .ret e' s'/\Fn s')∨(r=.code (.exit 2) e' s'/\I rest s'/\look e' 1=some (.iR l)/\look e' 2=some (.aw a.c)/\look e' 20=some v20/\look e' 21=some v21/\look e' 22=some v22)))
  0 (by omega) ⟨z,B,f,d,g,C,p,q,t,cX.refl,P,y⟩
  (λj e s' r O ⟨z,B,f,d,g,C,p,q,t,Q,P,y⟩ u=>?_) (λe s' r ⟨z,B,f,d,g,C,p,q,t,Q,P,y⟩ u=>?_)
 .rw[nU O]at y;simp only[Bj,cx,bx]at y;have D:=cX.alloc (s:=s') (.cells (cM ps[j].c) 0 2 s'.nx) [s'.nx];have T:=iA _ _ _ y (D.mono (λ_ h=>h.elim));have V:=Ky.aV s'.nx;obtain⟨b,s2,X,Z,ht,Y⟩:=er _ _ _ (by simp only;omega) T;have E:cX (λk=>G k∨Up N k) s s2:=Q.trans ((D.mono (λ_ h=>h.elim)).trans (Z.mono λk hk=>.inl hk));have H:=bo (n:=4611686018427387904) hi (by omega);have M:=bo O (qL hl);simp only[p0,Sp.c,Bs.c]at X;cases b with|false=>simp[U.oV,z,B,f,d,g,O,H,M,ai,an,ao,X]at u;subst u;exact .inr ⟨by simp,_,_,E,.inl ⟨rfl,Y rfl⟩⟩|true=>simp[U.oV,z,B,f,d,g,O,H,M,ai,an,ao,X]at u;subst u;exact .inl ⟨_,_,rfl,by simp[z],by simp[B],by simp[f],by simp[d],by simp,by simp[C],by simp[p],by simp[q],by simp[t],E,by have:=Z.1;simp only at this;omega,ht rfl⟩
 rw[Ay]at y;simp[U.oV,d,g]at u;subst u;exact⟨by simp,_,_,Q,.inr ⟨rfl,y,by simp[z,C,p,q,t]⟩⟩
include Ib in
theorem Yi(a:Ar)(ok:dW a)(rest:aj)(e:En)(s:HS)(r:Out)(z:look e 1=some (.iR l))(B:look e 2=some (.aw a.c))(j:look e 20=some (.psl (a.ids.map Ty.c)))(d:look e 21=some (iV a.ids.length))(f:look e 22=some (iV 0))
  (X:N<=s.nx.toNat)(D:I ((yW a.jumps 0 a.ids).map p0++rest) s)(g:ev R (.loop U.oW) e s=r):
  ∃e' s',cX (λk=>G k∨Up N k) s s'/\((r=.code .ret e' s'/\Fn s')∨(r=.code (.exit 0) e' s'/\I rest s')):=by
 refine eU g a.ids.length
  (λi e s'=>look e 1=some (.iR l)/\look e 2=some (.aw a.c)/\look e 20=some (.psl (a.ids.map Ty.c))/\look e 21=some (iV a.ids.length)/\look e 22=some (iV i)/\
   cX (λk=>G k∨Up N k) s s'/\N<=s'.nx.toNat/\I ((yW a.jumps i (a.ids.drop i)).map p0++rest) s')
  (λr=>∃e' s',cX (λk=>G k∨Up N k) s s'/\((r=.code .ret e' s'/\Fn s')∨(r=.code (.exit 0) e' s'/\I rest s')))
  0 (by omega) ⟨z,B,j,d,f,cX.refl,X,D⟩
  (λi e s' r E ⟨z,B,j,d,f,Y,X,D⟩ g=>?_) (λe s' r ⟨z,B,j,d,f,Y,X,D⟩ g=>?_)
 .have Z:=ok.2 _ (cp E);have hl:=ok.1;rw[nU E]at D;simp only[yW,cx,bx,fB,Bk]at D;have P:=cX.alloc (s:=s') (.cells (cM a.ids[i].c) 0 3 s'.nx) [s'.nx];have h3:=iA _ _ _ D (P.mono (λ_ h=>h.elim));have h4:=Ky.aV s'.nx;obtain⟨b,s2,u,hf,ht,Q⟩:=er _ _ _ (by simp only;omega) h3;have H:cX (λk=>G k∨Up N k) s s2:=Y.trans ((P.mono (λ_ h=>h.elim)).trans (hf.mono λk hk=>.inl hk));have h5:N<=s2.nx.toNat:=by have:=hf.1;simp only at this;omega
  have M:ak s2.h s'.nx=some (.cells (cM a.ids[i].c) 0 3 s'.nx):=by rw[hf.2.2.1 s'.nx (by simp only;omega) (λh=>by have:=hG _ h;omega)];simp
  have y:=bo E (qL hl);simp only[p0,Sp.c,Ty.c]at u M;cases b with
  |false=>
   cases C:a.jumps<;>rw[C]at u
   .simp at u;simp[U.oW,z,B,j,d,f,E,y,ai,an,ao,C,u]at g;subst g;exact .inr ⟨by simp,_,_,H,.inl ⟨rfl,Q rfl⟩⟩
   simp at u;simp[U.oW,z,B,j,d,f,E,y,ai,an,ao,C,u]at g;subst g;exact .inr ⟨by simp,_,_,H,.inl ⟨rfl,Q rfl⟩⟩
  |true=>
   have fn:∀q O,ev R (.loop U.oV) q s2=O->look q 1=some (.iR l)->look q 2=some (.aw a.c)->look q 4=some (iV i)->look q 20=some (.psl (a.ids.map Ty.c))->look q 21=some (iV a.ids.length)->look q 22=some (iV i)->look q 45=some (.psl (a.ids[i].ps.map Bs.c))->look q 46=some (iV a.ids[i].ps.length)->look q 47=some (iV 0)->
     (gf 1 (gf 2 O)).bY (ev R (.rg [22] [⟨some 62,.bin false .add (.t 22) (.k (.int .i64 1)),none⟩,⟨some 22,.mv (.t 62),none⟩]))=r->(∃e' s',r=.code .normal e' s'/\look e' 1=some (.iR l)/\look e' 2=some (.aw a.c)/\look e' 20=some (.psl (a.ids.map Ty.c))/\look e' 21=some (iV a.ids.length)/\look e' 22=some (iV ((i+1:Nat):Int))/\
   cX (λk=>G k∨Up N k) s s'/\N<=s'.nx.toNat/\I ((yW a.jumps (i+1) (a.ids.drop (i+1))).map p0++rest) s')∨(gk r/\∃e' s',cX (λk=>G k∨Up N k) s s'/\((r=.code .ret e' s'/\Fn s')∨(r=.code (.exit 0) e' s'/\I rest s'))):=by
    intro q O p g1 g2 g4 h6 h7 h8 h9 ha hg g;obtain⟨e2,s3,T,hd⟩:=Yh hG iA er a i a.ids[i].ps Z (by omega) _ q s2 O g1 g4 h9 ha hg g2 _ _ _ h6 h7 h8 h5 (ht rfl) p;clear p;have V:=H.trans (T.mono λk hk=>hk);rcases hd with⟨rfl,ho⟩|⟨rfl,hp,q1,q2,hq,hs,hx⟩
    .simp at g;subst g;exact .inr ⟨by simp,_,_,V,.inl ⟨rfl,ho⟩⟩
    simp[hx,y]at g;subst g;exact .inl ⟨_,_,rfl,by simp[q1],by simp[q2],by simp[hq],by simp[hs],by simp,V,by have:=T.1;omega,hp⟩
   cases C:a.jumps<;>rw[C]at u
   .simp at u;simp[U.oW,z,B,j,d,f,E,y,ai,an,ao,C,u,M]at g;generalize p:ev R (.loop U.oV) _ s2=O at g;rw[C]at fn;exact fn _ _ p (by simp[z]) (by simp[B]) (by simp) (by simp[j]) (by simp[d]) (by simp[f]) (by simp) (by simp) (by simp) g
   simp at u;simp[U.oW,z,B,j,d,f,E,y,ai,an,ao,C,u,M]at g;generalize p:ev R (.loop U.oV) _ s2=O at g;rw[C]at fn;exact fn _ _ p (by simp[z]) (by simp[B]) (by simp) (by simp[j]) (by simp[d]) (by simp[f]) (by simp) (by simp) (by simp) g
 rw[Ay]at D;simp[U.oW,d,f]at g;subst g;exact⟨by simp,_,_,Y,.inr ⟨rfl,D⟩⟩
end
def afH(a:Ar)(ok:dW a):HI LU U.prog 130 [.agg a.c] [] ((tU a).map p0):=by
 intro l G I Fn s hG iA Ib er rest y;simp only[tU,cx,bx]at y;obtain⟨b,s1,g,q,z,t⟩:=er _ _ s (aW _) y;simp only[p0,Sp.c]at g;have g:R (Task.round l [HV.agg [.int .i64 0,.int .i64 0,.bool a.root.cell,.int .i64 a.root.n,.bool a.jumps]] s)=.val (.bool b) s1:=g;generalize d:ev R U.LY (bb ([.agg a.c]++[.iR l]++[]) 0) s=r;have f:=d;cases b with
 |false=>simp[U.LY,g]at d;subst d;exact⟨s1,Ss rfl ⟨.ret,_,s1,f,.inr rfl,by simp⟩,q.mono λk u=>.inl u,.inr (t rfl)⟩
 |true=>
  simp[U.LY,g]at d;generalize j:ev R (.loop U.oW) _ s1=B at d;obtain⟨E,s2,C,D⟩:=Yi hG iA Ib er a ok rest _ s1 B (by simp) (by simp) (by simp) (by simp) (by simp) q.1 (z rfl) j;clear j;have p:=(q.mono (G:=λk=>G k∨Up s.nx.toNat k) λk u=>.inl u).trans C;rcases D with⟨rfl,h⟩|⟨rfl,h⟩
  .simp at d;subst d;exact⟨s2,Ss rfl ⟨.ret,_,s2,f,.inr rfl,by simp⟩,p,.inr h⟩
  simp at d;subst d;exact⟨s2,Ss rfl ⟨.normal,_,s2,f,.inl rfl,by simp⟩,p,.inl h⟩
def et(id arg:Int)(p:Sp):Bool:=p.id=id/\p.arg=arg
def jS(a:Ar)(id arg:Int):Option Sp:=(tU a).find? (et id arg)
def DM:aj:=[.int .i64 0,.int .i64 0,.bool false,.int .i64 0,.bool false]
def JS(o:Option Sp):aj:=match o with|none=>[.agg DM,.bool false]|some p=>[.agg p.c,.bool true]
def SD{l:Ky}{e:En}{s:HS}{p:Sp}(d:look e 11=some (p0 p)):ev R U.ek e s=.code .normal (e.p8 8 (.ptr s.nx 0)) {h:=ax (some (.cells (cM p.c) 0 5 s.nx)) s.nx s.h,nx:=s.nx.succ,gr:=ax (some [s.nx]) s.nx s.gr,ty:=s.ty}:=by simp[d,ai,an]
def afI(id arg:Int)(E:En)(C:look E 4=some (.aw [iV id]))(M:look E 5=some (.aw [iV arg]))(h5:look E 6=some (.ptr .e 0))(h6:look E 7=some (.ptr (.z .e) 0))(l:Ky)(hl:l=.o .e)(p:Sp)(s:HS)
  (B:ak s.h l=tS 0 none E [11] U.ek U.dT)(Y:2<s.nx.toNat)(h3:gJ s .e DM)(h4:gJ s (.z .e) [.bool false]):
  ∃b s',R (.round l [p0 p] s)=.val (.bool b) s'/\cX (λk=>k.toNat<3) s s'/\b= !et id arg p/\
   (b=true->ak s'.h l=tS 0 none E [11] U.ek U.dT/\gJ s' .e DM/\gJ s' (.z .e) [.bool false])/\(b=false->ak s'.h l=tS 1 (some .ret) E [11] U.ek U.dT/\gJ s' .e p.c/\gJ s' (.z .e) [.bool true]):=by
 have d:l.toNat=2:=by subst hl;rfl
 have ha:=SD (l:=l) (e:=.cons 11 (p0 p) E) (s:=s) (p:=p) (by simp);have t:=cX.alloc (s:=s) (.cells (cM p.c) 0 5 s.nx) [s.nx];have O:l≠s.nx:=λe=>by rw[e]at d;omega
 have h7:ak (HS.mk (ax (some (.cells (cM p.c) 0 5 s.nx)) s.nx s.h) s.nx.succ (ax (some [s.nx]) s.nx s.gr) s.ty).h l=tS 0 none E [11] U.ek U.dT:=by rw[t.2.2.1 l (by omega) (λh=>h)];exact B
 have P:=(h3.frame t (λh=>h)).frame (cX.aK (G:=λk=>k=l) (o:=l) (b:=.loop 2 none E [11] U.ek U.dT) rfl) (λe=>by rw[<-e]at d;simp[Ky.toNat]at d);have Q:=(h4.frame t (λh=>h)).frame (cX.aK (G:=λk=>k=l) (o:=l) (b:=.loop 2 none E [11] U.ek U.dT) rfl) (λe=>by rw[<-e]at d;simp[Ky.toNat]at d);have f:cX (λk=>k.toNat<3) s ((HS.mk (ax (some (.cells (cM p.c) 0 5 s.nx)) s.nx s.h) s.nx.succ (ax (some [s.nx]) s.nx s.gr) s.ty).aK l (.loop 2 none E [11] U.ek U.dT)):=
  (t.mono λ_ h=>h.elim).trans (cX.aK (by show l.toNat<3;omega))
 have u:ak ((HS.mk (ax (some (.cells (cM p.c) 0 5 s.nx)) s.nx s.h) s.nx.succ (ax (some [s.nx]) s.nx s.gr) s.ty).aK l (.loop 2 none E [11] U.ek U.dT)).h s.nx=some (.cells (cM p.c) 0 5 s.nx):=by rw[dJ,au (jQ O)];simp
 have T:ak ((HS.mk (ax (some (.cells (cM p.c) 0 5 s.nx)) s.nx s.h) s.nx.succ (ax (some [s.nx]) s.nx s.gr) s.ty).aK l (.loop 2 none E [11] U.ek U.dT)).h l=tS 2 none E [11] U.ek U.dT:=by rw[dJ,ar rfl]
 generalize h8:(HS.mk (ax (some (.cells (cM p.c) 0 5 s.nx)) s.nx s.h) s.nx.succ (ax (some [s.nx]) s.nx s.gr) s.ty).aK l (.loop 2 none E [11] U.ek U.dT)=s2 at*;obtain⟨s3,y,h9,g,hb⟩:=P.put (new:=p.c) (v:=p0 p) rfl rfl;have hd:=Q.frame g (λe=>by cases e);obtain⟨s4,hf,hg,j,hq⟩:=hd.set 0 (by simp) (.bool true) rfl;have V:ak s4.h l=tS 2 none E [11] U.ek U.dT:=by
  have hj:l.toNat<s2.nx.toNat:=by have:=f.1;omega
  rw[j.2.2.1 l (by have:=cC Ky.toNat hb;omega) (λe=>by rw[e]at d;simp[Ky.toNat]at d),g.2.2.1 l hj (λe=>by rw[e]at d;simp[Ky.toNat]at d)];exact T
 obtain⟨Z,pa,pb,pe⟩:=p;simp only[Sp.c]at u y;have y:pR 5 (some (.ptr .e 0)) (some (.agg [.int .i64 Z,.int .i64 pa,.bool pb.cell,.int .i64 pb.n,.bool pe])) s2=.v .undef s3:=y;generalize D:ev R U.dT ((En.cons 11 (p0 ⟨Z,pa,pb,pe⟩) E).p8 8 (.ptr s.nx 0)) s2=r;have er:=Bd (o:=r) B ha h7 (by rw[h8];exact D);have fin:∀(H:HS) (x:Nat) (X:Option HC),cX (λk=>k.toNat<3) s H->cX (λk=>k.toNat<3) s (H.aK l (.loop x X E [11] U.ek U.dT)):=λH x X h=>h.trans (cX.aK (by show l.toNat<3;omega))
 have cl:∀(H:HS) (o:Ky) (c:aj) (x:Nat) (X:Option HC),o≠l->gJ H o c->gJ (H.aK l (.loop x X E [11] U.ek U.dT)) o c:=λH o c x X ho h=>h.frame (cX.aK (G:=λk=>k=l) rfl) ho
 have n1:Ky.e≠l:=by rw[hl];intro h;cases h
 have n2:Ky.z .e≠l:=by rw[hl];intro h;cases h
 by_cases hm:Z=id/\pa=arg
 .obtain⟨rfl,rfl⟩:=hm;simp[U.dT,C,M,h5,h6,u,ao,y,hf]at D;subst D;obtain⟨_,Y⟩:=er (λe2 s2 h=>by simp at h;obtain⟨_,rfl⟩:=h;exact V);have q:=Y _ _ rfl;refine⟨false,_,q,fin _ _ _ ((f.trans (g.mono λk hk=>by subst hk;simp[Ky.toNat])).trans (j.mono λk hk=>by subst hk;simp[Ky.toNat])),by simp[et],by simp,λ_=>⟨by rw[dJ,ar rfl],cl _ _ _ _ _ n1 (h9.frame j (λe=>by cases e)),cl _ _ _ _ _ n2 hg⟩⟩
 have hp:∃e2,r=.code .normal e2 s2:=by
  by_cases B:Z=id
  .have Y:¬pa=arg:=λh=>hm ⟨B,h⟩
   subst B;simp[U.dT,C,M,u,Y]at D;subst D;exact⟨_,rfl⟩
  simp[U.dT,C,u,B]at D;subst D;exact⟨_,rfl⟩
 obtain⟨e2,rfl⟩:=hp;obtain⟨B,_⟩:=er (λe2 s2 h=>by simp at h;obtain⟨_,rfl⟩:=h;exact T);have q:=B _ _ rfl;refine⟨true,_,q,fin _ _ _ f,by simp only[et];rw[ef hm];rfl,λ_=>⟨by rw[dJ,ar rfl],cl _ _ _ _ _ n1 P,cl _ _ _ _ _ n2 Q⟩,by simp⟩
def xO{α:Type}(q:α->Bool):∀(d l:List α),(∀x∈d,q x=false)->(d++l).find? q=l.find? q
 |[],_,_=>rfl
 |x::d,l,h=>by rw[bx,List.find?_cons_of_neg (by rw[h x dm];simp)];exact xO q d l λy c=>h y (cS _ c)
def afJ(a:Ar)(ok:dW a)(id arg:Int)(s:HS):R (.call 114 [.agg a.c,iV id,iV arg] s)=.val (.bM (JS (jS a id arg))) s:=by
 refine adZ ?_;simp[-U.ek,U.Wj,U.Jo,s0];generalize Q:lg R _ _ _ _ _ _=o;generalize V:(En.cons 0 _ _:En)=E at Q;generalize hS:HS.mk _ _ _ _=S at Q;have h9:look E 4=some (.aw [iV id]):=by subst V;simp
 have ha:look E 5=some (.aw [iV arg]):=by subst V;simp
 have D:look E 6=some (.ptr .e 0):=by subst V;simp
 have H:look E 7=some (.ptr (.z .e) 0):=by subst V;simp
 have X:look E 10=some (.fn 130 [.agg a.c] []):=by subst V;simp
 have f:S.nx=.o .e:=by subst hS;rfl
 have hg:gJ S .e DM:=by subst hS;exact⟨rfl,rfl,by simp[Ky.toNat]⟩
 have hj:gJ S (.z .e) [.bool false]:=by subst hS;exact⟨rfl,rfl,by simp[Ky.toNat]⟩
 have q:(K3 S E [11] U.ek U.dT).nx.toNat=3:=by show S.nx.succ.toNat=3;rw[f];rfl
 have Y:=cX.rf (s:=S) (e:=E) (ps:=[11]) (iS:=U.ek) (body:=U.dT);obtain⟨s2,M,hF,hd⟩:=afH a ok (.o .e) (λk=>k.toNat<3)
  (λhl s'=>2<s'.nx.toNat/\ak s'.h (.o .e)=tS 0 none E [11] U.ek U.dT/\gJ s' .e DM/\gJ s' (.z .e) [.bool false]/\∃d g,hl=g.map p0/\tU a=d++g/\∀p∈d,et id arg p=false)
  (λs'=>2<s'.nx.toNat/\ak s'.h (.o .e)=tS 1 (some .ret) E [11] U.ek U.dT/\∃p,jS a id arg=some p/\gJ s' .e p.c/\gJ s' (.z .e) [.bool true])
  (K3 S E [11] U.ek U.dT) (λk hk=>by rw[q];exact hk)
  (λx=>by
   rw[q]
   rintro s1 s2 ⟨O,r,u,B,j⟩ C
   exact⟨by have:=C.1;omega,by rw[C.2.2.1 (.o .e) O (by simp[Up,Ky.toNat])];exact r,u.frame C (by simp[Up,Ky.toNat]),B.frame C (by simp[Up,Ky.toNat]),j⟩)
  (by
   rw[q]
   rintro s1 s2 ⟨O,r,p,u,B,j⟩ C
   exact⟨by have:=C.1;omega,by rw[C.2.2.1 (.o .e) O (by simp[Up,Ky.toNat])];exact r,p,u,B.frame C (by simp[Up,Ky.toNat]),j.frame C (by simp[Up,Ky.toNat])⟩)
  (λx rest s1 hN ⟨O,r,u,B,d,g,j,h6,h7⟩=>by
   cases g with
   |nil=>cases j
   |cons p g=>
    simp only[cx,qp]at j;obtain⟨rfl,rfl⟩:=j;obtain⟨b,s2,r1,r2,r3,r4,r5⟩:=afI id arg E h9 ha D H (.o .e) rfl p s1 r O u B;refine⟨b,s2,r1,r2,λZ=>?_,λZ=>?_⟩
    .obtain⟨q1,q2,q3⟩:=r4 Z;refine⟨by have:=r2.1;omega,q1,q2,q3,d++[p],g,rfl,by rw[h6];simp,λy T=>?_⟩;rcases cP.1 T with T|T
     .exact h7 y T
     simp at T;subst T;rw[Z]at r3;simpa using r3
    obtain⟨q1,q2,q3⟩:=r5 Z;refine⟨by have:=r2.1;omega,q1,p,?_,q2,q3⟩;unfold jS;rw[h6,xO _ _ _ h7,List.find?_cons_of_pos];rw[Z]at r3;simpa using r3)
  [] ⟨by rw[q];omega,by show ak (ax _ S.nx S.h) (.o .e)=_;rw[f,sX],hg.frame Y (λh=>h),hj.frame Y (λh=>h),[],tU a,by simp,rfl,by simp⟩
 have h8:=Be (L:=LU) (prog:=U.prog) (x:=.t 10) (s:=S) (e:=E) (ps:=[11]) (iS:=U.ek) (body:=U.dT) (e':=E) (XM:=[11]) (JO:=U.ek) (C2:=U.dT) (by rw[Fy];exact X) (by rw[f];exact M);rcases hd with⟨O,r,u,B,d,g,j,h6,h7⟩|⟨O,r,p,u,B,j⟩
 .have hr:=h8.1 (by rw[f];exact r);rw[hr]at Q;subst Q;have hp:jS a id arg=none:=by
   have:g=[]:=by cases g with
    |nil=>rfl
    |cons x y=>cases j
   subst this;unfold jS;rw[h6,xO _ _ _ h7];rfl
  have k1:=u.kill (k:=S.nx) (by rw[f];intro h;cases h);have k2:=B.kill (k:=S.nx) (by rw[f];intro h;cases h);generalize s2.kill S.nx=K at*;obtain⟨K1,P,hq,hs,_⟩:=k1.put (new:=DM) (v:=.agg DM) rfl rfl;have ht:=k2.frame hs (λe=>by cases e);obtain⟨K2,hx,hz,k0,_⟩:=ht.set 0 (by simp) (.bool false) rfl;have k3:=hq.frame k0 (λe=>by cases e);have P:pR 5 (some (.ptr .e 0)) (some (.agg [.int .i64 0,.int .i64 0,.bool false,.int .i64 0,.bool false])) K=.v .undef K1:=P;have l1:fI (ak K2.h .e) 0 5=some DM:=k3.load;have l2:eG (ak K2.h (.z .e)) 0=some (.bool false):=hz.get 0 (by simp);rw[hp];simp[D,H,P,hx,l1,l2];exact aH (.bM (.data (by simp[DM])))
 have hr:=h8.2 (by rw[f];exact r);rw[hr]at Q;subst Q;rw[u];have k1:=B.kill (k:=S.nx) (by rw[f];intro h;cases h);have k2:=j.kill (k:=S.nx) (by rw[f];intro h;cases h);generalize s2.kill S.nx=K at*;have l1:fI (ak K.h .e) 0 5=some p.c:=k1.load;have l2:eG (ak K.h (.z .e)) 0=some (.bool true):=k2.get 0 (by simp);simp[D,H,l1,l2];exact aH (.bM (.data (by simp)))
abbrev nX(m:Mv):HV:=.agg m.c
def afK(p:Sp)(s:HS):R (.call 201 [p0 p] s)=.val (nX ⟨p.id,p.arg,1,0⟩) s:=by refine afg ?_;simp[U.WW,aa,s0,ai,an,ao]
def afL(p:Sp)(n:Int)(s:HS):R (.call 202 [p0 p,iV n] s)=.val (nX ⟨p.id,p.arg,2,n⟩) s:=by refine afh ?_;simp[U.WX,aa,s0,ai,an,ao]
def afM(p:Sp)(n:Int)(s:HS):R (.call 204 [p0 p,iV n] s)=.val (nX ⟨p.id,p.arg,3,n⟩) s:=by refine afj ?_;simp[U.WY,aa,s0,ai,an,ao]
def afN(p:Sp)(n:Int)(s:HS):R (.call 195 [p0 p,iV n] s)=.val (.fn 203 [] [.aw p.c,.aw [iV n]]) s:=by refine afb ?_;simp[U.WR,s0];exact aH (Vw.fn .nil (.cons (Vw.ptr rfl rfl (.data (by simp))) (.cons (Vw.ptr rfl rfl (.data (by simp))) .nil)))
def xP(n i:Nat)(h:i<n)(f:Nat->Mv):((List.range n).drop i).map f=f i::((List.range n).drop (i+1)).map f:=by rw[nU (by simpa using h)];simp
def afO(p:Sp)(hp:dV p.b=true):HI LU U.prog 194 [p0 p] [] ((dK p.b p.id p.arg).map nX):=by
 intro l G I Fn s hG iA Ib er rest B;simp only[dV,bX]at hp;simp only[dK,cx,bx]at B;obtain⟨b,s1,t,V,Q,C⟩:=er _ _ s (aW _) B;have d:=afK p;have g:=afL p;simp only[p0,nX,Mv.c,Sp.c,iV]at t d g;have t:R (Task.round l [HV.agg [.int .i64 p.id,.int .i64 p.arg,.int .u8 1,.int .i64 0]] s)=.val (.bool b) s1:=t;generalize f:ev R U.Jz (bb ([p0 p]++[.iR l]++[]) 0) s=r;have u:=f;cases b with
 |false=>simp[U.Jz,d,t]at f;subst f;exact⟨s1,MN rfl ⟨.ret,_,s1,u,.inr rfl,by simp⟩,V.mono λk D=>.inl D,.inr (C rfl)⟩
 |true=>
  cases y:p.b.cell with
  |false=>rw[y]at d;simp[U.Jz,d,t,y]at f;subst f;have j:=Q rfl;rw[y]at j;exact⟨s1,MN rfl ⟨.ret,_,s1,u,.inr rfl,by simp⟩,V.mono λk D=>.inl D,.inl j⟩
  |true=>
   rw[y]at d g;simp[U.Jz,d,t,y]at f;generalize H:ev R (.loop U.wW) _ s1=r1 at f;have j:=Q rfl;rw[y,ar rfl]at j;have hq:=eU H p.b.n.toNat
    (λi e s'=>look e 1=some (.iR l)/\look e 2=some (.aw p.c)/\look e 18=some (iV p.b.n)/\look e 19=some (iV i)/\cX (λk=>G k∨Up s.nx.toNat k) s s'/\I ((((List.range p.b.n.toNat).drop i).map (C4 p.id p.arg)).map nX++rest) s')
    (λo=>∃X s',cX (λk=>G k∨Up s.nx.toNat k) s s'/\((o=.code .ret X s'/\Fn s')∨(o=.code (.exit 0) X s'/\I rest s')))
    0 (by omega) ⟨by simp,by simp[y],by simp,by simp,V.mono λk D=>.inl D,j⟩
    (λi e s' r hi ⟨T,M,q,z,E,B⟩ f=>by
     rw[xP _ _ hi,cx,bx]at B;obtain⟨b,s2,t,Y,Q,C⟩:=er _ _ s' E.1 B;have O:(i:Int)<p.b.n:=by omega
     simp only[nX,Mv.c,C4]at t;have P:=E.trans (Y.mono (G:=λk=>G k∨Up s.nx.toNat k) λk D=>.inl D);simp only[Sp.c,y]at M;cases b with
     |false=>simp[U.wW,T,M,q,z,O,g,t]at f;subst f;exact .inr ⟨by simp,_,_,P,.inl ⟨rfl,C rfl⟩⟩
     |true=>
      simp[U.wW,T,M,q,z,O,g,t,bo (n:=64) (show i<64 by omega) (by omega)]at f;subst f;exact .inl ⟨_,_,rfl,by simp[T],by simp[M,y],by simp[q],by simp,P,Q rfl⟩)
    (λe s' r ⟨T,M,q,z,E,B⟩ f=>by
     have Z:¬(max p.b.n 0<p.b.n):=by omega
     rw[Cr (by simp)]at B;simp[U.wW,q,z,Z]at f;subst f;exact⟨by simp,_,_,E,.inr ⟨rfl,by simpa using B⟩⟩)
   clear H;obtain⟨X,s',E,⟨rfl,h⟩|⟨rfl,h⟩⟩:=hq
   .simp at f;subst f;exact⟨s',MN rfl ⟨.ret,_,s',u,.inr rfl,by simp⟩,E,.inr h⟩
   simp at f;subst f;exact⟨s',MN rfl ⟨.normal,_,s',u,.inl rfl,by simp⟩,E,.inl h⟩
def afP(p:Sp)(hp:dV p.b=true)(n:Int)(h0:0<=n)(hn:n<=64):HI LU U.prog 203 [] [.aw p.c,.aw [iV n]] (((if p.BY then [(⟨p.id,p.arg,3,-1⟩:Mv)]else [])++(List.range n.toNat).map (pf p.id p.arg)).map nX):=by
 intro l G I Fn s hG iA Ib er rest q;have d:=afM p;simp only[p0,nX,Mv.c,Sp.c,iV]at d;have main:∀(e:En) (s1:HS) (B r:Out),ev R (.loop U.qH) e s1=B->gf 0 B=r->look e 0=some (.iR l)->look e 1=some (.aw p.c)->look e 14=some (iV n)->look e 15=some (iV 0)->cX (λk=>G k∨Up s.nx.toNat k) s s1->I (((List.range n.toNat).map (pf p.id p.arg)).map nX++rest) s1->
   ∃x g s',r=.code x g s'/\(x=.normal∨x=.ret)/\cX (λk=>G k∨Up s.nx.toNat k) s s'/\(I rest s'∨Fn s'):=by
  intro e s1 B r j f e0 e1 V X Y Z;have hq:=eU j n.toNat
   (λi e s'=>look e 0=some (.iR l)/\look e 1=some (.aw p.c)/\look e 14=some (iV n)/\look e 15=some (iV i)/\cX (λk=>G k∨Up s.nx.toNat k) s s'/\I ((((List.range n.toNat).drop i).map (pf p.id p.arg)).map nX++rest) s')
   (λo=>∃g s',cX (λk=>G k∨Up s.nx.toNat k) s s'/\((o=.code .ret g s'/\Fn s')∨(o=.code (.exit 0) g s'/\I rest s')))
   0 (by omega) ⟨e0,e1,V,X,Y,Z⟩
   (λi e s' r hi ⟨Q,T,t,y,u,q⟩ f=>by
    rw[xP _ _ hi,cx,bx]at q;obtain⟨b,s2,C,h3,ht,D⟩:=er _ _ s' u.1 q;have H:(i:Int)<n:=by omega
    simp only[nX,Mv.c,pf]at C;have M:=u.trans (h3.mono (G:=λk=>G k∨Up s.nx.toNat k) λk hk=>.inl hk);cases b with
    |false=>simp[U.qH,Q,T,t,y,H,d,C]at f;subst f;exact .inr ⟨by simp,_,_,M,.inl ⟨rfl,D rfl⟩⟩
    |true=>
     simp[U.qH,Q,T,t,y,H,d,C,bo (n:=64) (show i<64 by omega) (by omega)]at f;subst f;exact .inl ⟨_,_,rfl,by simp[Q],by simp[T],by simp[t],by simp,M,ht rfl⟩)
   (λe s' r ⟨Q,T,t,y,u,q⟩ f=>by
    have h4:¬(max n 0<n):=by omega
    rw[Cr (by simp)]at q;simp[U.qH,t,y,h4]at f;subst f;exact⟨by simp,_,_,u,.inr ⟨rfl,by simpa using q⟩⟩)
  clear j;obtain⟨g,s',u,⟨rfl,h⟩|⟨rfl,h⟩⟩:=hq
  .simp at f;subst f;exact⟨_,_,_,rfl,.inr rfl,u,.inr h⟩
  simp at f;subst f;exact⟨_,_,_,rfl,.inl rfl,u,.inl h⟩
 generalize f:ev R U.JA (bb ([]++[.iR l]++[.aw p.c,.aw [iV n]]) 0) s=r;have h5:=f;have fin:∀x g s',r=.code x g s'->(x=.normal∨x=.ret)->R (.call 203 ([]++[.iR l]++[.aw p.c,.aw [iV n]]) s)=.val (.bM []) s':=by intro x g s' h O;exact afi (args:=[]++[.iR l]++[.aw p.c,.aw [iV n]]) rfl ⟨x,g,s',by rw[h5,h],O,rfl⟩
 cases z:p.BY with
 |false=>rw[z]at q d;simp[U.JA,z]at f;generalize j:ev R (.loop U.qH) _ s=B at f;obtain⟨x,g,s',O,E,u,hd⟩:=main _ s B r j f (by simp) (by simp[z]) (by simp) (by simp) cX.refl (by simpa using q);exact⟨s',fin x g s' O E,u,hd⟩
 |true=>
  rw[z,ar rfl]at q;simp only[cx,bx,bA]at q;obtain⟨b,s1,C,hf,ht,D⟩:=er _ _ s (aW _) q;have P:=hf.mono (G:=λk=>G k∨Up s.nx.toNat k) λk hk=>.inl hk
  simp only[nX,Mv.c]at C;rw[z]at d;cases b with|false=>simp[U.JA,z,d,C]at f;exact⟨s1,fin _ _ s1 f.symm (.inr rfl),P,.inr (D rfl)⟩|true=>simp[U.JA,z,d,C]at f;generalize j:ev R (.loop U.qH) _ s1=B at f;obtain⟨x,g,s',O,E,u,hd⟩:=main _ s1 B r j f (by simp) (by simp[z]) (by simp) (by simp) P (by simpa using ht rfl);exact⟨s',fin x g s' O E,u,hd⟩
@[simp]def U9{l:Ky}:cellsOf (.iR l)=some [.iR l]:=rfl
@[simp]def afQ{s:HS}{o:Ky}{bm len c:Nat}{k:IntKind}{sz:Nat}:EN (some (.sl o bm len c)) (some (.int k 1)) sz s=if 1<len then if sz=c then .v (.ptr o (bm+1*sz)) s else .bad else .bad:=JE (n:=1)
def cX.kill{s:HS}{o:Ky}{G:bU}(h:G o):cX G s (s.kill o):=
 ⟨aW _,rfl,λp c hG=>by rw[C3,au λe=>by subst e;exact hG h],λp c hG=>rfl⟩
def SE{e:En}{s:HS}{m:Mv}(d:look e 21=some (nX m)):ev R U.dU e s=.code .normal (e.p8 6 (.ptr s.nx 0)) {h:=ax (some (.cells (cM m.c) 0 4 s.nx)) s.nx s.h,nx:=s.nx.succ,gr:=ax (some [s.nx]) s.nx s.gr,ty:=s.ty}:=by simp[d,ai,an]
section
variable{l:Ky}{G:bU}{I:aj->HS->Prop}{Fn:HS->Prop}{N:Nat}(hG:∀k,G k->k.toNat<N)(iA:∀x,yV N (I x))(Ib:yV N Fn)
 (er:∀x rest s1,N<=s1.nx.toNat->I (x::rest) s1->∃b s2,R (.round l [x] s1)=.val (.bool b) s2/\cX G s1 s2/\(b=true->I rest s2)/\(b=false->Fn s2))
include hG iA Ib er
theorem afR{f:Nat}{pre post:aj}{ms:bc}(K4:HI LU U.prog f pre post (ms.map nX))(rest:aj)(E:En)(hg:look E 3=some (.aw [.iR l]))(x:X)(hx:bp x E=some (.fn f pre post))(C:∃d,rest=List.map nX d)(s:HS)(T:N<=s.nx.toNat)(hI:I (ms.map nX++rest) s):
  ∃s',cX (λk=>G k∨Up N k) s s'/\((lg R x [21] U.dU U.ec E s=.code .normal E s'/\I rest s')∨(lg R x [21] U.dU U.ec E s=.code .ret E s'/\Fn s')):=by
 have D:=Ky.aV s.nx;have Z:=cX.rf (s:=s) (e:=E) (ps:=[21]) (iS:=U.dU) (body:=U.ec);have q:(K3 s E [21] U.dU U.ec).nx.toNat=s.nx.toNat+1:=D;have t:∀{s1 s2:HS},cX (Up (s.nx.toNat+1)) s1 s2->cX (Up N) s1 s2:=λh=>h.mono λk g=>by show N<=k.toNat;have:s.nx.toNat+1<=k.toNat:=g;omega
 obtain⟨s2,H,hF,hd⟩:=K4 s.nx (λk=>G k∨k=s.nx)
  (λM s'=>s.nx.toNat<s'.nx.toNat/\ak s'.h s.nx=tS 0 none E [21] U.dU U.ec/\I M s'/\∃d,M=List.map nX d)
  (λs'=>s.nx.toNat<s'.nx.toNat/\ak s'.h s.nx=tS 1 (some .ret) E [21] U.dU U.ec/\Fn s')
  (K3 s E [21] U.dU U.ec) (λk g=>by
   rw[q];rcases g with g|rfl
   .have:=hG k g;omega
   omega)
  (λx=>by
   rw[q]
   rintro s1 s2 ⟨V,u,y,h4⟩ O
   exact⟨by have:=O.1;omega,by rw[O.2.2.1 s.nx V (by show¬(_<=_);omega)];exact u,iA _ _ _ y (t O),h4⟩)
  (by
   rw[q]
   rintro s1 s2 ⟨V,u,y⟩ O
   exact⟨by have:=O.1;omega,by rw[O.2.2.1 s.nx V (by show¬(_<=_);omega)];exact u,Ib _ _ y (t O)⟩)
  (λv M s1 hy ⟨V,u,y,d,h4⟩=>by
   cases d with
   |nil=>cases h4
   |cons m d=>
    simp only[cx,qp]at h4;obtain⟨rfl,rfl⟩:=h4;have ha:=SE (e:=.cons 21 (nX m) E) (s:=s1) (m:=m) (by simp);have P:=cX.alloc (s:=s1) (.cells (cM m.c) 0 4 s1.nx) [s1.nx];have h5:s.nx≠s1.nx:=λe=>by rw[e]at V;omega
    have hj:ak (HS.mk (ax (some (.cells (cM m.c) 0 4 s1.nx)) s1.nx s1.h) s1.nx.succ (ax (some [s1.nx]) s1.nx s1.gr) s1.ty).h s.nx=tS 0 none E [21] U.dU U.ec:=by rw[P.2.2.1 s.nx V (λh=>h)];exact u
    have h6:=cX.aK (s:=HS.mk (ax (some (.cells (cM m.c) 0 4 s1.nx)) s1.nx s1.h) s1.nx.succ (ax (some [s1.nx]) s1.nx s1.gr) s1.ty) (G:=λk=>k=s.nx) (o:=s.nx) (b:=.loop 2 none E [21] U.dU U.ec) rfl;have h7:ak ((HS.mk (ax (some (.cells (cM m.c) 0 4 s1.nx)) s1.nx s1.h) s1.nx.succ (ax (some [s1.nx]) s1.nx s1.gr) s1.ty).aK s.nx (.loop 2 none E [21] U.dU U.ec)).h s1.nx=some (.cells (cM m.c) 0 4 s1.nx):=by rw[dJ,au (jQ h5)];simp
    have hl:ak ((HS.mk (ax (some (.cells (cM m.c) 0 4 s1.nx)) s1.nx s1.h) s1.nx.succ (ax (some [s1.nx]) s1.nx s1.gr) s1.ty).aK s.nx (.loop 2 none E [21] U.dU U.ec)).h s.nx=tS 2 none E [21] U.dU U.ec:=by rw[dJ,ar rfl]
    have ho:=iA _ _ _ y ((P.mono (G:=Up N) λ_ h=>h.elim).trans (h6.mono λk g=>by subst g;exact T));have p:cX (λk=>G k∨k=s.nx) s1 ((HS.mk (ax (some (.cells (cM m.c) 0 4 s1.nx)) s1.nx s1.h) s1.nx.succ (ax (some [s1.nx]) s1.nx s1.gr) s1.ty).aK s.nx (.loop 2 none E [21] U.dU U.ec)):=(P.mono λ_ h=>h.elim).trans (h6.mono λk g=>.inr g);generalize hp:(HS.mk (ax (some (.cells (cM m.c) 0 4 s1.nx)) s1.nx s1.h) s1.nx.succ (ax (some [s1.nx]) s1.nx s1.gr) s1.ty).aK s.nx (.loop 2 none E [21] U.dU U.ec)=s2 at*;obtain⟨b,s3,hb,Q,ht,hq⟩:=er _ _ s2 (by have:=p.1;omega) ho;have z:ak s3.h s.nx=tS 2 none E [21] U.dU U.ec:=by rw[Q.2.2.1 s.nx (by have:=p.1;omega) (λh=>by have:=hG _ h;omega)];exact hl
    have h8:s.nx.toNat<s3.nx.toNat:=by have:=p.1;have:=Q.1;omega
    have hs:=p.trans (Q.mono (G:=λk=>G k∨k=s.nx) λk g=>.inl g);generalize Y:ev R U.ec ((En.cons 21 (nX m) E).p8 6 (.ptr s1.nx 0)) s2=r;have j:=Bd (o:=r) u ha hj (by rw[hp];exact Y);obtain⟨mi,ma,mk,mn⟩:=m;simp only[nX,Mv.c]at hb h7;have fin:∀(st:Nat) (pd:Option HC),cX (λk=>G k∨k=s.nx) s1 (s3.aK s.nx (.loop st pd E [21] U.dU U.ec)):=λst pd=>hs.trans (cX.aK (.inr rfl))
    have B:∀(st:Nat) (pd:Option HC),cX (Up N) s3 (s3.aK s.nx (.loop st pd E [21] U.dU U.ec)):=λst pd=>cX.aK T
    simp[U.ec,hg,h7,ao,hb]at Y;cases b with
    |true=>simp at Y;subst Y;obtain⟨q1,_⟩:=j (λe2 s2 h=>by simp at h;obtain⟨_,rfl⟩:=h;exact z);exact⟨true,_,q1 _ _ rfl,fin _ _,λ_=>⟨h8,by rw[dJ,ar rfl],iA _ _ _ (ht rfl) (B _ _),d,rfl⟩,by simp⟩
    |false=>
     simp at Y;subst Y;obtain⟨_,q1⟩:=j (λe2 s2 h=>by simp at h;obtain⟨_,rfl⟩:=h;exact z);exact⟨false,_,q1 _ _ rfl,fin _ _,by simp,λ_=>⟨h8,by rw[dJ,ar rfl],Ib _ _ (hq rfl) (B _ _)⟩⟩)
  rest ⟨by rw[q];omega,by show ak (ax _ s.nx s.h) s.nx=_;rw[sX],iA _ _ _ hI (Z.mono λ_ h=>h.elim),by obtain⟨d,h⟩:=C;exact⟨ms++d,by rw[h,fB]⟩⟩
 have h9:=Be (L:=LU) (prog:=U.prog) (x:=x) (s:=s) (e:=E) (ps:=[21]) (iS:=U.dU) (body:=U.ec) (e':=E) (XM:=[21]) (JO:=U.dU) (C2:=U.ec) hx H;have hK:cX (λk=>G k∨Up N k) s (s2.kill s.nx):=by
  refine((Z.mono λ_ h=>h.elim).trans (hF.mono λk g=>?_)).trans (cX.kill (.inr T));rcases g with(g|rfl)|g
  .exact .inl g
  .exact .inr T
  rw[q]at g;exact .inr (by show N<=k.toNat;have:s.nx.toNat+1<=k.toNat:=g;omega)
 rcases hd with⟨_,u,y,_⟩|⟨_,u,y⟩
 .exact⟨_,hK,.inl ⟨h9.1 u,iA _ _ _ y (cX.kill T)⟩⟩
 exact⟨_,hK,.inr ⟨h9.2 u,Ib _ _ y (cX.kill T)⟩⟩
end
def nE(p:Sp):bc:=dK p.b p.id p.arg++pg p.b p.BY p.id p.arg
def yV.up{N c:Nat}{p:HS->Prop}(h:yV N p)(d:N<=c):yV c p:=λs1 s2 f g=>h s1 s2 f (g.mono λk j=>fz d j)
def afS(p:Sp)(hp:dV p.b=true):HI LU U.prog 182 [p0 p] [] ((nE p).map nX):=by
 intro l G I Fn s hG iA Ib er rest H;have h6:=hp;simp only[dV,bX]at h6;have M:=afN p p.b.n;have Z:∀x,yV s.nx.toNat (λs'=>I (x++rest) s'):=λx=>iA _
 have y:∀x r s1,s.nx.toNat<=s1.nx.toNat->I ((x::r)++rest) s1->∃b s2,R (.round l [x] s1)=.val (.bool b) s2/\cX G s1 s2/\(b=true->I (r++rest) s2)/\(b=false->Fn s2):=λx r s1 h1 h2=>er x _ s1 h1 h2
 generalize d:ev R U.RU (bb ([p0 p]++[.iR l]++[]) 0) s=r;have h4:=d;simp only[p0,Sp.c,iV]at M;simp[U.RU,U.Jx,M]at d;generalize P:ev R (.loop U.wR) _ _=r1 at d;generalize hS:HS.mk _ _ _ _=S at P;have q:ak S.h s.nx=some (.cells (cM [.fn 194 [p0 p] [],.fn 203 [] [.aw p.c,.aw [iV p.b.n]]]) 0 2 s.nx):=by subst hS;simp;rfl
 have O:cX (λ_=>False) s S:=by subst hS;exact cX.alloc _ _
 have h7:s.nx.toNat<S.nx.toNat:=by have:=Ky.aV s.nx;subst hS;simp only;omega
 have hq:=eU P 2
  (λi e s'=>look e 3=some (.aw [.iR l])/\look e 14=some (.sl s.nx 0 2 1)/\look e 15=some (iV 2)/\look e 16=some (iV i)/\cX (λk=>G k∨Up s.nx.toNat k) s s'/\s.nx.toNat<s'.nx.toNat/\
   ak s'.h s.nx=some (.cells (cM [.fn 194 [p0 p] [],.fn 203 [] [.aw p.c,.aw [iV p.b.n]]]) 0 2 s.nx)/\
   I ((if i=0 then(nE p).map nX else if i=1 then(pg p.b p.BY p.id p.arg).map nX else [])++rest) s')
  (λo=>∃e' s',cX (λk=>G k∨Up s.nx.toNat k) s s'/\((o=.code .ret e' s'/\Fn s')∨(o=.code (.exit 0) e' s'/\I rest s')))
  0 (by omega) ⟨by simp,by simp,by simp,by simp,O.mono λ_ h=>h.elim,h7,q,by simpa using iA _ _ _ H (O.mono λ_ h=>h.elim)⟩
  (λi e s' r hi ⟨h3,z,u,g,X,hn,q,H⟩ d=>by
   have h8:∀k,G k->k.toNat<s'.nx.toNat:=λk hk=>by have:=hG k hk;omega
   have key:∀(f:Nat) (pre post:aj) (ms B:bc),HI LU U.prog f pre post (ms.map nX)->∀(E:En) (Y:Out),lg R (.t 20) [21] U.dU U.ec E s'=Y->look E 3=some (.aw [.iR l])->look E 20=some (.fn f pre post)->I ((ms.map nX++B.map nX)++rest) s'->
     ∃s2,cX (λk=>G k∨Up s.nx.toNat k) s s2/\s.nx.toNat<s2.nx.toNat/\ak s2.h s.nx=some (.cells (cM [.fn 194 [p0 p] [],.fn 203 [] [.aw p.c,.aw [iV p.b.n]]]) 0 2 s.nx)/\
      ((Y=.code .normal E s2/\I (B.map nX++rest) s2)∨(Y=.code .ret E s2/\Fn s2)):=by
    intro f pre post ms B K4 E Y h9 ha h5 H;subst h9;obtain⟨s2,j,hd⟩:=afR (N:=s'.nx.toNat) (I:=λx s'=>I (x++rest) s') h8 (λx=>(Z x).up (by omega)) (Ib.up (by omega)) (λx r s1 h1 h2=>y x r s1 (by omega) h2) K4 (B.map nX) E ha (.t 20) (by rw[Fy];exact h5) ⟨B,rfl⟩ s' (aW _) H;refine⟨s2,X.trans (j.mono λk hk=>hk.imp id λh=>by have h:s'.nx.toNat<=k.toNat:=h;show s.nx.toNat<=k.toNat;omega),by have:=j.1;omega,?_,hd⟩;rw[j.2.2.1 s.nx hn (by rintro(h|h);have:=hG _ h;omega;have h:s'.nx.toNat<=s.nx.toNat:=h;omega)];exact q
   match i,hi with
   |0,_=>
    simp only[bj]at H;have Q:I (((dK p.b p.id p.arg).map nX++(pg p.b p.BY p.id p.arg).map nX)++rest) s':=by rw[<-List.map_append];exact H
    simp at g;simp[-U.dU,U.wR,U.EH,U.EG,z,u,g,q,xD]at d;generalize C:lg R (.t 20) [21] U.dU U.ec _ s'=Y at d;obtain⟨s2,j,T,D,hd⟩:=key 194 [p0 p] [] _ _ (afO p hp) _ _ C (by simp[h3]) (by simp) Q;clear C;have V:bQ .i64 1=1:=bT (by omega) (by omega);rcases hd with⟨rfl,h⟩|⟨rfl,h⟩
    .simp[g,V]at d;subst d;exact .inl ⟨_,_,rfl,by simp[h3],by simp[z],by simp[u],by simp,j,T,D,by simpa using h⟩
    simp at d;subst d;exact .inr ⟨by simp,_,_,j,.inl ⟨rfl,h⟩⟩
   |1,_=>
    simp only[Nat.one_ne_zero,bn,bj]at H;have Q:I (((pg p.b p.BY p.id p.arg).map nX++([]:bc).map nX)++rest) s':=by simpa using H
    simp at g;simp[-U.dU,U.wR,U.EH,U.EG,z,u,g,q,xD]at d;generalize C:lg R (.t 20) [21] U.dU U.ec _ s'=Y at d;obtain⟨s2,j,T,D,hd⟩:=key 203 [] [.aw p.c,.aw [iV p.b.n]] _ _ (afP p hp p.b.n (by omega) (by omega)) _ _ C (by simp[h3]) (by simp) Q;clear C;have V:bQ .i64 2=2:=bT (by omega) (by omega);rcases hd with⟨rfl,h⟩|⟨rfl,h⟩
    .simp[g,V]at d;subst d;exact .inl ⟨_,_,rfl,by simp[h3],by simp[z],by simp[u],by simp,j,T,D,by simpa using h⟩
    simp at d;subst d;exact .inr ⟨by simp,_,_,j,.inl ⟨rfl,h⟩⟩
   |i+2,h=>exact absurd h (by omega))
  (λe s' r ⟨h3,z,u,g,X,hn,q,H⟩ d=>by
   simp at g;simp[U.wR,u,g]at d;subst d;exact⟨by simp,_,_,X,.inr ⟨rfl,by simpa using H⟩⟩)
 clear P;obtain⟨e',s',X,⟨rfl,h⟩|⟨rfl,h⟩⟩:=hq
 .simp at d;subst d;exact⟨s',X1 rfl ⟨.ret,_,s',h4,.inr rfl,rfl⟩,X,.inr h⟩
 simp at d;subst d;exact⟨s',X1 rfl ⟨.normal,_,s',h4,.inl rfl,rfl⟩,X,.inl h⟩
def zK(i:Nat):∀(ps:tR) (j:Nat),(∀b∈ps,dV b=true)->∀p∈Bj i j ps,dV p.b=true
 |[],_,_,p,c=>by cases c
 |b::r,j,h,p,c=>by
  rcases bk.1 c with rfl|c
  .exact h b dm
  exact zK i r (j+1) (λx d=>h x (cS _ d)) p c
def zL(jumps:Bool):∀(ids:xF) (i:Nat),(∀t∈ids,fS t=true)->∀p∈yW jumps i ids,dV p.b=true
 |[],_,_,p,c=>by cases c
 |t::r,i,h,p,c=>by
  have d:=h t dm;simp only[fS,aL,fq]at d;rcases bk.1 c with rfl|c
  .exact d.1.1
  rcases cP.1 c with c|c
  .exact zK i t.ps 0 d.1.2 p c
  exact zL jumps r (i+1) (λx f=>h x (cS _ f)) p c
def EY{a:Ar}(h:aI a=0):∀p∈tU a,dV p.b=true:=by
 obtain⟨d,f⟩:=rK h;intro p c;rcases bk.1 c with rfl|c
 .exact d
 exact zL _ _ _ f p c
def EZ{a:Ar}{id arg:Int}{p:Sp}(h:jS a id arg=some p):p∈tU a:=Bl h
def MT(a:Ar)(m:Mv):aj:=match jS a m.id m.arg with|none=>[.agg DM,.bool false]|some p=>[.agg p.c,.bool (decide (m∈nE p))]
def SF{e:En}{s:HS}{m:Mv}(d:look e 23=some (nX m)):ev R U.eo e s=.code .normal (e.p8 8 (.ptr s.nx 0)) {h:=ax (some (.cells (cM m.c) 0 4 s.nx)) s.nx s.h,nx:=s.nx.succ,gr:=ax (some [s.nx]) s.nx s.gr,ty:=s.ty}:=by simp[d,ai,an]
def afT(m:Mv)(q:Sp)(E:En)(u:look E 3=some (.aw m.c))(h5:look E 4=some (.ptr .e 0))(h7:look E 5=some (.ptr (.z .e) 0))(h8:look E 6=some (.ptr (.o .e) 0))(l:Ky)(Y:l=.z (.z .e))(x:Mv)(s:HS)
  (Z:ak s.h l=tS 0 none E [23] U.eo U.ep)(h2:3<s.nx.toNat)(h3:gJ s .e DM)(h4:gJ s (.z .e) [.bool false])(h6:gJ s (.o .e) q.c):
  ∃b s',R (.round l [nX x] s)=.val (.bool b) s'/\cX (λk=>k.toNat<4) s s'/\b= !decide (x=m)/\
   (b=true->ak s'.h l=tS 0 none E [23] U.eo U.ep/\gJ s' .e DM/\gJ s' (.z .e) [.bool false]/\gJ s' (.o .e) q.c)/\(b=false->ak s'.h l=tS 1 (some .ret) E [23] U.eo U.ep/\gJ s' .e q.c/\gJ s' (.z .e) [.bool true]):=by
 have h9:l.toNat=3:=by subst Y;rfl
 have n0:Ky.e≠l:=by rw[Y];intro h;cases h
 have n1:Ky.z .e≠l:=by rw[Y];intro h;cases h
 have n2:Ky.o .e≠l:=by rw[Y];intro h;cases h
 have ha:=SF (e:=.cons 23 (nX x) E) (s:=s) (m:=x) (by simp);have d:=cX.alloc (s:=s) (.cells (cM x.c) 0 4 s.nx) [s.nx];have D:l≠s.nx:=λe=>by rw[e]at h9;omega
 have hb:ak (HS.mk (ax (some (.cells (cM x.c) 0 4 s.nx)) s.nx s.h) s.nx.succ (ax (some [s.nx]) s.nx s.gr) s.ty).h l=tS 0 none E [23] U.eo U.ep:=by rw[d.2.2.1 l (by omega) (λh=>h)];exact Z
 have y:=cX.aK (s:=HS.mk (ax (some (.cells (cM x.c) 0 4 s.nx)) s.nx s.h) s.nx.succ (ax (some [s.nx]) s.nx s.gr) s.ty) (G:=λk=>k=l) (o:=l) (b:=.loop 2 none E [23] U.eo U.ep) rfl;have H:=(h3.frame d (λh=>h)).frame y n0;have M:=(h4.frame d (λh=>h)).frame y n1;have O:=(h6.frame d (λh=>h)).frame y n2;have f:cX (λk=>k.toNat<4) s ((HS.mk (ax (some (.cells (cM x.c) 0 4 s.nx)) s.nx s.h) s.nx.succ (ax (some [s.nx]) s.nx s.gr) s.ty).aK l (.loop 2 none E [23] U.eo U.ep)):=
  (d.mono λ_ h=>h.elim).trans (cX.aK (by show l.toNat<4;omega))
 have B:ak ((HS.mk (ax (some (.cells (cM x.c) 0 4 s.nx)) s.nx s.h) s.nx.succ (ax (some [s.nx]) s.nx s.gr) s.ty).aK l (.loop 2 none E [23] U.eo U.ep)).h s.nx=some (.cells (cM x.c) 0 4 s.nx):=by rw[dJ,au (jQ D)];simp
 have P:ak ((HS.mk (ax (some (.cells (cM x.c) 0 4 s.nx)) s.nx s.h) s.nx.succ (ax (some [s.nx]) s.nx s.gr) s.ty).aK l (.loop 2 none E [23] U.eo U.ep)).h l=tS 2 none E [23] U.eo U.ep:=by rw[dJ,ar rfl]
 generalize hd:(HS.mk (ax (some (.cells (cM x.c) 0 4 s.nx)) s.nx s.h) s.nx.succ (ax (some [s.nx]) s.nx s.gr) s.ty).aK l (.loop 2 none E [23] U.eo U.ep)=s2 at*;have lq:fI (ak s2.h (.o .e)) 0 5=some q.c:=O.load;obtain⟨s3,p,hf,g,hg⟩:=H.put (new:=q.c) (v:=p0 q) rfl rfl;have hj:=M.frame g (λe=>by cases e);obtain⟨s4,ho,hp,j,ht⟩:=hj.set 0 (by simp) (.bool true) rfl;have Q:ak s4.h l=tS 2 none E [23] U.eo U.ep:=by
  have hq:l.toNat<s2.nx.toNat:=by have:=f.1;omega
  rw[j.2.2.1 l (by have:=cC Ky.toNat hg;omega) (λe=>n1 e.symm),g.2.2.1 l hq (λe=>n0 e.symm)];exact P
 have t:=nB x m;simp only[Sp.c,Mv.c]at B p lq t u;have p:pR 5 (some (.ptr .e 0)) (some (.agg [.int .i64 q.id,.int .i64 q.arg,.bool q.b.cell,.int .i64 q.b.n,.bool q.BY])) s2=.v .undef s3:=p;generalize T:ev R U.ep ((En.cons 23 (nX x) E).p8 8 (.ptr s.nx 0)) s2=r;have er:=Bd (o:=r) Z ha hb (by rw[hd];exact T);have fin:∀(C:HS) (x:Nat) (V:Option HC),cX (λk=>k.toNat<4) s C->cX (λk=>k.toNat<4) s (C.aK l (.loop x V E [23] U.eo U.ep)):=λC x V h=>h.trans (cX.aK (by show l.toNat<4;omega))
 have X:∀(C:HS) (o:Ky) (c:aj) (x:Nat) (V:Option HC),o≠l->gJ C o c->gJ (C.aK l (.loop x V E [23] U.eo U.ep)) o c:=λC o c x V hs h=>h.frame (cX.aK (G:=λk=>k=l) rfl) hs
 by_cases hm:x=m
 .rw[ey hm]at t;simp[U.ep,u,h5,h7,h8,B,ao,lq,t,p,ho]at T;subst T;obtain⟨_,h2⟩:=er (λe2 s2 h=>by simp at h;obtain⟨_,rfl⟩:=h;exact Q);refine⟨false,_,h2 _ _ rfl,fin _ _ _ ((f.trans (g.mono λk t=>by subst t;simp[Ky.toNat])).trans (j.mono λk t=>by subst t;simp[Ky.toNat])),by simp[hm],by simp,λ_=>⟨by rw[dJ,ar rfl],X _ _ _ _ _ n0 (hf.frame j (λe=>by cases e)),X _ _ _ _ _ n1 hp⟩⟩
 rw[ef hm]at t;simp[U.ep,u,B,ao,t]at T;subst T;obtain⟨Z,_⟩:=er (λe2 s2 h=>by simp at h;obtain⟨_,rfl⟩:=h;exact P);exact⟨true,_,Z _ _ rfl,fin _ _ _ f,by simp[hm],λ_=>⟨by rw[dJ,ar rfl],X _ _ _ _ _ n0 H,X _ _ _ _ _ n1 M,X _ _ _ _ _ n2 O⟩,by simp⟩
def afU(a:Ar)(ok:dW a)(hc:aI a=0)(m:Mv)(s:HS):R (.call 150 [.agg a.c,.agg m.c] s)=.val (.bM (MT a m)) s:=by
 refine aes ?_;have f:=afJ a ok m.id m.arg;simp only[Ar.c,iV]at f;unfold MT;cases hq:jS a m.id m.arg with
 |none=>rw[hq]at f;simp only[JS,DM]at f;simp[-U.eo,U.Rk,f,s0,ai,an,ao];exact aH (.bM (.data (by simp)))
 |some q=>
 have hg:=EY hc q (EZ hq);rw[hq]at f;simp only[JS,Sp.c]at f;simp[-U.eo,U.Rk,U.Jt,f,s0,ai,an,ao];generalize X:lg R _ _ _ _ _ _=o;generalize hE:(En.cons 0 _ _:En)=E at X;generalize hS:HS.mk _ _ _ _=S at X;have hj:look E 3=some (.aw m.c):=by subst hE;simp
 have H:look E 4=some (.ptr .e 0):=by subst hE;simp
 have M:look E 5=some (.ptr (.z .e) 0):=by subst hE;simp
 have h8:look E 6=some (.ptr (.o .e) 0):=by subst hE;simp
 have h9:look E 22=some (.fn 182 [p0 q] []):=by subst hE;simp
 have g:S.nx=.z (.z .e):=by subst hS;rfl
 have hl:gJ S .e DM:=by subst hS;exact⟨rfl,rfl,by simp[Ky.toNat]⟩
 have hp:gJ S (.z .e) [.bool false]:=by subst hS;exact⟨rfl,rfl,by simp[Ky.toNat]⟩
 have hs:gJ S (.o .e) q.c:=by subst hS;exact⟨rfl,rfl,by simp[Ky.toNat]⟩
 have r:(K3 S E [23] U.eo U.ep).nx.toNat=4:=by show S.nx.succ.toNat=4;rw[g];rfl
 have O:=cX.rf (s:=S) (e:=E) (ps:=[23]) (iS:=U.eo) (body:=U.ep);obtain⟨s2,P,hF,hd⟩:=afS q hg (.z (.z .e)) (λk=>k.toNat<4)
  (λht s'=>3<s'.nx.toNat/\ak s'.h (.z (.z .e))=tS 0 none E [23] U.eo U.ep/\gJ s' .e DM/\gJ s' (.z .e) [.bool false]/\gJ s' (.o .e) q.c/\∃d u,ht=u.map nX/\nE q=d++u/\m ∉ d)
  (λs'=>3<s'.nx.toNat/\ak s'.h (.z (.z .e))=tS 1 (some .ret) E [23] U.eo U.ep/\m∈nE q/\gJ s' .e q.c/\gJ s' (.z .e) [.bool true])
  (K3 S E [23] U.eo U.ep) (λk hk=>by rw[r];exact hk)
  (λx=>by
   rw[r]
   rintro s1 s2 ⟨Q,B,C,D,j,Y⟩ p
   exact⟨by have:=p.1;omega,by rw[p.2.2.1 (.z (.z .e)) Q (by simp[Up,Ky.toNat])];exact B,C.frame p (by simp[Up,Ky.toNat]),D.frame p (by simp[Up,Ky.toNat]),j.frame p (by simp[Up,Ky.toNat]),Y⟩)
  (by
   rw[r]
   rintro s1 s2 ⟨Q,B,C,D,j⟩ p
   exact⟨by have:=p.1;omega,by rw[p.2.2.1 (.z (.z .e)) Q (by simp[Up,Ky.toNat])];exact B,C,D.frame p (by simp[Up,Ky.toNat]),j.frame p (by simp[Up,Ky.toNat])⟩)
  (λx rest s1 hN ⟨Q,B,C,D,T,d,u,j,Y,h7⟩=>by
   cases u with
   |nil=>cases j
   |cons y u=>
    simp only[cx,qp]at j;obtain⟨rfl,rfl⟩:=j;obtain⟨b,s2,r1,r2,r3,r4,r5⟩:=afT m q E hj H M h8 (.z (.z .e)) rfl y s1 B Q C D T;refine⟨b,s2,r1,r2,λhb=>?_,λhb=>?_⟩
    .obtain⟨q1,q2,q3,q4⟩:=r4 hb;refine⟨by have:=r2.1;omega,q1,q2,q3,q4,d++[y],u,rfl,by rw[Y];simp,λZ=>?_⟩;rcases cP.1 Z with Z|Z
     .exact h7 Z
     simp at Z;subst Z;rw[hb]at r3;simp at r3
    obtain⟨q1,q2,q3⟩:=r5 hb;refine⟨by have:=r2.1;omega,q1,?_,q2,q3⟩;rw[hb]at r3;have:y=m:=by simpa using r3
    rw[Y,<-this];simp)
  [] ⟨by rw[r];omega,by show ak (ax _ S.nx S.h) (.z (.z .e))=_;rw[g,sX],hl.frame O (λh=>h),hp.frame O (λh=>h),hs.frame O (λh=>h),[],nE q,by simp,rfl,by simp⟩
 have ha:=Be (L:=LU) (prog:=U.prog) (x:=.t 22) (s:=S) (e:=E) (ps:=[23]) (iS:=U.eo) (body:=U.ep) (e':=E) (XM:=[23]) (JO:=U.eo) (C2:=U.ep) (by rw[Fy];exact h9) (by rw[g];exact P);rcases hd with⟨Q,B,C,D,T,d,u,j,Y,h7⟩|⟨Q,B,C,D,j⟩
 .have hr:=ha.1 (by rw[g];exact B);rw[hr]at X;subst X;have hx:m ∉ nE q:=by
   have:u=[]:=by cases u with
    |nil=>rfl
    |cons x y=>cases j
   subst this;rw[Y];simpa using h7
  have k1:=C.kill (k:=S.nx) (by rw[g];intro h;cases h);have k2:=D.kill (k:=S.nx) (by rw[g];intro h;cases h);have k3:=T.kill (k:=S.nx) (by rw[g];intro h;cases h);generalize s2.kill S.nx=K at*;have lq:fI (ak K.h (.o .e)) 0 5=some q.c:=k3.load;obtain⟨K1,V,hz,k0,_⟩:=k1.put (new:=q.c) (v:=p0 q) rfl rfl;have k4:=k2.frame k0 (λe=>by cases e);obtain⟨K2,k5,k6,k7,_⟩:=k4.set 0 (by simp) (.bool false) rfl;have k8:=hz.frame k7 (λe=>by cases e);have V:pR 5 (some (.ptr .e 0)) (some (.agg [.int .i64 q.id,.int .i64 q.arg,.bool q.b.cell,.int .i64 q.b.n,.bool q.BY])) K=.v .undef K1:=V;have l1:fI (ak K2.h .e) 0 5=some q.c:=k8.load;have l2:eG (ak K2.h (.z .e)) 0=some (.bool false):=k6.get 0 (by simp);simp only[Sp.c]at lq l1;simp[H,M,h8,lq,V,k5,l1,l2,hx];exact aH (.bM (.data (by simp)))
 have hr:=ha.2 (by rw[g];exact B);rw[hr]at X;subst X;have k1:=D.kill (k:=S.nx) (by rw[g];intro h;cases h);have k2:=j.kill (k:=S.nx) (by rw[g];intro h;cases h);generalize s2.kill S.nx=K at*;have l1:fI (ak K.h .e) 0 5=some q.c:=k1.load;have l2:eG (ak K.h (.z .e)) 0=some (.bool true):=k2.get 0 (by simp);simp only[Sp.c]at l1;simp[H,M,l1,l2,C];exact aH (.bM (.data (by simp)))
def HM(a:Ar)(m:Mv):Bool:=match jS a m.id m.arg with|none=>false|some p=>m∈nE p
def MU(a:Ar)(ok:dW a)(m:Mv)(s:HS):R (.call 131 [.agg a.c,.agg m.c] s)=.val (.bM [.bool (decide (aI a=0)&&HM a m),iV (aI a)]) s:=by
 refine aec ?_;have d:=afs a ok;simp only[Ar.c,iV]at d;by_cases g:aI a=0
 .have f:=afU a ok g m;unfold HM;cases h:jS a m.id m.arg with|none=>simp only[MT,h,DM,Ar.c,Mv.c]at f;simp[U.LZ,d,g,f,s0,ai,an,ao];exact aH (.bM (.data (by simp)))|some q=>simp only[MT,h,Ar.c,Mv.c,Sp.c]at f;simp[U.LZ,d,g,f,s0,ai,an,ao];exact aH (.bM (.data (by simp)))
 simp[U.LZ,d,g,s0,ai,an];exact aH (.bM (.data (by simp)))
def fD(m:Mv):Bool:=decide (m.kind=3)
def ve(m:Mv):Bool:=decide (0<m.id)&&decide (m.arg=0)
def BZ(m:Mv):Bool:=decide (0<m.id)&&decide (0<m.arg)
def JT(m:Mv)(i a:Int):Bool:=decide (m.id=i)&&decide (m.arg=a)
def Yj(m:Mv)(i a:Int)(s:HS):R (.call 154 [.agg m.c,iV i,iV a] s)=.val (.bool (JT m i a)) s:=by refine aew ?_;by_cases h:m.id=i<;>simp[U.WA,h,aa,JT]
def afV(m:Mv)(s:HS):R (.call 152 [.agg m.c] s)=.val (.bool (JT m 0 0)) s:=by refine aeu ?_;have h:=Yj m 0 0;simp only[Mv.c,iV]at h;simp[U.Wy,h,aa]
def MV(m:Mv)(s:HS):R (.call 153 [.agg m.c] s)=.val (.bool (fD m)) s:=by refine aev ?_;simp[U.Wz,aa,fD]
def JU(m:Mv)(s:HS):R (.call 157 [.agg m.c] s)=.val (.bool (ve m)) s:=by refine aez ?_;by_cases h:0<m.id<;>simp[U.WB,h,aa,ve]
def MW(m:Mv)(s:HS):R (.call 158 [.agg m.c] s)=.val (.bool (BZ m)) s:=by refine aeA ?_;by_cases h:0<m.id<;>simp[U.WC,h,aa,BZ]
def SG(m:Mv)(s:HS):R (.call 159 [.agg m.c] s)=.val (.bool (cJ m)) s:=by
 refine aeB ?_;have h:=MV m;simp only[Mv.c,fD]at h;by_cases d:m.kind=3
 .rw[d]at h;simp[U.Rw,h,d,aa,cJ]
 simp[U.Rw,h,d,aa,cJ]
structure Tk where
 x:Wk
 fo:cb
 force:Bool
@[simp]def Tk.c(t:Tk):aj:=[.psl (t.x.a.ids.map Ty.c),.bool t.x.a.root.cell,.int .i64 t.x.a.root.n,.bool t.x.a.jumps,.psl (t.x.w.map Mv.c),.psl (t.x.pt.map iC),.psl (t.x.js.map iC),.psl (t.fo.map bC),.psl (t.x.op.map nC),.bool t.force,.bool t.x.lost,.int .i64 t.x.po]
def ta(t:Tk):Prop:=jl t.x/\t.fo.length=t.x.w.length
def yX(x:Wk):aj:=match x.op.getLast? with|none=>[iV (-1),.bool false]|some n=>[iV n,.bool true]
def JV(x:Wk)(c:jl x)(s:HS):R (.call 151 [.agg [.psl (x.op.map nC)]] s)=.val (.bM (yX x)) s:=by have h:=afu (x.op.map (λn:Nat=>(n:Int))) (by have:=c.C6;have:=c.len;simp;omega) s;rw[sv]at h;rw[show(iC∘λn:Nat=>(n:Int))=nC from rfl]at h;rw[h];unfold MQ yX;rw[List.getLast?_map];cases x.op.getLast?<;>rfl
def tV(x:Wk):Bool:=decide (0<x.w.length)&&decide (x.op.length=0)
def afW(t:Tk)(s:HS):R (.call 183 [.aw t.c] s)=.val (.bool (tV t.x)) s:=by
 refine ae2 ?_;by_cases h:0<t.x.w.length
 .have g:(0:Int)<t.x.w.length:=by omega
  by_cases f:t.x.op.length=0
  .have d:(t.x.op.length:Int)=0:=by omega
   simp[U.Mw,aa,tV,h,f]
  have d:¬(t.x.op.length:Int)=0:=by omega
  simp[U.Mw,aa,tV,h,f]
 have g:¬(0:Int)<t.x.w.length:=by omega
 simp[U.Mw,aa,tV,h]
def JW(x:Wk):Int:=if tV x then 3 else match ie x with|none=>1|some q=>if ve q then 1 else 2
def E0{x:Wk}(f:jl x):(ie x=none/\x.op=[]/\yX x=[iV (-1),.bool false])∨∃(r:ay) (n:Nat) (q:Mv),x.op=r++[n]/\(∃h:n<x.w.length,x.w[n]=q)/\ie x=some q/\yX x=[iV n,.bool true]/\n<x.w.length:=by
 rcases mu x.op with c|⟨r,n,c⟩
 .exact .inl ⟨by unfold ie;rw[c];rfl,c,by unfold yX;rw[c];rfl⟩
 have d:=f.op n (by rw[c];simp);have g:=aR d;refine .inr ⟨r,n,_,by simpa using c,⟨d,rfl⟩,?_,?_,d⟩
 .unfold ie;rw[c];simpa using g
 unfold yX;rw[c];simp
def afX(t:Tk)(u:ta t)(s:HS):R (.call 156 [.aw t.c] s)=.val (.int .u8 (JW t.x)) s:=by
 refine aey ?_;have f:=afW t;have d:=JV t.x u.1;simp only[Tk.c]at f;unfold JW;cases B:tV t.x
 .rw[B]at f;rcases E0 u.1 with⟨j,p,h⟩|⟨r,n,q,j,⟨y,p⟩,h,z,C⟩
  .rw[h]at d;simp only[iV]at d;simp[U.Ju,f,d,aa,j]
  rw[z]at d;have g:=JU q;simp only[iV,Mv.c]at d g;cases D:ve q<;>rw[D]at g<;>simp[U.Ju,f,d,g,aa,p,h,C,D]
 rw[B]at f;rcases E0 u.1 with⟨j,p,h⟩|⟨r,n,q,j,⟨y,p⟩,h,z,C⟩
 .rw[h]at d;simp only[iV]at d;simp[U.Ju,f,d,aa]
 rw[z]at d;simp only[iV]at d;simp[U.Ju,f,d,aa]
def MX(t:Tk)(q m:Mv):Bool:=if t.force||t.x.lost then cJ m else if cJ m then BZ q||(ve q&&t.x.a.jumps)else decide (q.kind=1)||decide (m.n=0)
def afY(t:Tk)(q m:Mv)(s:HS):R (.call 155 [.aw t.c,.agg q.c,.agg m.c] s)=.val (.bool (MX t q m)) s:=by
 refine aex ?_;have d:=SG m;have f:=MW q;have g:=JU q;obtain⟨x,y,force⟩:=t;obtain⟨a,w,op,z,B,lost,h⟩:=x;simp only[Mv.c]at d f g;unfold MX;cases force
 .cases lost
  .cases j:cJ m
   .rw[j]at d;by_cases p:q.kind=1<;>simp[U.Hy,d,aa,p]
   rw[j]at d;cases r:BZ q<;>rw[r]at f
   .cases u:ve q<;>rw[u]at g<;>simp[U.Hy,d,f,g,aa]
   simp[U.Hy,d,f,aa]
  simp[U.Hy,d,aa]
 simp[U.Hy,d,aa]
def yY(t:Tk)(m:Mv):Bool:=match ie t.x with|none=>decide (t.x.w=[])&&(JT m 0 0&& !fD m)|some q=>if fD m then JT m q.id q.arg&&MX t q m else if t.force||t.x.lost then false else if ve q then BZ m&&decide (m.id=q.id)else ve m
def afZ(t:Tk)(M:ta t)(m:Mv)(s:HS):R (.call 132 [.aw t.c,.agg m.c] s)=.val (.bool (yY t m)) s:=by
 refine aed ?_;have g:=afX t M;have d:=JV t.x M.1;have p:=afV m;have f:=MV m;have h:=Yj m;have j:=afY t;have y:=JU m;have u:=MW m;obtain⟨x,Z,force⟩:=t;simp only[Tk.c,Mv.c]at p f h j g y u;unfold yY;rcases E0 M.1 with⟨C,z,D⟩|⟨r,n,q,C,⟨T,z⟩,D,V,B⟩
 .rw[D]at d;simp only[iV]at d;simp only at C;rw[C];by_cases Q:x.w=[]
  .cases E:JT m 0 0<;>rw[E]at p<;>simp[U.A1,d,p,f,aa,Q]
  simp[U.A1,d,aa,Q]
 rw[V]at d;have j:=j q m;simp only[iV]at d j h;simp only at D z B;rw[D];cases X:fD m<;>rw[X]at f
 .have O:tV x=false:=by unfold tV;simp only at C;rw[C];simp
  unfold JW at g;simp only[O,D]at g;cases force
  .cases H:x.lost
   .cases P:ve q<;>rw[H,P]at g<;>simp only[cz,bn,bj]at g
    .simp[U.A1,P,d,f,g,y,aa,z,B,H,s0,ai,an]
    cases Y:BZ m<;>rw[Y]at u<;>simp[U.A1,P,d,f,g,u,aa,z,B,H,s0,ai,an]
   simp[U.A1,d,f,aa,z,B,H,s0,ai,an]
  simp[U.A1,d,f,aa,z,B,s0,ai,an]
 have h:=h q.id q.arg;cases E:JT m q.id q.arg<;>rw[E]at h
 .simp[U.A1,E,d,f,h,aa,z,B,s0,ai,an]
 simp[U.A1,E,d,f,h,j,aa,z,B,s0,ai,an,ao]
def SH{L:jg}{prog:Nat->Option HF}(f:Nat)(F:HF)(v:HV)(s:HS)(d:prog f=some F)(g:oY L f=true)(j:F.pu=true)(h:dQ L prog (.call f [.agg [.psl []]] s0)=.val v s0):
  dQ L prog (.call f [.agg [.ah]] s)=.val v s:=by
 have h:=kS h trivial;have h:se L f [.agg [.psl []]] s0 (bu prog (dQ L prog) f [.agg [.psl []]] s0)=.val v s0:=h;rw[eT g]at h;unfold bu at h;rw[d]at h;have h:(bif F.pu then bP F (dQ L prog) [.agg [.psl []]] s0 else dw F (dQ L prog) [.agg [.psl []]] s0)=.val v s0:=h;rw[j,cond_true]at h;unfold bP at h;have h:bN (iX F (dQ L prog) [.agg [.psl []]]) (λv=>Out.val v s0) (Out.bad 40)=Out.val v s0:=h;have c:iX F (dQ L prog) [.agg [.psl []]]=some v:=by
  cases p:iX F (dQ L prog) [.agg [.psl []]]with
  |none=>rw[p]at h;cases h
  |some q=>rw[p]at h;cases h;rfl
 refine dr ?_ trivial;show se L f [.agg [.ah]] s (bu prog (dQ L prog) f [.agg [.ah]] s)=_;rw[eT g];unfold bu;rw[d];show(bif F.pu then bP F (dQ L prog) [.agg [.ah]] s else dw F (dQ L prog) [.agg [.ah]] s)=_;rw[j,cond_true];unfold bP;show bN (iX F (dQ L prog) [.agg [.psl []]]) (λv=>Out.val v s) (Out.bad 40)=_;rw[c];rfl
def gJ.Yk{s:HS}{o:Ky}{c:aj}(h:gJ s o c)(k:Nat){x:HV}(d:c[k]?=some x):fI (ak s.h o) k 1=some [x]:=by have f:=(aS.1 d).1;rw[h.1,ao (fm _) (by omega) (by omega),List.take_one,List.head?_drop,d];rfl
def vg(t:Tk)(v1 v2 v3 v4 v5:HV):aj:=[.psl (t.x.a.ids.map Ty.c),.bool t.x.a.root.cell,.int .i64 t.x.a.root.n,.bool t.x.a.jumps,v1,v2,v3,v4,v5,.bool t.force,.bool t.x.lost,.int .i64 t.x.po]
def Va(t:Tk)(v1 v2 v3 v4 v5:HV):cE:=[(v1,4,t.x.w.map Mv.c),(v2,1,t.x.pt.map iC),(v3,1,t.x.js.map iC),(v4,1,t.fo.map bC),(v5,1,t.x.op.map nC)]
def Gb(s:HS)(o:Ky)(t:Tk):Prop:=∃v1 v2 c d f av,iB s o (vg t v1 v2 c d f) av (Va t v1 v2 c d f)
def Gb.U8{n:Nat}{s:HS}{o:Ky}{t:Tk}(h:Gb s o t):Vw s (n+4) (.ptr o 0) (.aw t.c):=by obtain⟨v1,v2,d,f,g,av,h⟩:=h;refine Vw.ptr h.bD.1 rfl ?_;exact .cons (.data (by simp)) (.cons (.data (by simp)) (.cons (.data (by simp)) (.cons (.data (by simp)) (.cons ((h.own 0 _ _ _ rfl).vw (by simp)) (.cons ((h.own 1 _ _ _ rfl).vw (by simp)) (.cons ((h.own 2 _ _ _ rfl).vw (by simp)) (.cons ((h.own 3 _ _ _ rfl).vw (by simp)) (.cons ((h.own 4 _ _ _ rfl).vw (by simp)) (.cons (.data (by simp)) (.cons (.data (by simp)) (.cons (.data (by simp)) .nil)))))))))))
def Bm(x:Wk):Int:=match x.op.getLast? with|none=> -1|some n=>n
def E3(x:Wk):∃b,yX x=[iV (Bm x),.bool b]:=by unfold yX Bm;cases x.op.getLast? with|none=>exact⟨_,rfl⟩|some n=>exact⟨_,rfl⟩
def JX{t:Tk}(g:ta t){s:HS}{F:bU}{v:HV}(h:ck s v 1 F (t.x.op.map nC)):R (.call 151 [.agg [v]] s)=.val (.bM (yX t.x)) s:=by
 have c:=JV t.x g.1;have d:nA s 16 [.agg [v]] [.agg [.psl (t.x.op.map nC)]]:=.cons (Vw.agg (.cons (h.vw (by simp)) .nil)) .nil;have f:eP (.bM (yX t.x))=true:=by obtain⟨b,j⟩:=E3 t.x;rw[j];rfl
 rcases h.2.2 with⟨rfl,p⟩|⟨o,_,_,_,_,rfl,_⟩
 .rw[p]at c;exact SH 151 U.f171 _ s rfl rfl rfl (c s0)
 exact v171 (by rfl) d (by simp) f c
def nG(t:Tk)(m:Mv):Tk:=
 if fD m then{x:={t.x with w:=t.x.w++[m],op:=t.x.op.dropLast,pt:=t.x.pt.set (t.x.op.getLastD 0) t.x.w.length++[((t.x.op.getLastD 0:Nat):Int)],js:=t.x.js++[((t.x.op.getLastD 0:Nat):Int)],lost:=t.x.lost||(cJ m&&ve m&& !t.force),po:=max t.x.po t.x.op.dropLast.length},fo:=t.fo++[t.force],force:=cJ m&&BZ m}
 else{x:={t.x with w:=t.x.w++[m],op:=t.x.op++[t.x.w.length],pt:=t.x.pt++[-1],js:=t.x.js++[if ve m then 0 else if BZ m then Bm t.x else-1],po:=max t.x.po (t.x.op.length+1)},fo:=t.fo++[t.force],force:=false}
def C7{m:Mv}(h:fD m=false):cJ m=false:=by unfold fD at h;unfold cJ;simp at h;simp[h]
def Yl(t:Tk)(D:ta t)(m:Mv)(P:fD m=false)(s:HS)(o:Ky)(h:Gb s o t):
  ∃s',R (.call 133 [.ptr o 0,.agg m.c] s)=.val (.bM []) s'/\Gb s' o (nG t m):=by
 obtain⟨v1,v2,v3,v4,v5,av,h⟩:=h;have hl:=D.1.len;have ka:=D.1.C6;have kb:=D.1.SB;have kc:=D.1.SC;have kd:=D.2;have p:=JX D (h.own 4 _ _ _ rfl);obtain⟨bt,Q⟩:=E3 t.x;rw[Q]at p;have d:=MV m;have f:=JU m;have g:=MW m;have q:=SG m;rw[P]at d;rw[C7 P]at q;simp only[Mv.c,iV]at d f g q p;have g8:=h.bD.Yk 8 rfl;have g4:=h.get 4 rfl;have l4:=h.len 0 rfl;have g7:=h.get 7 rfl;have g9:=h.get 9 rfl;generalize M:(if ve m then 0 else if BZ m then Bm t.x else-1)=j;have key:∀(e:En) (r:Out),ev R U.qE e s=r->look e 0=some (.ptr o 0)->look e 3=some (.aw m.c)->look e 4=some (iV (Bm t.x))->look e 8=some (iV (-1))->look e 7=some (iV (-1))->∃y,r=.code .normal y s/\look y 8=some (iV j)/\look y 7=some (iV (-1))/\look y 0=some (.ptr o 0)/\look y 3=some (.aw m.c)/\look y 6=look e 6:=by
  intro e r u T E e4 e8 V;cases O:ve m<;>rw[O]at f
  .cases X:BZ m<;>rw[X]at g
   .simp[U.qE,E,d,f,g]at u;subst u;exact⟨_,rfl,by simp[<-M,O,X,e8,V,T,E]⟩
   simp[U.qE,E,e4,d,f,g]at u;subst u;exact⟨_,rfl,by simp[<-M,O,X,V,T,E]⟩
  simp[U.qE,E,d,f]at u;subst u;exact⟨_,rfl,by simp[<-M,O,V,T,E]⟩
 obtain⟨Y,s1,hz,a1,c1,h1⟩:=h.append 3 rfl (new:=[[.bool t.force]]) (Sz.cons rfl Sz.nil) (by simp) (bw:=140737488355328) (by simp;omega);obtain⟨s2,b1,h2⟩:=h1.field 7 (by simp[vg]) c1;obtain⟨s3,b2,h3⟩:=h2.field 9 (by simp[vg]) (x:=.bool false) rfl;have i4:=h3.get 4 rfl;obtain⟨Z,s4,k0,a4,c4,h4⟩:=h3.append 0 rfl (new:=[m.c]) (Sz.cons rfl Sz.nil) (by simp) (bw:=4398046511104) (by simp;omega);obtain⟨s5,b5,h5⟩:=h4.field 4 (by simp[vg]) c4;have i5:=h5.get 5 rfl;have i6:=h5.get 6 rfl;obtain⟨ha,s6,k7,a6,c6,h6⟩:=h5.append 1 rfl (new:=[[iV (-1)]]) (Sz.cons rfl Sz.nil) (by simp) (bw:=17592186044416) (by simp;omega);have j6:=h6.get 6 rfl;obtain⟨hb,s7,k9,a7,c7,h7⟩:=h6.append 2 rfl (new:=[[iV j]]) (Sz.cons rfl Sz.nil) (by simp) (bw:=17592186044416) (by simp;omega);obtain⟨s8,b8,h8⟩:=h7.field 5 (by simp[vg]) c6;obtain⟨s9,b9,h9⟩:=h8.field 6 (by simp[vg]) c7;have k8:=h9.get 8 rfl;obtain⟨hd,ke,B,H,hf,hg⟩:=h9.append 4 rfl (new:=[[iV t.x.w.length]]) (Sz.cons rfl Sz.nil) (by simp) (bw:=17592186044416) (by simp;omega);obtain⟨kg,ho,z⟩:=hg.field 8 (by simp[vg]) hf;have hs:=z.get 11 rfl;have m8:=z.get 8 rfl;have lm:=z.len 4 rfl;obtain⟨C,hx,hy⟩:=z.field 11 (by simp[vg]) (x:=.int .i64 (max t.x.po (t.x.op.length+1))) rfl;simp only[Mv.c]at a4;simp at a1 a4 a6 a7 H l4 lm;have hE:∃y,ev R U.EC (bb [.ptr o 0,.agg m.c] 0) s=.code .normal y C:=by generalize u:ev R U.EC (bb [.ptr o 0,.agg m.c] 0) s=r;simp-implicitDefEqProofs[U.EC,g8,p,g4,l4]at u;generalize hk:ev R U.qE _ s=r1 at u;obtain⟨e1,k1,k2,k3,k4,k5,k6⟩:=key _ _ hk (by simp) (by simp) (by simp) (by simp) (by simp);clear hk;subst k1;simp at k6;simp-implicitDefEqProofs[k2,k3,k4,k5,k6,g7,g9,a1,b1,q,d,b2,i4,a4,b5,i5,i6,a6,j6,a7,b8,b9,k8,H,ho,hs,m8,lm,hx]at u;subst u;exact⟨_,rfl⟩
 obtain⟨y,hE⟩:=hE;refine⟨C,XX rfl ⟨.normal,_,C,hE,.inl rfl,by simp⟩,Z,ha,hb,Y,hd,B,?_⟩;unfold nG;rw[P,M];simpa[vg,Va]using hy
def Ym(t:Tk)(P:ta t)(m:Mv)(hq:fD m=true)(cU:t.x.op≠ [])(s:HS)(o:Ky)(h:Gb s o t):
  ∃s',R (.call 133 [.ptr o 0,.agg m.c] s)=.val (.bM []) s'/\Gb s' o (nG t m):=by
 obtain⟨v1,v2,Z,v4,v5,av,h⟩:=h;have hl:=P.1.len;have kj:=P.1.C6;have hz:=P.1.SB;have kk:=P.1.SC;have kl:=P.2;have y:=JX P (h.own 4 _ _ _ rfl);obtain⟨bt,k0⟩:=E3 t.x;rw[k0]at y;obtain⟨r,n,j⟩:∃k n,t.x.op=k++[n]:=by
  rcases mu t.x.op with hn|⟨k,n,hn⟩
  .exact absurd hn cU
  exact⟨k,n,by simpa using hn⟩
 have ha:Bm t.x=n:=by unfold Bm;rw[j];simp
 rw[ha]at y;have hlen:t.x.op.length=r.length+1:=by rw[j];simp
 have hn:n<t.x.pt.length:=by rw[hz];exact P.1.op n (by rw[j];simp)
 have hw:bQ .i64 (r.length:Int)=r.length:=bT (by omega) (by omega);have f:=MV m;have g:=JU m;have z:=MW m;have d:=SG m;rw[hq]at f;simp only[Mv.c,iV]at f g z d y;have g8:=h.bD.Yk 8 rfl;have g4:=h.get 4 rfl;have l4:=h.len 0 rfl;have g5:=h.get 5 rfl;obtain⟨o1,s1,i1,b1,h1⟩:=h.iY 1 rfl n (by simpa using hn) (x:=iV t.x.w.length) rfl;have Q:=h1.get 8 rfl;have l8:=h1.len 4 rfl;obtain⟨M,k3,h2⟩:=h1.cut 4 rfl r.length (by simp[hlen]) (by simp[cU]);obtain⟨s3,b3,h3⟩:=h2.field 8 (x:=.sl M 0 r.length 1) (by simp[vg]) rfl;have g7:=h3.get 7 rfl;have g9:=h3.get 9 rfl;obtain⟨p,s4,B,a4,c4,h4⟩:=h3.append 3 rfl (new:=[[.bool t.force]]) (Sz.cons rfl Sz.nil) (by simp) (bw:=140737488355328) (by simp;omega);obtain⟨s5,b5,h5⟩:=h4.field 7 (by simp[vg]) c4;have D:=h5.get 9 rfl;obtain⟨k4,k5,k6⟩:=h5.field 10 (by simp[vg]) (x:=.bool true) rfl;rw[k3]at Q;simp only[iu]at b1 i1;simp[j]at Q l4 l8 a4;generalize C:(t.x.lost||(cJ m&&ve m&& !t.force))=lo;have key:∀(e:En) (r1:Out),(ev R U.uV e s5).bY (ev R (.cond (.t 83) U.A2 .skip))=r1->look e 0=some (.ptr o 0)->look e 3=some (.aw m.c)->
   ∃E s',r1=.code .normal E s'/\(∀k,k<10->look E k=look e k)/\iB s' o (vg {t with x:={t.x with lost:=lo}} v1 v2 Z p (.sl M 0 r.length 1)) B [(v1,4,t.x.w.map Mv.c),(v2,1,(t.x.pt.set n t.x.w.length).map iC),(Z,1,t.x.js.map iC),(p,1,(t.fo++[t.force]).map bC),(.sl M 0 r.length 1,1,r.map nC)]:=by
  intro e r1 q e0 O;have u:(cJ m&&ve m&& !t.force)=false->iB s5 o (vg {t with x:={t.x with lost:=lo}} v1 v2 Z p (.sl M 0 r.length 1)) B [(v1,4,t.x.w.map Mv.c),(v2,1,(t.x.pt.set n t.x.w.length).map iC),(Z,1,t.x.js.map iC),(p,1,(t.fo++[t.force]).map bC),(.sl M 0 r.length 1,1,r.map nC)]:=by intro u;rw[u,Bool.or_false]at C;subst C;simpa[vg,Va,j]using h5
  have hb:(cJ m&&ve m&& !t.force)=true->iB k4 o (vg {t with x:={t.x with lost:=lo}} v1 v2 Z p (.sl M 0 r.length 1)) B [(v1,4,t.x.w.map Mv.c),(v2,1,(t.x.pt.set n t.x.w.length).map iC),(Z,1,t.x.js.map iC),(p,1,(t.fo++[t.force]).map bC),(.sl M 0 r.length 1,1,r.map nC)]:=by intro u;rw[u,Bool.or_true]at C;subst C;simpa[vg,Va,j]using k6
  cases he:cJ m<;>rw[he]at d
  .simp[O,d]at q;subst q;exact⟨_,_,rfl,λk hk=>by simp;omega,u (by simp[he])⟩
  cases hi:ve m<;>rw[hi]at g
  .simp[O,d,g]at q;subst q;exact⟨_,_,rfl,λk hk=>by simp;omega,u (by simp[hi])⟩
  rcases Bool.eq_false_or_eq_true t.force with hf|hf
  .rw[hf]at D;simp[e0,O,d,g,D]at q;subst q;exact⟨_,_,rfl,λk hk=>by simp;omega,u (by simp[hf])⟩
  rw[hf]at D;simp[e0,O,d,g,D,k5]at q;subst q;exact⟨_,_,rfl,λk hk=>by simp;omega,hb (by simp[he,hi,hf])⟩
 have hE:∃E s',ev R U.EC (bb [.ptr o 0,.agg m.c] 0) s=.code .normal E s'/\Gb s' o (nG t m):=by
  generalize q:ev R U.EC (bb [.ptr o 0,.agg m.c] 0) s=r1;simp-implicitDefEqProofs[-U.uV,-U.A2,U.EC,U.qE,g8,y,g4,l4,f,g5,i1,b1,Q,hw,b3,g7,g9,a4,b5]at q;generalize hk:(ev R U.uV _ s5).bY _=r2 at q;obtain⟨e1,s6,k1,k2,h6⟩:=key _ _ hk (by simp) (by simp);clear hk;subst k1;have e0:=k2 0 (by omega);have O:=k2 3 (by omega);have e6:=k2 6 (by omega);have e7:=k2 7 (by omega);have e8:=k2 8 (by omega);simp at e0 O e6 e7 e8;obtain⟨s7,b7,h7⟩:=h6.field 9 (by simp[vg]) (x:=.bool (cJ m&&BZ m)) rfl;have f4:=h7.get 4 rfl;obtain⟨k7,s8,ki,a8,c8,h8⟩:=h7.append 0 rfl (new:=[m.c]) (Sz.cons rfl Sz.nil) (by simp) (bw:=4398046511104) (by simp;omega);obtain⟨s9,b9,h9⟩:=h8.field 4 (by simp[vg]) c8;have f5:=h9.get 5 rfl;have hd:=h9.get 6 rfl;obtain⟨k8,km,k9,T,ka,hg⟩:=h9.append 1 rfl (new:=[[iV n]]) (Sz.cons rfl Sz.nil) (by simp) (bw:=17592186044416) (by simp;omega);have f6:=hg.get 6 rfl;obtain⟨kb,kn,V,X,kc,kd⟩:=hg.append 2 rfl (new:=[[iV n]]) (Sz.cons rfl Sz.nil) (by simp) (bw:=17592186044416) (by simp;omega);obtain⟨ko,hj,ke⟩:=kd.field 5 (by simp[vg]) ka;obtain⟨kp,ho,H⟩:=ke.field 6 (by simp[vg]) kc;have hs:=H.get 11 rfl;have f8:=H.get 8 rfl;have l8:=H.len 4 rfl;obtain⟨hx,hy,kg⟩:=H.field 11 (by simp[vg]) (x:=.int .i64 (max t.x.po r.length)) rfl;simp only[Mv.c]at a8;simp at a8 T X l8;have Y:∃E,r1=.code .normal E hx:=by
   cases he:cJ m<;>rw[he]at d b7<;>simp only[xQ,iI]at b7
   .simp-implicitDefEqProofs[e0,O,e7,e8,d,f,b7,f4,a8,b9,f5,hd,T,f6,X,hj,ho,hs,f8,hy]at q;subst q;exact⟨_,rfl⟩
   cases hp:BZ m<;>rw[hp]at z b7<;>simp-implicitDefEqProofs[-iO,e0,O,e7,e8,d,z,f,b7,f4,a8,b9,f5,hd,T,f6,X,hj,ho,hs,f8,hy]at q<;>subst q<;>exact⟨_,rfl⟩
  obtain⟨E,Y⟩:=Y;refine⟨E,hx,Y,k7,k8,kb,p,.sl M 0 r.length 1,V,?_⟩;unfold nG;rw[hq,C];simpa[vg,Va,j]using kg
 obtain⟨E,s',hE,hW⟩:=hE;exact⟨s',XX rfl ⟨.normal,_,s',hE,.inl rfl,by simp⟩,hW⟩
def MY{t:Tk}{m:Mv}(c:yY t m=true)(d:fD m=true):t.x.op≠ []:=by
 intro f;unfold yY at c;have:ie t.x=none:=by unfold ie;rw[f];rfl
 rw[this,d]at c;simp at c
def af0(t:Tk)(f:ta t)(m:Mv)(g:yY t m=true)(s:HS)(o:Ky)(h:Gb s o t):
  ∃s',R (.call 133 [.ptr o 0,.agg m.c] s)=.val (.bM []) s'/\Gb s' o (nG t m):=by
 cases d:fD m with|true=>exact Ym t f m d (MY g d) s o h|false=>exact Yl t f m d s o h
def SI(t:Tk)(m:Mv):(nG t m).x.w=t.x.w++[m]:=by unfold nG;split<;>rfl
def ta.say{t:Tk}(c:ta t){m:Mv}(g:t.x.w.length<400):ta (nG t m):=by
 have h:=c.1.C6;have j:=c.1.SB;have p:=c.1.SC;have q:=c.2;cases f:fD m with
 |false=>
  unfold nG;rw[f];refine⟨⟨c.1.ok,c.1.Yd,by simp;omega,λn d=>?_,by simp;omega,by simp;omega,by simp;omega⟩,by simp;omega⟩;simp only[cz,bn,cP,dq]at d;simp only[cz,bn,cA,dx];rcases d with d|rfl
  .have:=c.1.op n d;omega
  omega
 |true=>unfold nG;rw[f];refine⟨⟨c.1.ok,c.1.Yd,by simp;omega,λn d=>?_,by simp;omega,by simp;omega,by simp;omega⟩,by simp;omega⟩;have:=c.1.op n ((xN _).subset d);simp only[bj,cA,dx];omega
def gm(t:Tk):bc->Tk
 |[]=>t
 |m::r=>if HM t.x.a m&&yY t m then gm (nG t m) r else t
def Bn(a:Ar):Tk:=⟨iP a,[],false⟩
def ta.zero{a:Ar}(ok:dW a)(c:aI a=0):ta (Bn a):=⟨jl.zero ok c,rfl⟩
def iB.frame{s s':HS}{o:Ky}{cells:aj}{av:aZ}{L:cE}(h:iB s o cells av L)(d:cX (λ_=>False) s s'):iB s' o cells av L:=
 ⟨h.bD.frame d (λh=>h),h.co,λi v f c g=>(h.own i v f c g).frame d (λ_ _ h=>h)⟩
def Gb.frame{s s':HS}{o:Ky}{t:Tk}(h:Gb s o t)(c:cX (λ_=>False) s s'):Gb s' o t:=by obtain⟨v1,v2,d,f,g,av,h⟩:=h;exact⟨v1,v2,d,f,g,av,h.frame c⟩
def SJ(t:Tk)(m:Mv):(nG t m).x.a=t.x.a:=by unfold nG;split<;>rfl
def af1(a:Ar)(ok:dW a)(hc:aI a=0)(w:bc)(hl:w.length<=400)(s:HS):R (.call 117 [.agg a.c,.psl (w.map Mv.c)] s)=.val (.aw (gm (Bn a) w).c) s:=by
 refine ad0 ?_;simp[U.Wl,s0];generalize ho:bJ R (.loop U.sO) _ _=o;have hq:=ba ho w.length
  (λi e s'=>∃t,look e 2=some (.aw a.c)/\look e 5=some (.ptr .e 0)/\look e 13=some (.psl (w.map Mv.c))/\look e 14=some (iV w.length)/\look e 15=some (iV i)/\Gb s' .e t/\ta t/\t.x.a=a/\t.x.w.length=i/\gm (Bn a) w=gm t (w.drop i))
  (λo=>∃Y s',o=.code (.exit 0) Y s'/\look Y 5=some (.ptr .e 0)/\Gb s' .e (gm (Bn a) w))
  0 (by omega) ⟨Bn a,by simp,by simp,by simp,by simp,by simp,by
   exact⟨.ah,.ah,.ah,.ah,.ah,_,iB.start ⟨by simp[vg,Bn,iP],by simp,by simp[Ky.toNat]⟩ (by simp[Va,Bn,iP])⟩,ta.zero ok hc,rfl,rfl,by simp⟩
  (λi e s' r X ⟨t,O,B,p,j,q,P,C,u,Q,d⟩ D=>by
   have hd:w.drop i=w[i]::w.drop (i+1):=nU X;rw[hd]at d;have Z:=cX.alloc (s:=s') (.cells (cM w[i].c) 0 4 s'.nx) [s'.nx];have E:=P.frame (Z.mono λ_ h=>h);generalize T:HS.mk (ax (some (.cells (cM w[i].c) 0 4 s'.nx)) s'.nx s'.h) s'.nx.succ (ax (some [s'.nx]) s'.nx s'.gr) s'.ty=S at*;have f:=MU a ok w[i];rw[hc]at f;have g:=aee (args:=[.ptr .e 0,.agg w[i].c]) (l:=[.aw t.c,.agg w[i].c]) (s:=S) (v:=.bool (yY t w[i])) pT (.cons E.U8 (.data (by simp))) (by simp) rfl (λs=>afZ t C w[i] s);have H:ak S.h s'.nx=some (.cells (cM w[i].c) 0 4 s'.nx):=by rw[<-T];simp
   simp only[Mv.c,Ar.c,iV,eO,iI]at f g T H;have M:(i:Int)<w.length:=by omega
   cases V:HM a w[i]with
   |false=>rw[V]at f;simp only[gm,u,V,xQ,cz,bn]at d;simp[U.sO,O,p,j,q,X,M,f,ai,an,ao,T,H]at D;subst D;exact .inr ⟨by simp,_,_,rfl,by simp[B],by rw[d];exact E⟩
   |true=>
    rw[V]at f;cases y:yY t w[i]with
    |false=>rw[y]at g;simp only[gm,u,V,y,xR,cz,bn]at d;simp[U.sO,O,B,p,j,q,X,M,f,g,ai,an,ao,T,H]at D;subst D;exact .inr ⟨by simp,_,_,rfl,by simp[B],by rw[d];exact E⟩
    |true=>
     rw[y]at g;simp only[gm,u,V,y,jb,bj]at d;obtain⟨h3,z,h1⟩:=af0 t C w[i] y S .e E;simp only[Mv.c]at z;simp[U.sO,O,B,p,j,q,X,M,f,g,z,ai,an,ao,T,H,bo (n:=400) (show i<400 by omega) (by omega)]at D;subst D;exact .inl ⟨_,_,rfl,nG t w[i],by simp[O],by simp[B],by simp[p],by simp[j],by simp,h1,C.say (by omega),by rw[SJ];exact u,by rw[SI];simp[Q],d⟩)
  (λe s' r ⟨t,O,B,p,j,q,P,C,u,Q,d⟩ D=>by
   rw[Ay]at d;simp only[gm]at d;simp[U.sO,j,q]at D;subst D;exact⟨by simp,_,_,rfl,by simp[B],by rw[d];exact P⟩)
 clear ho;obtain⟨Y,s',rfl,B,P⟩:=hq;have hv:Vw s' 16 (.ptr .e 0) (.aw (gm (Bn a) w).c):=P.U8;simp[B];exact aH hv
def w86(a:Ar)(ok:dW a)(w:bc)(s:HS):R (.call 88 [.agg a.c,.psl (w.map Mv.c)] s)=.val (.bM (if aI a=0 then(if w.length<=400 then [.aw (gm (Bn a) w).c,iV 0]else [.dO,iV 5])else [.dO,iV (aI a)])) s:=by
 refine q86 ?_;have d:=w82 a ok;simp only[Ar.c,iV]at d;by_cases h:aI a=0
 .rw[h]at d;by_cases j:w.length<=400
  .have g:¬(400:Int)<w.length:=by omega
   have f:=af1 a ok h w j;simp only[Ar.c]at f;have p:da (gm (Bn a) w).c=true:=by simp
   generalize(gm (Bn a) w).c=q at f p;simp[U.ψ,d,g,f,h,j];exact aH (.bM (.data (by simp[p])))
  have g:(400:Int)<w.length:=by omega
  simp[U.ψ,d,g,h,j];exact aH (.bM (.data (by simp)))
 simp[U.ψ,d,h];exact aH (.bM (.data (by simp)))
def lE(a:Ar)(w:bc):Int:=if aI a=0 then(if w.length<=400 then(if(gm (Bn a) w).x.w.length<w.length then 13 else 0)else 5)else aI a
def Od(a:Ar)(w:bc):Int:=if aI a=0/\w.length<=400/\(gm (Bn a) w).x.w.length<w.length then(gm (Bn a) w).x.w.length else 0
def w45(a:Ar)(ok:dW a)(w:bc)(s:HS):R (.call 53 [.agg a.c,.psl (w.map Mv.c)] s)=.val (.bM [iV (Od a w),iV (lE a w)]) s:=by
 refine q45 ?_;have d:=w86 a ok w;simp only[Ar.c,iV]at d;unfold Od lE;by_cases f:aI a=0
 .by_cases h:w.length<=400
  .simp only[f,h,bj,Tk.c]at d;by_cases j:(gm (Bn a) w).x.w.length<w.length
   .have g:((gm (Bn a) w).x.w.length:Int)<w.length:=by omega
    simp[U.V3,d,f,h,j,g];exact aH (.bM (.data (by simp)))
   have g:¬((gm (Bn a) w).x.w.length:Int)<w.length:=by omega
   simp[U.V3,d,f,h,j,g];exact aH (.bM (.data (by simp)))
  simp only[f,h,bj,bn]at d;simp[U.V3,d,f,h];exact aH (.bM (.data (by simp)))
 simp only[f,bn]at d;simp[U.V3,d,f];exact aH (.bM (.data (by simp)))
abbrev KI:Kd:=⟨false,[0]⟩
def rN(a b:Int):ql KI (iV a) (iV b)=some (decide (a=b)):=by show(bif df [0] [iV a]&&df [0] [iV b]then(iV a).y7 (iV b)else none)=_;have c:df [0] [iV a]=true:=rfl;have d:df [0] [iV b]=true:=rfl;rw[c,d];show(iV a).y7 (iV b)=_;exact fg _ _ _
section
variable{e:En}{s:HS}
def Yn(K:Kd)(m k:bO)(z:HV)(ok:Bool)(s:HS):cR:=match m,k with
  |some .fK,some key=>bif p9 K key then .v (bif ok then .bM [z,.bool false]else z) s else .bad
  |some (.mp o),some key=>bif p9 K key then(match ak s.h o with
   |some (.mp es)=>(match dM K es key 0 with
    |some (_,some v)=>.v (bif ok then .bM [v,.bool true]else v) s
    |some (_,none)=>.v (bif ok then .bM [z,.bool false]else z) s
    |none=>.bad)
   |_=>.bad)else .bad
  |_,_=>.bad
def SK(K:Kd)(m k v:bO)(s:HS):cR:=match m,k,v with
  |some (.mp o),some key,some v=>bif p9 K key then(match ak s.h o with
   |some (.mp es)=>(match dM K es key 0 with
    |some (i,some _)=>.v .undef (s.aK o (.mp (lL es i v)))
    |some (_,none)=>.v .undef (s.aK o (.mp (es++[(key,v)])))
    |none=>.bad)
   |_=>.bad)else .bad
  |_,_,_=>.bad
@[simp]def aaT:cU .mkm e s=.v (.mp s.nx) {h:=ax (some (.mp [])) s.nx s.h,nx:=s.nx.succ,gr:=s.gr,ty:=s.ty}:=rfl
@[simp]def aaU{K:Kd}{m k:X}{z:HV}{ok:Bool}:cU (.lkp K m k z ok) e s=Yn K (bp m e) (bp k e) z ok s:=rfl
@[simp]def aaV{K:Kd}{m k v:X}:cU (.mup K m k v) e s=SK K (bp m e) (bp k e) (bp v e) s:=rfl
end
structure qN(s:HS)(o:Ky)(es:List (HV×HV))(av:aZ)(L:cE):Prop where
 mp:ak s.h o=some (.mp es)
 lt:o.toNat<s.nx.toNat
 co:av o=none
 mem:dR s av L
section
variable{s:HS}{o:Ky}{es:List (HV×HV)}{av:aZ}{L:cE}
def qN.append(h:qN s o es av L)(i:Nat){v:HV}{sz:Nat}{aq:aO}(E:L[i]?=some (v,sz,aq)){new:aO}(M:Sz sz new)(h0:new≠ []){bw:Nat}(O:aq.length+new.length<=bw):
  ∃p s' q,lS sz bw none (some v) (some (.psl new)) s=.v p s'/\cellsOf p=some [p]/\qN s' o es q (L.set i (p,sz,aq++new)):=by
 have r:=(aS.1 E).1;obtain⟨p,s',P,t,u,d⟩:=(h.mem.own i v sz aq E).append M h0 O;have B:=Ky.aV s.nx;have C:=h.lt;refine⟨p,s',λk=>if k=s.nx then some i else av k,P,t.one,?_,by rw[d];omega,?_,λk j c=>?_,λk j c=>?_,λj w D y z=>?_⟩
 .rw[u.2.2.1 o C (by show¬av o=some i;rw[h.co];simp)];exact h.mp
 .show(if o=s.nx then some i else av o)=none;rw[au λe=>by subst e;omega];exact h.co
 .rw[d]
  split at c
  .rename_i e;subst e;omega
  have:=h.mem.bd k j c;omega
 .rw[jc]
  split at c
  .cases c;exact r
  exact h.mem.top k j c
 rw[gP]at z;by_cases f:i=j
 .subst f;rw[ar rfl,ar r]at z;cases z;refine t.mono (λk c=>?_) (λk c=>?_)
  .rcases c with c|rfl
   .show(if k=s.nx then some i else av k)=some i
    split
    .rfl
    exact c
   show(if s.nx=s.nx then some i else av s.nx)=some i;rw[ar rfl]
  have c:(if k=s.nx then some i else av k)=some i:=c;rw[d]
  split at c
  .rename_i e;subst e;omega
  have:=h.mem.bd k i c;omega
 rw[au f]at z;have H:=h.mem.own j w D y z;refine(H.frame u (λk c g=>by have g:av k=some i:=g;have c:av k=some j:=c;rw[c]at g;cases g;exact f rfl)).mono (λk c=>?_) (λk c=>?_)
 .have Q:=H.2.1 k c;show(if k=s.nx then some i else av k)=some j;rw[au λe=>by subst e;omega];exact c
 have c:(if k=s.nx then some i else av k)=some j:=c;rw[d]
 split at c
 .cases c;exact absurd rfl f
 have:=h.mem.bd k j c;omega
def qN.iY(h:qN s o es av L)(i:Nat){v:HV}{aq:aO}(y:L[i]?=some (v,1,aq))(j:Nat)(C:j<aq.length){x:HV}(D:cellsOf x=some [x]):
  ∃q s',EN (some v) (some (.int .i64 (j:Int))) 1 s=.v (.ptr q (j*1)) s/\pR 1 (some (.ptr q (j*1))) (some x) s=.v .undef s'/\qN s' o es av (L.set i (v,1,aq.set j [x])):=by
 have r:=(aS.1 y).1;obtain⟨q,s',E,H,M,z,B⟩:=(h.mem.own i v 1 aq y).iY j C x D;refine⟨q,s',E,H,?_,by rw[B];exact h.lt,h.co,λk i c=>by rw[B];exact h.mem.bd k i c,λk i c=>by rw[jc];exact h.mem.top k i c,λk w t g c=>?_⟩
 .rw[z.2.2.1 o h.lt (by show¬av o=some i;rw[h.co];simp)];exact h.mp
 rw[gP]at c;by_cases f:i=k
 .subst f;rw[ar rfl,ar r]at c;cases c;exact M
 rw[au f]at c;exact(h.mem.own k w t g c).frame z (λp u d=>by have d:av p=some i:=d;have u:av p=some k:=u;rw[u]at d;cases d;exact f rfl)
def qN.frame{s':HS}(h:qN s o es av L)(c:cX (λ_=>False) s s'):qN s' o es av L:=
 ⟨(c.2.2.1 o h.lt (λh=>h)).trans h.mp,dZ h.lt c.1,h.co,h.mem.frame c⟩
def qN.put(h:qN s o es av L)(c:List (HV×HV)):qN (s.aK o (.mp c)) o c av L:=by have f:cX (λk=>k=o) s (s.aK o (.mp c)):=cX.aK rfl;refine⟨by rw[dJ,ar rfl],dZ h.lt f.1,h.co,λk i d=>dZ (h.mem.bd k i d) f.1,h.mem.top,λi v j g p=>(h.mem.own i v j g p).frame f (λk d e=>?_)⟩;have d:av k=some i:=d;subst e;rw[h.co]at d;cases d
def qN.one(h:qN s o es av L)(x:HV):∃c,qN (HS.mk (ax (some (.cells (cM [x]) 0 1 s.nx)) s.nx s.h) s.nx.succ (ax (some [s.nx]) s.nx s.gr) s.ty) o es c (L++[(.sl s.nx 0 1 1,1,[[x]])]):=by
 have d:=Ky.aV s.nx;have f:=cX.alloc (s:=s) (.cells (cM [x]) 0 1 s.nx) [s.nx];have q:ck (HS.mk (ax (some (.cells (cM [x]) 0 1 s.nx)) s.nx s.h) s.nx.succ (ax (some [s.nx]) s.nx s.gr) s.ty) (.sl s.nx 0 1 1) 1 (λk=>k=s.nx) [[x]]:=by refine⟨Sz.cons rfl Sz.nil,λk g=>by subst g;simp only;omega,.inr ⟨s.nx,cM [x],1,s.nx,[],rfl,by simp,by simp,λj p=>?_,by simp,by simp,by simp,rfl⟩⟩;simp at p;subst p;rfl
 refine⟨_,(f.2.2.1 o h.lt (λh=>h)).trans h.mp,dZ h.lt f.1,?_,h.mem.join f q (λk g=>by subst g;exact aW _)⟩;have:=h.lt;rw[au λe=>by subst e;omega];exact h.co
end
def K5(n:Int):Prop:=n<=8∨64<n
def Gc(t:Ty):Prop:=t.ps.length<=6/\K5 t.res.n/\∀p∈t.ps,K5 p.n
def w9a(a:Ar)(i:Nat)(t:Ty)(H:a.ids[i]?=some t)(O:t.ps.length<=6)(e:En)(r:Out)
  (f:look e 1=some (.aw a.c))(g:look e 3=some (iV i))(q:look e 5=some (iV 0))(d:bJ R (.loop U.AJ) e s0=r):
  (∃e',r=.code .ret e' s0/\look e' 2=some (.bool false))∨∃e',r=.code (.exit 2) e' s0/\(look e' 1=some (.aw a.c)/\look e' 3=some (iV i))/\∀p∈t.ps,K5 p.n:=by
 obtain⟨j,K4⟩:=aS.1 H;refine ba d t.ps.length
  (λk e s'=>s'=s0/\look e 1=some (.aw a.c)/\look e 3=some (iV i)/\look e 5=some (iV k)/\∀p∈t.ps.take k,K5 p.n)
  (λr=>(∃e',r=.code .ret e' s0/\look e' 2=some (.bool false))∨∃e',r=.code (.exit 2) e' s0/\(look e' 1=some (.aw a.c)/\look e' 3=some (iV i))/\∀p∈t.ps,K5 p.n)
  0 (by omega) ⟨rfl,f,g,q,by simp⟩
  (λk e s' r B ⟨D,f,g,q,C⟩ d=>by
   have y:K5 t.ps[k].n->∀p∈t.ps.take (k+1),K5 p.n:=by
    rw[fC B];simp only[cP,dq]
    rintro h p (M|rfl)
    .exact C p M
    exact h
   subst D;have u:(k:Int)<t.ps.length:=by omega
   by_cases E:8<t.ps[k].n
   .by_cases z:t.ps[k].n<=64
    .simp[U.AJ,f,g,q,j,K4,B,u,E,z]at d;subst d;exact .inr ⟨by simp,.inl ⟨_,rfl,by simp⟩⟩
    simp[U.AJ,f,g,q,j,K4,B,u,E,z,bo (n:=6) (show k<6 by omega) (by omega)]at d;subst d;exact .inl ⟨_,_,rfl,rfl,by simp[f],by simp[g],by simp,y (.inr (by omega))⟩
   simp[U.AJ,f,g,q,j,K4,B,u,E,bo (n:=6) (show k<6 by omega) (by omega)]at d;subst d;exact .inl ⟨_,_,rfl,rfl,by simp[f],by simp[g],by simp,y (.inl (by omega))⟩)
  (λe s' r ⟨D,f,g,q,C⟩ d=>by
   subst D;simp[U.AJ,f,g,q,j,K4]at d;subst d;rw[iH (aW _)]at C;exact⟨by simp,.inr ⟨_,rfl,⟨by simp[f],by simp[g]⟩,C⟩⟩)
def w9b(a:Ar)(hl:a.ids.length<=9)(e:En)(o:Out)(p:look e 1=some (.aw a.c))(q:look e 3=some (iV 0))(Y:bJ R (.loop U.yR) e s0=o):
  (∃e',o=.code .ret e' s0/\look e' 2=some (.bool false))∨∃e',o=.code (.exit 0) e' s0/\∀t∈a.ids,Gc t:=
 ba Y a.ids.length
  (λi e s'=>s'=s0/\look e 1=some (.aw a.c)/\look e 3=some (iV i)/\∀j (z:j<a.ids.length),j<i->Gc a.ids[j])
  (λo=>(∃e',o=.code .ret e' s0/\look e' 2=some (.bool false))∨∃e',o=.code (.exit 0) e' s0/\∀t∈a.ids,Gc t)
  0 (by omega) ⟨rfl,p,q,by simp⟩
  (λi e s' r C ⟨H,p,q,E⟩ d=>by
   subst H;have u:(i:Int)<a.ids.length:=by omega
   have y:∀(e:En) (r:Out),look e 1=some (.aw a.c)->look e 3=some (iV i)->look e 5=some (iV 0)->a.ids[i].ps.length<=6->bJ R (.loop U.AJ) e s0=r->_:=λe r p q Z M d=>w9a a i a.ids[i] (aR C) M e r p q Z d
   by_cases D:8<a.ids[i].res.n
   .by_cases B:a.ids[i].res.n<=64
    .simp[U.yR,p,q,C,u,D,B]at d;subst d;exact .inr ⟨by simp,.inl ⟨_,rfl,by simp⟩⟩
    by_cases M:6<a.ids[i].ps.length
    .have f:(6:Int)<a.ids[i].ps.length:=by omega
     simp[U.yR,p,q,C,u,D,B,f]at d;subst d;exact .inr ⟨by simp,.inl ⟨_,rfl,by simp⟩⟩
    have f:¬(6:Int)<a.ids[i].ps.length:=by omega
    simp-implicitDefEqProofs[U.yR,p,q,C,u,D,B,f]at d;generalize g:bJ R (.loop U.AJ) _ _=r1 at d;rcases y _ _ (by simp[p]) (by simp[q]) (by simp) (by omega) g with⟨O,rfl,P⟩|⟨O,rfl,⟨Q,T⟩,V⟩
    .clear g;simp at d;subst d;exact .inr ⟨by simp,.inl ⟨_,rfl,by simp[P]⟩⟩
    clear g;simp[T,bo (n:=9) (show i<9 by omega) (by omega)]at d;subst d;refine .inl ⟨_,_,rfl,rfl,by simp[Q],by simp,λj z X=>?_⟩;by_cases h:j=i
    .subst h;exact⟨by omega,.inr (by omega),V⟩
    exact E j z (by omega)
   by_cases M:6<a.ids[i].ps.length
   .have f:(6:Int)<a.ids[i].ps.length:=by omega
    simp[U.yR,p,q,C,u,D,f]at d;subst d;exact .inr ⟨by simp,.inl ⟨_,rfl,by simp⟩⟩
   have f:¬(6:Int)<a.ids[i].ps.length:=by omega
   simp-implicitDefEqProofs[U.yR,p,q,C,u,D,f]at d;generalize g:bJ R (.loop U.AJ) _ _=r1 at d;rcases y _ _ (by simp[p]) (by simp[q]) (by simp) (by omega) g with⟨O,rfl,P⟩|⟨O,rfl,⟨Q,T⟩,V⟩
   .clear g;simp at d;subst d;exact .inr ⟨by simp,.inl ⟨_,rfl,by simp[P]⟩⟩
   clear g;simp[T,bo (n:=9) (show i<9 by omega) (by omega)]at d;subst d;refine .inl ⟨_,_,rfl,rfl,by simp[Q],by simp,λj z X=>?_⟩;by_cases h:j=i
   .subst h;exact⟨by omega,.inl (by omega),V⟩
   exact E j z (by omega))
  (λe s' r ⟨H,p,q,E⟩ d=>by
   subst H;simp[U.yR,p,q]at d;subst d;refine⟨by simp,.inr ⟨_,rfl,λt ht=>?_⟩⟩;obtain⟨j,z,rfl⟩:=eH.1 ht;exact E j z z)
def rO(a:Ar):Prop:=a.ids.length<=9/\K5 a.root.n/\∀t∈a.ids,Gc t
def w9(a:Ar):∃b,(∀s,R (.call 39 [.agg a.c] s)=.val (.bool b) s)/\(b=true->rO a):=by
 suffices h:∃b,n5 [.tmp 2] (bJ R U.b9 (bb [.agg a.c] 0) s0)=some (.bool b)/\(b=true->rO a) by obtain⟨b,r,p⟩:=h;exact⟨b,λs=>q9 r,p⟩
 by_cases B:9<a.ids.length
 .have g:(9:Int)<a.ids.length:=by omega
  by_cases q:8<a.root.n
  .by_cases j:a.root.n<=64
   .exact⟨false,by simp[U.b9,q,j,aa]⟩
   exact⟨false,by simp[U.b9,q,j,g,aa]⟩
  exact⟨false,by simp[U.b9,q,g,aa]⟩
 have g:¬(9:Int)<a.ids.length:=by omega
 have aU:∀(e:En),look e 1=some (.aw a.c)->look e 3=some (iV 0)->∃b,(b=true->K5 a.root.n->rO a)/\((∃f,bJ R (.loop U.yR) e s0=.code .ret f s0/\look f 2=some (.bool false)/\b=false)∨(∃f,bJ R (.loop U.yR) e s0=.code (.exit 0) f s0/\b=true)):=by
  intro e r u;rcases w9b a (by omega) e _ r u rfl with⟨f,d,p⟩|⟨f,d,y⟩
  .exact⟨false,by simp,.inl ⟨f,d,p,rfl⟩⟩
  exact⟨true,λ_ z=>⟨by omega,z,y⟩,.inr ⟨f,d,rfl⟩⟩
 by_cases q:8<a.root.n
 .by_cases j:a.root.n<=64
  .exact⟨false,by simp[U.b9,q,j,aa]⟩
  simp[U.b9,q,j,g];generalize d:(En.cons 0 _ _:En)=e;obtain⟨b,t,h⟩:=aU e (by subst d;simp) (by subst d;simp);rcases h with⟨f,d,p,rfl⟩|⟨f,d,rfl⟩
  .exact .inl (by rw[d];simp[p,aa])
  exact .inr ⟨by rw[d];simp[aa],t rfl (.inr (by omega))⟩
 simp[U.b9,q,g];generalize d:(En.cons 0 _ _:En)=e;obtain⟨b,t,h⟩:=aU e (by subst d;simp) (by subst d;simp);rcases h with⟨f,d,p,rfl⟩|⟨f,d,rfl⟩
 .exact .inl (by rw[d];simp[p,aa])
 exact .inr ⟨by rw[d];simp[aa],t rfl (.inl (by omega))⟩
def ck.copy{S:HS}{v:HV}{sz bw:Nat}{F:bU}(h:ck S v sz F []){aq:aO}(p:Sz sz aq)(q:aq.length<=bw):
  ∃c s' j,lS sz bw none (some v) (some (.psl aq)) S=.v c s'/\ck s' c sz j aq/\cX F S s'/\cellsOf c=some [c]/\∀k,j k->F k∨k=S.nx:=by
 by_cases h0:aq=[]
 .subst h0;exact⟨v,S,F,mq h.iz,h,⟨aW _,rfl,λ_ _ _=>rfl,λ_ _ _=>rfl⟩,h.one,λk f=>.inl f⟩
 obtain⟨c,s',r,d,g,t⟩:=h.append p h0 (bw:=bw) (by simpa using q);exact⟨c,s',_,r,by simpa using d,g,d.one,λk f=>f⟩
abbrev S57:HS:={h:=.nd (some (.cells (cM [.ah,.bool false,.int .i64 0]) 0 3 .e)) (.nd (some (.cells (cM []) 0 0 (.z .e))) .lf .lf) .lf,nx:=.o .e,gr:=.nd (some [.e]) (.nd (some [.z .e]) .lf .lf) .lf,ty:=.lf}
abbrev S15:HS:={h:=.nd (some (.cells (cM []) 0 0 .e)) .lf .lf,nx:=.z .e,gr:=.nd (some [.e]) .lf .lf,ty:=.lf}
def Yo:ck S57 (.sl (.z .e) 0 0 2) 2 (λk=>k=.z .e) []:=by refine⟨Sz.nil,λk c=>by subst c;decide,.inr ⟨.z .e,cM [],0,.z .e,[],rfl,rfl,by simp,λj d=>by simp at d,rfl,by simp,by simp,rfl⟩⟩
def Yp:ck S15 (.sl .e 0 0 4) 4 (λk=>k=.e) []:=by refine⟨Sz.nil,λk c=>by subst c;decide,.inr ⟨.e,cM [],0,.e,[],rfl,rfl,by simp,λj d=>by simp at d,rfl,by simp,by simp,rfl⟩⟩
def w57(t:Ty)(E:t.ps.length<=400)(s:HS):R (.call 56 [.agg t.c] s)=.val (.agg t.c) s:=by refine q57 ?_;obtain⟨z,s',H,B,r,u,C,D⟩:=Yo.copy (aq:=t.ps.map Bs.c) (Sz.map (f:=Bs.c) (λx=>rfl) _) (bw:=8796093022208) (by simp;omega);have g:gJ S57 .e [.ah,.bool false,.int .i64 0]:=⟨rfl,rfl,by decide⟩;obtain⟨s2,y,d,h,_⟩:=(g.frame u (λe=>by cases e)).put (v:=.agg [z,.bool t.res.cell,.int .i64 t.res.n]) rfl rfl;have j:=d.load;have p:=r.frame h (λk q e=>by subst e;rcases D _ q with q|q<;>cases q);have y:pR 3 (some (.ptr .e 0)) (some (.agg [z,.bool t.res.cell,.int .i64 t.res.n])) s'=.v .undef s2:=y;simp only[az,aE]at j;simp[U.b57,s0,B,C,-iO,y,j];exact aH (.agg (.cons (p.vw (by simp)) (.data (by simp))))
def w18(a:Ar)(hl:a.ids.length<=9)(hp:∀t∈a.ids,t.ps.length<=6)(s:HS):R (.call 31 [.agg a.c] s)=.val (.agg a.c) s:=by
 refine q18 ?_;simp[U.χ,s0,ai,an];generalize ho:bJ R (.loop U.FU) _ _=o;have hq:=ba ho a.ids.length
  (λi e s=>∃v F,look e 1=some (.aw a.c)/\look e 2=some (.ptr .e 0)/\look e 3=some (.ptr (.z .e) 0)/\look e 4=some (iV i)/\gJ s .e [.ah,.bool false,.int .i64 0,.bool false]/\gJ s (.z .e) [v,.bool a.root.cell,.int .i64 a.root.n,.bool a.jumps]/\ck s v 3 F ((a.ids.take i).map Ty.c)/\∀k,F k->2<=k.toNat)
  (λo=>∃e s v F,o=.code (.exit 0) e s/\look e 2=some (.ptr .e 0)/\look e 3=some (.ptr (.z .e) 0)/\gJ s .e [.ah,.bool false,.int .i64 0,.bool false]/\gJ s (.z .e) [v,.bool a.root.cell,.int .i64 a.root.n,.bool a.jumps]/\ck s v 3 F (a.ids.map Ty.c)/\∀k,F k->2<=k.toNat)
  0 (by omega) ⟨.ah,_,by simp,by simp,by simp,by simp,⟨by simp,by simp,by simp[Ky.toNat]⟩,⟨by simp,by simp,by simp[Ky.toNat]⟩,ck.ah,λk p=>p.elim⟩
  (λi e s r Z ⟨v,F,Y,D,B,h4,g,d,C,q⟩ E=>by
   have h5:(i:Int)<a.ids.length:=by omega
   have H:=w57 a.ids[i] (by have:=hp _ (cp Z);omega);have g0:=d.get 0 (by simp);obtain⟨v',s1,ha,M,O,h8⟩:=C.append (bw:=3518437208883) (new:=[a.ids[i].c]) (Sz.cons rfl Sz.nil) (by simp) (by simp;omega);have P:=g.frame O (λh=>by have:=q _ h;simp[Ky.toNat]at this);have Q:=d.frame O (λh=>by have:=q _ h;simp[Ky.toNat]at this);obtain⟨s2,b2,u,f,h9⟩:=Q.set 0 (by simp) v' M.one;have h6:=d.2.2;have T:∀k,(F k∨k=s.nx)->2<=k.toNat:=by
    rintro k (p|rfl)
    .exact q k p
    have:(Ky.z Ky.e).toNat<s.nx.toNat:=h6;simp[Ky.toNat]at this;omega
   have V:=M.frame f (λk p e=>by subst e;have:=T _ p;simp[Ky.toNat]at this);have y:=P.frame f (λe=>by cases e);simp only[Ty.c]at H ha;simp at g0;simp[U.FU,Y,B,h4,Z,h5,H,g0,ha,b2,bo (n:=9) (show i<9 by omega) (by omega)]at E;subst E;refine .inl ⟨_,_,rfl,v',λk=>F k∨k=s.nx,by simp[Y],by simp[D],by simp[B],by simp,y,by simpa using u,?_,T⟩;rw[fC Z,fB];exact V)
  (λe s r ⟨v,F,Y,D,B,h4,g,d,C,q⟩ E=>by
   simp[U.FU,Y,h4]at E;subst E;rw[my]at C;exact⟨by simp,_,_,v,F,rfl,by simp[D],by simp[B],g,d,C,q⟩)
 clear ho;obtain⟨e,s,v,F,rfl,D,B,g,d,C,q⟩:=hq;have X:=d.load;obtain⟨s2,st,u,f,_⟩:=g.put (v:=.agg [v,.bool a.root.cell,.int .i64 a.root.n,.bool a.jumps]) rfl rfl;have j:=u.load;have h7:=C.frame f (λk p e=>by subst e;have:=q _ p;simp[Ky.toNat]at this);have st:pR 4 (some (.ptr .e 0)) (some (.agg [v,.bool a.root.cell,.int .i64 a.root.n,.bool a.jumps])) s=.v .undef s2:=st;simp only[az,aE]at X j;simp[D,B,X,-iO,st,j];exact aH (.agg (.cons (h7.vw (by simp)) (.data (by simp))))
inductive Lv(x:Fa):aC
 |fin {i:Nat} (h:x.fi[i]?=some true):Lv x i
 |HN {i:Nat} {l:bq} {e:Eg} (h:x.nx[i]?=some l) (he:e∈l) (h':Lv x e.to):Lv x i
structure Us(x:Fa)(u:cb):Prop where
 len:u.length=x.nx.length
 snd:∀i:Nat,u[i]?=some true->Lv x i
 fin:∀i:Nat,x.fi[i]?=some true->u[i]?=some true
def mz(x:Fa)(u:cb):Prop:=u.length=x.nx.length/\∀i:Nat,u[i]?=some true↔Lv x i
structure Rd(x:Fa)(u0 u:cb)(b:Bool)(i k:Nat):Prop where
 us:Us x u
 t:b=true->u0.count true<u.count true
 f:b=false->u=u0/\∀(i' k':Nat),(i'<i∨i'=i/\k'<k)->∀l,x.nx[i']?=some l->∀e:Eg,l[k']?=some e->u[e.to]?=some true->u[i']?=some true
def Rd.K4{x:Fa}{u0 u:cb}{b:Bool}{i k:Nat}(h:Rd x u0 u b i k){l:bq}{e:Eg}(p:x.nx[i]?=some l)(q:l[k]?=some e)(r:u[i]?=some false)(y:u[e.to]?=some true):Rd x u0 (u.set i true) true i (k+1):=by
 obtain⟨z,g⟩:=aS.1 r;refine⟨⟨by simp[h.us.len],λj d=>?_,λj d=>?_⟩,λ_=>?_,λh=>by cases h⟩
 .rw[gP]at d
  split at d
  .rename_i c;subst c;exact .HN p (cG q) (h.us.snd _ y)
  exact h.us.snd j d
 .rw[gP]
  split
  .rename_i c;subst c;simp
  exact h.us.fin j d
 have B:(u.set i true).count true=u.count true+1:=by rw[List.count_set z];simp[g]
 rw[B];cases b
 .rw[(h.f rfl).1];omega
 have:=h.t rfl;omega
def Rd.Yq{x:Fa}{u0 u:cb}{b:Bool}{i k:Nat}(h:Rd x u0 u b i k){l:bq}{e:Eg}(q:x.nx[i]?=some l)(r:l[k]?=some e)(y:u[e.to]?=some true->u[i]?=some true):Rd x u0 u b i (k+1):=by
 refine⟨h.us,h.t,λg=>⟨(h.f g).1,λj p z B c C d=>?_⟩⟩;by_cases D:j=i/\p=k
 .obtain⟨rfl,rfl⟩:=D;rw[q]at c;cases c;rw[r]at d;cases d;exact y
 exact(h.f g).2 j p (by omega) B c C d
def Rd.row{x:Fa}{u0 u:cb}{b:Bool}{i:Nat}{l:bq}(p:x.nx[i]?=some l)(h:Rd x u0 u b i l.length):Rd x u0 u b (i+1) 0:=by
 refine⟨h.us,h.t,λg=>⟨(h.f g).1,λj q y z c r d=>?_⟩⟩;by_cases B:j=i
 .subst B;rw[p]at c;cases c;exact(h.f g).2 j q (.inr ⟨rfl,(aS.1 d).1⟩) l p r d
 exact(h.f g).2 j q (by omega) z c r d
def Rd.done{x:Fa}{u0 u:cb}(h:Rd x u0 u false x.nx.length 0):mz x u:=by
 refine⟨h.us.len,λi=>⟨h.us.snd i,λc=>?_⟩⟩
 induction c with|fin d=>exact h.us.fin _ d|HN c g _ j=>obtain⟨k,p⟩:=tO.1 g;exact(h.f rfl).2 _ k (.inl (aS.1 c).1) _ c _ p j
def kV{s:HS}{o:Ky}{F:bU}{u:cb}{n:Nat}(h:ck s (.sl o 0 n 1) 1 F (u.map bC)){i:Nat}{b:Bool}(c:u[i]?=some b):eG (ak s.h o) i=some (.bool b):=by obtain⟨d,f⟩:=aS.1 c;rw[h.cell i (by simpa using d)];simp[f]
section
variable{x:Fa}{v:HV}{F:bU}{u0:cb}
def Yr(Q:cf x){i:Nat}(y:i<x.nx.length){e:En}{s:HS}{u:cb}{b:Bool}{o:Out}(d:bH e [(1,.aw x.c),(3,v),(4,.bool b),(5,iV i),(6,iV 0)])(g:ck s v 1 F (u.map bC))(q:Rd x u0 u b i 0)(Y:bJ R (.loop U.qB) e s=o):
  ∃e' s' C D,o=.code (.exit 4) e' s'/\bH e' [(1,.aw x.c),(3,v),(4,.bool D),(5,iV i)]/\ck s' v 1 F (C.map bC)/\Rd x u0 C D (i+1) 0:=by
 have j:=aR y;refine ba Y x.nx[i].length
  (λk e s=>∃u b,bH e [(1,.aw x.c),(3,v),(4,.bool b),(5,iV i),(6,iV k)]/\ck s v 1 F (u.map bC)/\Rd x u0 u b i k)
  (λo=>∃e' s' C D,o=.code (.exit 4) e' s'/\bH e' [(1,.aw x.c),(3,v),(4,.bool D),(5,iV i)]/\ck s' v 1 F (C.map bC)/\Rd x u0 C D (i+1) 0)
  0 (by omega) ⟨u,b,d,g,q⟩
  (λk e s r E ⟨u,b,d,g,q⟩ p=>by
   have z:(k:Int)<x.nx[i].length:=by omega
   have B:=aR E;have Z:=Q.row y;have h3:=Q.to _ (cp y) _ (cp E);have h4:=q.us.len;obtain⟨ob,rfl⟩:=g.gw (by intro h0;have:=cC List.length h0;rw[bG]at this;simp only[aE]at this;omega);obtain⟨c1,H⟩:∃c,u[i]?=some c:=⟨_,aR (show i<u.length by omega)⟩;obtain⟨c2,M⟩:∃c,u[(x.nx[i][k]).to]?=some c:=⟨_,aR (show(x.nx[i][k]).to<u.length by omega)⟩;have O:=kV g H;have T:=kV g M;have f:i<u.length:=by omega
   have t:(x.nx[i][k]).to<u.length:=by omega
   have P:=bo (n:=6000) (show k<6000 by omega) (by omega);simp only[ab,ae,bG]at d;cases c1
   .cases c2
    .simp[U.qB,d,y,E,z,f,t,O,T,P]at p;subst p;exact .inl ⟨_,_,rfl,u,b,by simp[d],g,q.Yq j B (λh=>by rw[M]at h;cases h)⟩
    obtain⟨o',s',V,X,a3,a4,a5⟩:=g.iY i (by simpa using f) (.bool true) rfl;simp[f]at V;obtain rfl:=V;simp only[iu]at X;simp[U.qB,d,y,E,z,f,t,O,T,P,X]at p;subst p;refine .inl ⟨_,_,rfl,u.set i true,true,by simp[d],?_,q.K4 j B H M⟩;rw[mA];exact a3
   simp[U.qB,d,y,z,f,O,P]at p;subst p;exact .inl ⟨_,_,rfl,u,b,by simp[d],g,q.Yq j B (λ_=>H)⟩)
  (λe s r ⟨u,b,d,g,q⟩ p=>by
   simp only[ab,ae]at d;simp[U.qB,d,y]at p;subst p;exact⟨by simp,_,_,u,b,rfl,by simp[d],g,q.row j⟩)
def Ys(D:cf x){e:En}{s:HS}{o:Out}(d:bH e [(1,.aw x.c),(3,v),(4,.bool false),(5,iV 0)])(q:ck s v 1 F (u0.map bC))(E:Us x u0)(t:bJ R (.loop U.wz) e s=o):
  ∃e' s' f g,o=.code (.exit 2) e' s'/\bH e' [(1,.aw x.c),(3,v),(4,.bool g)]/\ck s' v 1 F (f.map bC)/\Rd x u0 f g x.nx.length 0:=by
 have M:=D.n;refine ba t x.nx.length
  (λi e s=>∃u b,bH e [(1,.aw x.c),(3,v),(4,.bool b),(5,iV i)]/\ck s v 1 F (u.map bC)/\Rd x u0 u b i 0)
  (λo=>∃e' s' f g,o=.code (.exit 2) e' s'/\bH e' [(1,.aw x.c),(3,v),(4,.bool g)]/\ck s' v 1 F (f.map bC)/\Rd x u0 f g x.nx.length 0)
  0 (by omega) ⟨u0,false,d,q,⟨E,λh=>(by cases h),λ_=>⟨rfl,λO P h=>(by omega)⟩⟩⟩
  (λi e s r H ⟨u,b,d,q,y⟩ j=>by
   have z:(i:Int)<x.nx.length:=by omega
   simp only[ab,ae]at d;simp[U.wz,d,z]at j;generalize t:bJ R (.loop U.qB) _ _=o at j;obtain⟨e',s',f,g,rfl,p,B,C⟩:=Yr D H (by simp[d]) q y t;clear t;simp only[ab,ae]at p;simp[p,bo (n:=400) (show i<400 by omega) (by omega)]at j;subst j;exact .inl ⟨_,_,rfl,f,g,by simp[p],B,C⟩)
  (λe s r ⟨u,b,d,q,y⟩ j=>by
   simp only[ab,ae]at d;simp[U.wz,d]at j;subst j;exact⟨by simp,_,_,u,b,rfl,by simp[d],q,y⟩)
end
def SL:ck S15 (.sl .e 0 0 1) 1 (λk=>k=.e) []:=by refine⟨Sz.nil,λk c=>by subst c;decide,.inr ⟨.e,cM [],0,.e,[],rfl,rfl,by simp,λj d=>by simp at d,rfl,by simp,by simp,rfl⟩⟩
def af2(x:Fa)(C:cf x):∃u,mz x u/\∀s,R (.call 94 [.agg x.c] s)=.val (.psl (u.map bC)) s:=by
 have T:x.fi.length<=400:=by have:=C.ok.f;simpa[Fa.i]using this
 obtain⟨v,s',F,V,D,X,hc,hF⟩:=SL.copy (aq:=x.fi.map bC) (Sz.map (f:=bC) (λx=>rfl) _) (bw:=140737488355328) (by simp;omega)
 suffices h:∃u,mz x u/\n5 [.tmp 2] (bJ R U.Qk (bb [.agg x.c] 0) s0)=some (.psl (u.map bC)) by obtain⟨u,P,Q⟩:=h;exact⟨u,P,λs=>adO Q⟩
 simp[U.Qk,s0,V];generalize p:bJ R (.loop U.AP) _ _=o;have Y:=ba p (x.nx.length+2)
  (λi e s=>∃u b,bH e [(1,.aw x.c),(3,v),(4,.bool b)]/\ck s v 1 F (u.map bC)/\Us x u/\(b=true->i<=u.count true)/\(b=false->i<=u.count true+1/\mz x u))
  (λo=>∃z s' u,o=.code (.exit 0) z s'/\look z 3=some v/\ck s' v 1 F (u.map bC)/\mz x u)
  0 (by omega) ⟨x.fi,true,by simp,D,⟨C.nf.symm,λi h=>.fin h,λi h=>h⟩,λ_=>fm _,λh=>by cases h⟩
  (λi e s r hi ⟨u,b,j,q,E,B,H⟩ g=>by
   simp only[ab,ae]at j;cases b
   .simp[U.AP,j]at g;subst g;exact .inr ⟨by simp,_,_,u,rfl,by simp[j],q,(H rfl).2⟩
   simp[U.AP,j]at g;generalize p:bJ R (.loop U.wz) _ _=o at g;obtain⟨z,s',Z,b',rfl,y,M,d⟩:=Ys (u0:=u) C (by simp[j]) q E p;clear p;simp only[ab,ae]at y;simp at g;subst g;refine .inl ⟨_,_,rfl,Z,b',by simp[y],M,d.us,λO=>?_,λO=>?_⟩
   .have:=d.t O;have:=B rfl;omega
   subst O;have:=B rfl;have he:=(d.f rfl).1;exact⟨by rw[he];omega,d.done⟩)
  (λe s r ⟨u,b,j,q,E,B,H⟩ g=>by
   have P:=List.count_le_length (a:=true) (l:=u);have Q:=E.len;cases b
   .have:=(H rfl).1;omega
   have:=B rfl;omega)
 clear p;obtain⟨z,s',u,rfl,h3,q,hl⟩:=Y;refine⟨u,hl,?_⟩;simp[h3];exact aH (q.vw (by simp))
def Oe{c:HC}{e:En}{s:HS}{o:Out}(B:bJ R (.loop c) e s=o)(J:HS->Prop)(C:J s)(n:Nat)(P:aC)(L:Nat->List (Nat×HV))(M:List (Nat×HV))(x:Nat)(Q:Nat->Out->Prop)(D:bH e (L 0))
  (round:∀i e s r,i<n->J s->bH e (L i)->bJ R c e s=r->(P i/\∃e' s',r=.code .normal e' s'/\J s'/\bH e' (L (i+1)))∨(¬P i/\gk r/\Q i r))
  (last:∀e s r,J s->bH e (L n)->bJ R c e s=r->∃e' s',r=.code (.exit x) e' s'/\J s'/\bH e' M):
  (∃i,i<n/\(∀j,j<i->P j)/\¬P i/\Q i o)∨((∀i,i<n->P i)/\∃e' s',o=.code (.exit x) e' s'/\J s'/\bH e' M):=by
 refine ba B n (λi e s=>J s/\bH e (L i)/\∀j,j<i->P j) (λo=>(∃i,i<n/\(∀j,j<i->P j)/\¬P i/\Q i o)∨((∀i,i<n->P i)/\∃e' s',o=.code (.exit x) e' s'/\J s'/\bH e' M)) 0 (by omega) ⟨C,D,λj d=>by omega⟩ ?_ ?_
 .rintro i e s r z ⟨p,q,d⟩ t
  rcases round i e s r z p q t with⟨u,e',s',f,y,g⟩|⟨u,f,g⟩
  .refine .inl ⟨e',s',f,y,g,λj E=>?_⟩;by_cases h:j=i
   .subst h;exact u
   exact d j (by omega)
  exact .inr ⟨f,.inl ⟨i,z,d,u,g⟩⟩
 rintro e s r ⟨p,q,d⟩ t
 obtain⟨e',s',f,y,g⟩:=last e s r p q t;subst f;exact⟨by simp,.inr ⟨d,e',s',rfl,y,g⟩⟩
def ck.app{S:HS}{v:HV}{sz bw:Nat}{F:bU}{aq new:aO}(h:ck S v sz F aq)(p:Sz sz new)(q:aq.length+new.length<=bw):
  ∃c s' j,lS sz bw none (some v) (some (.psl new)) S=.v c s'/\ck s' c sz j (aq++new)/\cX F S s'/\(∀k,j k->F k∨k=S.nx):=by
 by_cases h0:new=[]
 .subst h0;exact⟨v,S,F,mq h.iz,by simpa using h,cX.refl,λk d=>.inl d⟩
 obtain⟨c,s',r,f,g,t⟩:=h.append p h0 (bw:=bw) q;exact⟨c,s',_,r,f,g,λk d=>d⟩
def j3:bc->Mv->bc
 |[],m=>[m]
 |a::r,m=>if ff a m then a::j3 r m else if a=m then a::r else m::a::r
def Gd:∀(l:bc) (m:Mv) (i:Nat),i<=l.length->(∀j,(h:j<l.length)->j<i->ff l[j] m=true)->(∀h:i<l.length,ff l[i] m=false)->
  j3 l m=if l[i]?=some m then l else l.take i++m::l.drop i
 |[],m,i,c,_,_=>by simp at c;subst c;simp[j3]
 |a::r,m,0,_,_,h=>by have:=h (by simp);simp only[Bo]at this;simp only[j3,this,cz,bn,xS,bL,SM,List.drop_zero,bA]
 |a::r,m,i+1,c,d,f=>by
  have h0:=d 0 (by simp) (by omega);simp only[Bo]at h0;have g:=Gd r m i (by simpa using c) (λj h p=>by have:=d (j+1) (by simpa using h) (by omega);simpa using this) (λh=>by have:=f (by simpa using h);simpa using this);simp only[j3,h0,bj,g,Bp,Bq,List.drop_succ_cons,bx]
  split<;>rfl
def Yt(l:bc)(hl:l.length<=100000)(m:Mv)(s:HS):R (.call 121 [.psl (l.map Mv.c),.agg m.c] s)=.val (.psl ((j3 l m).map Mv.c)) s:=by
 refine ad5 ?_;simp-implicitDefEqProofs[U.Wo];generalize ho:bJ R (.loop U.wC) _ _=o;have hq:=jJ ho l.length (λi=>∀h:i<l.length,ff l[i] m=true) (λi=>[(0,.psl (l.map Mv.c)),(3,.aw m.c),(5,iV i)]) [(0,.psl (l.map Mv.c)),(3,.aw m.c),(5,iV l.length)] 0 (λi o=>∃t,o=.code (.exit 0) t s0/\bH t [(0,.psl (l.map Mv.c)),(3,.aw m.c),(5,iV i)]) (by simp)
  (λi e r y g B=>by
   have D:(i:Int)<l.length:=by omega
   have d:=Yc l[i] m;simp only[ab,ae]at g;cases C:ff l[i] m
   .rw[C]at d;simp only[Mv.c]at d;simp[U.wC,g,y,D,d]at B;subst B;exact .inr ⟨λh=>(by rw[h y]at C;cases C),by simp,_,rfl,by simp[g]⟩
   rw[C]at d;simp only[Mv.c]at d;simp[U.wC,g,y,D,d,bo (n:=100000) (show i<100000 by omega) (by omega)]at B;subst B;exact .inl ⟨λ_=>C,_,rfl,by simp[g]⟩)
  (λe r g B=>by
   simp only[ab,ae]at g;simp[U.wC,g]at B;subst B;exact⟨_,rfl,by simp[g]⟩)
 clear ho;have P:∃i t,i<=l.length/\(∀j,(h:j<l.length)->j<i->ff l[j] m=true)/\(∀h:i<l.length,ff l[i] m=false)/\o=.code (.exit 0) t s0/\bH t [(0,.psl (l.map Mv.c)),(3,.aw m.c),(5,iV i)]:=by
  rcases hq with⟨i,y,Q,T,t,V,X⟩|⟨E,t,V,X⟩
  .refine⟨i,t,by omega,λj h hj=>Q j hj h,λh=>?_,V,X⟩;cases C:ff l[i] m
   .rfl
   exact absurd (λ_=>C) T
  exact⟨l.length,t,aW _,λj h _=>E j h h,λh=>by omega,V,X⟩
 obtain⟨i,t,y,Q,T,rfl,g⟩:=P;rw[Gd l m i y Q T];simp only[ab,ae]at g;obtain⟨v1,s1,F1,Y,o1,f1,n1⟩:=Yp.app (new:=(l.take i).map Mv.c) (Sz.map (f:=Mv.c) (λx=>rfl) _) (bw:=4398046511104) (by simp;omega);obtain⟨v2,s2,F2,Z,o2,f2,n2⟩:=o1.app (new:=[m.c]) (Sz.cons rfl Sz.nil) (bw:=4398046511104) (by simp;omega);obtain⟨v3,s3,F3,a3,o3,f3,n3⟩:=o2.app (new:=(l.drop i).map Mv.c) (Sz.map (f:=Mv.c) (λx=>rfl) _) (bw:=4398046511104) (by simp;omega);have z:ck s3 v3 4 F3 ((l.take i++m::l.drop i).map Mv.c):=by simpa using o3
 have H:List.take (l.length-i) (List.drop i (List.map Mv.c l))=List.drop i (List.map Mv.c l):=iH (by simp);have M:=mo (Sz.mv l);simp only[Mv.c]at Z;rw[Al]at Y;rw[List.map_drop]at a3;by_cases u:i<l.length
 .have p:(i:Int)<l.length:=by omega
  have q:=nB l[i] m;by_cases O:l[i]=m
  .rw[ey O]at q;simp only[Mv.c]at q;rw[ar (by rw[aR u,O])];simp[g,u,p,q,aa]
  rw[ef O]at q;simp only[Mv.c]at q;rw[au (by rw[aR u];simpa using O)];simp[g,u,p,q,y,s0,M,H,Y,Z,a3];simpa using aH (z.vw (n:=14) (pS _))
 have p:¬(i:Int)<l.length:=by omega
 rw[au (by rw[zq (by omega)];simp)];simp[g,p,y,s0,M,H,Y,Z,a3];simpa using aH (z.vw (n:=14) (pS _))
mutual
def MZ:∀(v:HV),dX v=true->nn v=v
 |.fn _ _ _,_=>rfl
 |.agg l,h=>by simp only[dX]at h;simp only[nn,kW l h]
 |.bM l,h=>by simp only[dX]at h;simp only[nn,kW l h]
 |.aw l,h=>by simp only[dX]at h;simp only[nn,kW l h]
 |.psl l,h=>by simp only[dX]at h;simp only[nn,iw l h]
 |.ah,h=>by simp[dX]at h
 |.int _ _,_=>rfl
 |.bool _,_=>rfl
 |.str _,_=>rfl
 |.dO,_=>rfl
 |.gG,_=>rfl
 |.fK,_=>rfl
 |.fQ,_=>rfl
 |.undef,_=>rfl
 |.ptr _ _,_=>rfl
 |.sl _ _ _ _,_=>rfl
 |.mp _,_=>rfl
 |.iR _,_=>rfl
def kW:∀(l:aj),da l=true->n9 l=l
 |[],_=>rfl
 |v::r,h=>by simp only[da,aL]at h;simp only[n9,MZ v h.1,kW r h.2]
def iw:∀(l:aO),eM l=true->pZ l=l
 |[],_=>rfl
 |v::r,h=>by simp only[eM,aL]at h;simp only[pZ,kW v h.1,iw r h.2]
end
def uD(f:Nat)(F:HF)(args l:aj)(v:HV)(s:HS)(g:U.prog f=some F)(j:oY LU f=true)(p:F.pu=true)(r:cj args=true)(t:da args=false)(u:n9 args=l)(c:da l=true)(h:R (.call f l s0)=.val v s0):R (.call f args s)=.val v s:=by
 have h:=kS h trivial;have h:se LU f l s0 (bu U.prog R f l s0)=.val v s0:=h;rw[eT j]at h;unfold bu at h;rw[g]at h;have h:(bif F.pu then bP F R l s0 else dw F R l s0)=.val v s0:=h;rw[p,cond_true]at h;unfold bP at h;rw[dy l c,cond_true,c,cond_true]at h;have d:iX F R l=some v:=by
  cases q:iX F R l with
  |none=>rw[q]at h;cases h
  |some y=>rw[q]at h;cases h;rfl
 refine dr ?_ trivial;show se LU f args s (bu U.prog R f args s)=_;rw[eT j];unfold bu;rw[g];show(bif F.pu then bP F R args s else dw F R args s)=_;rw[p,cond_true];unfold bP;rw[r,cond_true,t,cond_false,u,d];rfl
def Ic(l:bc):HV:=if l=[]then .ah else .psl (l.map Mv.c)
def Yu(l:bc)(d:l.length<=100000)(m:Mv)(s:HS):R (.call 121 [Ic l,.agg m.c] s)=.val (.psl ((j3 l m).map Mv.c)) s:=by
 unfold Ic
 split
 .rename_i h;subst h;exact uD 121 U.f157 _ [.psl [],.agg m.c] _ s rfl rfl rfl rfl rfl rfl (by simp) (Yt [] (by simp) m s0)
 exact Yt l d m s
def M9(l:bc)(m:Mv):j3 l m≠ []:=by cases l with|nil=>simp[j3]|cons a r=>simp only[j3];split<;>(try split)<;>simp
def Na(l:bc)(m:Mv):Ic (j3 l m)=.psl ((j3 l m).map Mv.c):=by unfold Ic;rw[au (M9 l m)]
def C8:∀(l:bc) (m:Mv),(j3 l m).length<=l.length+1
 |[],m=>by simp[j3]
 |a::r,m=>by
  simp only[j3]
  split
  .have:=C8 r m;simp;omega
  split<;>simp
def C9:∀(l:bc) (m x:Mv),x∈j3 l m↔x=m∨x∈l
 |[],m,x=>by simp[j3]
 |a::r,m,x=>by
  simp only[j3]
  split
  .simp only[bk,C9 r m x];constructor
   .rintro(h|h|h)<;>simp[h]
   rintro(h|h|h)<;>simp[h]
  split
  .rename_i h;subst h;simp
  simp
def pr(es:bq):bc:=es.foldl (λo e=>j3 o e.m) []
def rP(es:bq)(e:Eg):pr (es++[e])=j3 (pr es) e.m:=by simp[pr]
def rQ(es:bq):(pr es).length<=es.length:=by
 rcases mu es with h|⟨r,e,h⟩
 .subst h;simp[pr]
 rw[h,xM,rP];have c:=rQ r;have d:=C8 (pr r) e.m;simp;omega
termination_by es.length
decreasing_by subst h;simp
def Ge(es:bq)(m:Mv):m∈pr es↔∃e∈es,e.m=m:=by
 rcases mu es with h|⟨r,e,h⟩
 .subst h;simp[pr]
 rw[h,xM,rP,C9,Ge r m];simp only[cP,dq];constructor
 .rintro(h|⟨d,f,c⟩)
  .exact⟨e,.inr rfl,h.symm⟩
  exact⟨d,.inl f,c⟩
 rintro⟨d,f|rfl,c⟩
 .exact .inr ⟨d,f,c⟩
 exact .inl c.symm
termination_by es.length
decreasing_by subst h;simp
def fN(nx:List bq)(l:ay):bq:=l.flatMap λi=>nx.getD i []
def E4{nx:List bq}{l:ay}{i:Nat}(c:i<l.length)(d:l[i]<nx.length):fN nx (l.take (i+1))=fN nx (l.take i)++nx[l[i]]:=by unfold fN;rw[fC c,tb];simp[eD,d]
def tc{nx:List bq}(c:∀r∈nx,r.length<=6000):∀(l:ay),(fN nx l).length<=l.length*6000
 |[]=>by simp[fN]
 |i::r=>by
  have d:=tc c r;have:(nx.getD i []).length<=6000:=by rw[eD];cases h:nx[i]?with|none=>simp|some x=>simpa using c x (cG h)
  unfold fN at d ⊢;simp only[mB,cA,az];omega
def Yv(nx:List bq)(C:∀r∈nx,r.length<=6000)(l:ay)(O:l.length<=2)(E:∀i∈l,i<nx.length)(s:HS):
  R (.call 96 [.agg [.psl (nx.map nW),.psl [],.psl []],.psl (l.map nC)] s)=.val (.psl ((pr (fN nx l)).map Mv.c)) s:=by
 refine adQ ?_;simp[U.Wd];generalize q:bJ R (.loop U.AR) _ _=o;have y:=jJ q l.length (λ_=>True) (λi=>[(1,.psl (l.map nC)),(2,.aw [.psl (nx.map nW),.psl [],.psl []]),(5,Ic (pr (fN nx (l.take i)))),(6,iV i)]) [(5,Ic (pr (fN nx l)))] 0 (λ_ _=>False) (by simp[fN,pr,Ic])
  (λi e r u f d=>by
   have z:(i:Int)<l.length:=by omega
   have g:=E _ (cp u);have H:=C _ (cp g);have p:=tc C (l.take i);rw[oA]at p;simp only[ab,ae]at f;simp[U.AR,f,z]at d;generalize q:bJ R (.loop U.AQ) _ _=o at d;have y:=jJ q nx[l[i]].length (λ_=>True) (λk=>[(1,.psl (l.map nC)),(2,.aw [.psl (nx.map nW),.psl [],.psl []]),(5,Ic (pr (fN nx (l.take i)++nx[l[i]].take k))),(6,iV i),(7,iV k)]) [(1,.psl (l.map nC)),(2,.aw [.psl (nx.map nW),.psl [],.psl []]),(5,Ic (pr (fN nx (l.take (i+1))))),(6,iV i)] 2 (λ_ _=>False) (by simp[f])
    (λk e r D f d=>by
     have B:(k:Int)<nx[l[i]].length:=by omega
     have j:=Yu (pr (fN nx (l.take i)++nx[l[i]].take k)) (by
      have:=rQ (fN nx (l.take i)++nx[l[i]].take k);rw[cA,oA]at this;omega) nx[l[i]][k].m
     have t:Ic (pr (fN nx (l.take i)++nx[l[i]].take (k+1)))=.psl ((j3 (pr (fN nx (l.take i)++nx[l[i]].take k)) nx[l[i]][k].m).map Mv.c):=by rw[fC D,<-List.append_assoc,rP,Na]
     simp only[ab,ae]at f;simp only[Mv.c]at j;generalize Ic (pr (fN nx (l.take i)++nx[l[i]].take k))=P at*;generalize j3 (pr (fN nx (l.take i)++nx[l[i]].take k)) nx[l[i]][k].m=Q at*;simp[U.AQ,f,u,g,D,B,j,bo (n:=6000) (show k<6000 by omega) (by omega)]at d;subst d;exact .inl ⟨trivial,_,rfl,by simp[f,t]⟩)
    (λe r f d=>by
     simp only[ab,ae]at f;simp[U.AQ,f,u,g]at d;subst d;rw[E4 u g];exact⟨_,rfl,by simp[f]⟩)
   clear q;rcases y with⟨_,_,_,_,h⟩|⟨_,M,rfl,f⟩
   .exact h.elim
   simp only[ab,ae]at f;simp[f,bo (n:=400) (show i<400 by omega) (by omega)]at d;subst d;exact .inl ⟨trivial,_,rfl,by simp[f]⟩)
  (λe r f d=>by
   simp only[ab,ae]at f;simp[U.AR,f]at d;subst d;rw[my]at f;exact⟨_,rfl,by simp[f]⟩)
 clear q;rcases y with⟨_,_,_,_,h⟩|⟨_,M,rfl,f⟩
 .exact h.elim
 simp only[ab,ae]at f;simp[f];unfold Ic
 split
 .rename_i h;rw[h];exact aH .ah
 simp[aa]
def gQ(aU:cb)(m:Mv)(e:Eg):Bool:=decide (e.m=m)&&aU.getD e.to false
def mC(row:bq)(of:aY)(aU:cb)(m:Mv):Int:=match row.find? (gQ aU m)with|some e=>of.getD e.to 0|none=> -1
def Gf{α:Type}{p:α->Bool}:∀{l:List α} {i:Nat} (c:i<l.length),(∀j,(h:j<i)->p (l[j]'(by omega))=false)->p l[i]=true->l.find? p=some l[i]
 |[],i,c,_,_=>by simp at c
 |a::r,0,_,_,h=>by simp at h;simp[h]
 |a::r,i+1,c,d,f=>by have h0:=d 0 (by omega);simp only[Bo]at h0;have g:=Gf (l:=r) (i:=i) (by simpa using c) (λj h=>by have:=d (j+1) (by omega);simpa using this) (by simpa using f);simp[h0,g]
def HO{α:Type}{p:α->Bool}{l:List α}(h:∀i,(c:i<l.length)->p l[i]=false):l.find? p=none:=by rw[Br];intro a d;obtain⟨i,c,rfl⟩:=eH.1 d;simp[h i c]
def Yw(x:Fa)(O:cf x)(of:aY)(V:of.length=x.nx.length)(aU:cb)(hu:aU.length=x.nx.length)(i:Nat)(B:i<x.nx.length)(m:Mv)(s:HS):
  R (.call 144 [.agg x.c,.psl (of.map iC),.psl (aU.map bC),iV i,.agg m.c] s)=.val (iV (mC x.nx[i] of aU m)) s:=by
 refine aeo ?_;simp[U.Ww];generalize P:bJ R (.loop U.sQ) _ _=o;have X:=Oe P (λ_=>True) trivial x.nx[i].length (λk=>∀h:k<x.nx[i].length,gQ aU m x.nx[i][k]=false)
  (λk=>[(1,.psl (of.map iC)),(2,.psl (aU.map bC)),(3,iV i),(5,.aw x.c),(9,.aw m.c),(11,iV k)]) [] 0
  (λk o=>∃h:k<x.nx[i].length,∃E s',o=.code .ret E s'/\look E 10=some (iV (of.getD (x.nx[i][k]).to 0))) (by simp)
  (λk e s r g _ q t=>by
   have z:(k:Int)<x.nx[i].length:=by omega
   have Y:=O.row B;have Z:=O.to _ (cp B) _ (cp g);have Q:=bo (n:=6000) (show k<6000 by omega) (by omega);have f:=nB (x.nx[i][k]).m m;have p:ak (HS.mk (ax (some (.cells (cM (x.nx[i][k]).c) 0 5 s.nx)) s.nx s.h) s.nx.succ (ax (some [s.nx]) s.nx s.gr) s.ty).h s.nx=some (.cells (cM (x.nx[i][k]).c) 0 5 s.nx):=by simp
   generalize u:HS.mk (ax (some (.cells (cM (x.nx[i][k]).c) 0 5 s.nx)) s.nx s.h) s.nx.succ (ax (some [s.nx]) s.nx s.gr) s.ty=S1 at p;have hg:aU.getD (x.nx[i][k]).to false=aU[(x.nx[i][k]).to]'(by omega):=by rw[eD,aR (by omega)];rfl
   have H:of.getD (x.nx[i][k]).to 0=of[(x.nx[i][k]).to]'(by omega):=by rw[eD,aR (by omega)];rfl
   have C:(x.nx[i][k]).to<aU.length:=by omega
   have M:(x.nx[i][k]).to<of.length:=by omega
   have d:gQ aU m x.nx[i][k]=(decide ((x.nx[i][k]).m=m)&&aU[(x.nx[i][k]).to]):=by unfold gQ;rw[hg]
   simp only[ab,ae]at q;simp only[Eg.c]at u p;simp only[Mv.c]at f;by_cases T:(x.nx[i][k]).m=m
   .rw[ey T]at f d;cases y:aU[(x.nx[i][k]).to]
    .rw[y]at d;simp[U.sQ,q,B,g,z,Q,ai,an,ao,u,p,f,C,y]at t;subst t;exact .inl ⟨λ_=>d,_,_,rfl,trivial,by simp[q]⟩
    rw[y]at d;simp[U.sQ,q,B,g,z,ai,an,ao,u,p,f,C,M,y]at t;subst t;exact .inr ⟨λh=>(by rw[h g]at d;cases d),by simp,g,_,_,rfl,by rw[H];simp⟩
   rw[ef T]at f d;simp[U.sQ,q,B,g,z,Q,ai,an,ao,u,p,f]at t;subst t;exact .inl ⟨λ_=>by rw[d];rfl,_,_,rfl,trivial,by simp[q]⟩)
  (λe s r _ q t=>by
   simp only[ab,ae]at q;simp[U.sQ,q,B]at t;subst t;exact⟨_,_,rfl,trivial,by simp⟩)
 clear P;unfold mC;rcases X with⟨k,g,h1,h2,_,E,s',rfl,h3⟩|⟨D,E,s',rfl,_,_⟩
 .have hp:gQ aU m x.nx[i][k]=true:=by
   cases h:gQ aU m x.nx[i][k]
   .exact absurd (λ_=>h) h2
   rfl
  rw[Gf g (λj hj=>h1 j hj (by omega)) hp];simp[h3,aa]
 rw[HO (λk g=>D k g g)];simp[aa]
def eX(x:Fa)(of:aY)(aU:cb)(a b:Nat):Bool:=
 decide (of.getD a 0=of.getD b 0)&&(pr (fN x.nx [a,b])).all λm=>decide (mC (x.nx.getD a []) of aU m=mC (x.nx.getD b []) of aU m)
def gW{α:Type}{l:List α}{i:Nat}(h:i<l.length)(d:α):l.getD i d=l[i]:=by rw[eD,aR h];rfl
def cf.rows{x:Fa}(c:cf x):∀r∈x.nx,r.length<=6000:=λr d=>by obtain⟨i,f,rfl⟩:=eH.1 d;exact c.row f
def af3(x:Fa)(E:cf x)(of:aY)(y:of.length=x.nx.length)(aU:cb)(V:aU.length=x.nx.length)(a b:Nat)(P:a<x.nx.length)(Q:b<x.nx.length)(s:HS):
  R (.call 120 [.agg x.c,.psl (of.map iC),.psl (aU.map bC),iV a,iV b] s)=.val (.bool (eX x of aU a b)) s:=by
 refine ad3 ?_;have p:a<of.length:=by omega
 have q:b<of.length:=by omega
 unfold eX;rw[gW p,gW q,gW P,gW Q];by_cases g:of[a]=of[b]
 case neg=>rw[ef g];simp[U.Qz,p,q,g,aa]
 rw[ey g,iI];have z:=Yv x.nx E.rows [a,b] (by simp) (by simp[P,Q]) s0;have Y:=rQ (fN x.nx [a,b]);have T:=tc E.rows [a,b];generalize pr (fN x.nx [a,b])=d at*;have f:∀s,R (.call 96 [.agg [.psl (x.nx.map nW),.ah,.ah],.psl [[iV a],[iV b]]] s)=.val (.psl (d.map Mv.c)) s:=λs=>by
  refine uD 96 U.f142 _ [.agg [.psl (x.nx.map nW),.psl [],.psl []],.psl [[iV a],[iV b]]] _ s rfl rfl rfl ?_ (by simp[da,dX]) ?_ (by simp) z
  .have:=gi _ (pj x.nx);simp only[cj,bV,this,gZ,jb]
  have:=iw _ (pj x.nx);simp only[n9,nn,this,pZ]
 simp only[iV]at f;simp[U.Qz,p,q,g,f];generalize X:bJ R (.loop U.wB) _ _=o;simp only[az,aE]at T;have Z:=jJ X d.length (λk=>∀h:k<d.length,mC x.nx[a] of aU d[k]=mC x.nx[b] of aU d[k])
  (λk=>[(1,.psl (of.map iC)),(2,.psl (aU.map bC)),(3,iV a),(4,iV b),(5,.aw x.c),(11,.psl (d.map Mv.c)),(12,iV k)]) [] 0
  (λk o=>∃H,o=.code .ret H s0/\look H 10=some (.bool false)) (by simp)
  (λk e r j t u=>by
   have B:(k:Int)<d.length:=by omega
   have M:=Yw x E of y aU V a P d[k];have C:=Yw x E of y aU V b Q d[k];simp only[ab,ae]at t;simp only[Fa.c,Mv.c]at M C;by_cases O:mC x.nx[a] of aU d[k]=mC x.nx[b] of aU d[k]
   .rw[O]at M;simp[U.wB,t,j,B,M,C,bo (n:=12000) (show k<12000 by omega) (by omega)]at u;subst u;exact .inl ⟨λ_=>O,_,rfl,by simp[t]⟩
   simp[U.wB,t,j,B,M,C,O]at u;subst u;exact .inr ⟨λh=>O (h j),by simp,_,rfl,by simp⟩)
  (λe r t u=>by
   simp only[ab,ae]at t;simp[U.wB,t]at u;subst u;exact⟨_,rfl,by simp⟩)
 clear X;rcases Z with⟨k,j,_,C,H,rfl,h3⟩|⟨D,H,rfl,_⟩
 .have:(d.all λm=>decide (mC x.nx[a] of aU m=mC x.nx[b] of aU m))=false:=by rw[JP];exact⟨d[k],cp j,by simpa using λh=>C λ_=>h⟩
  rw[this];simp[h3,aa]
 have:(d.all λm=>decide (mC x.nx[a] of aU m=mC x.nx[b] of aU m))=true:=by rw[fq];intro m hm;obtain⟨k,j,rfl⟩:=eH.1 hm;simpa using D k j j
 rw[this];simp[aa]
def gC{x:Fa}{of:aY}{aU:cb}{a b:Nat}:eX x of aU a b=true↔of.getD a 0=of.getD b 0/\∀m,mC (x.nx.getD a []) of aU m=mC (x.nx.getD b []) of aU m:=by
 unfold eX;simp only[aL,bX,fq];refine and_congr_right λ_=>⟨λh m=>?_,λh m _=>h m⟩
 by_cases d:m∈pr (fN x.nx [a,b])
 .exact h m d
 have c:∀r,(r=x.nx.getD a []∨r=x.nx.getD b [])->mC r of aU m= -1:=by intro r g;unfold mC;rw[show r.find? (gQ aU m)=none from Br.2 λe j f=>?_];apply d;rw[Ge];simp only[gQ,aL,bX]at f;refine⟨e,?_,f.1⟩;unfold fN;rcases g with rfl|rfl<;>simp[<-List.getD_eq_getElem?_getD,j]
 rw[c _ (.inl rfl),c _ (.inr rfl)]
def E5{x:Fa}{of:aY}{aU:cb}(a:Nat):eX x of aU a a=true:=gC.2 ⟨rfl,λ_=>rfl⟩
def qO{x:Fa}{of:aY}{aU:cb}{a b:Nat}(h:eX x of aU a b=true):eX x of aU b a=true:=by obtain⟨c,d⟩:=gC.1 h;exact gC.2 ⟨c.symm,λm=>(d m).symm⟩
def tW{x:Fa}{of:aY}{aU:cb}{a b c:Nat}(h:eX x of aU a b=true)(k:eX x of aU b c=true):eX x of aU a c=true:=by obtain⟨d,f⟩:=gC.1 h;obtain⟨g,j⟩:=gC.1 k;exact gC.2 ⟨d.trans g,λm=>(f m).trans (j m)⟩
structure B0(A:Nat->Nat->Bool)(n:Nat)(fs:ay)(nt:aY)(i:Nat):Prop where
 len:nt.length=n
 fl:fs.length<=i
 fb:∀k,(h:k<fs.length)->fs[k]<i/\nt[fs[k]]?=some (k:Int)
 cl:∀j,j<i->∃k,nt[j]?=some ((k:Nat):Int)/\∃h:k<fs.length,A fs[k] j=true
 ap:∀k k',(h:k<fs.length)->(h':k'<fs.length)->A fs[k] fs[k']=true->k=k'
section
variable{A:Nat->Nat->Bool}{n i:Nat}{fs:ay}{nt:aY}
def B0.zero(h:nt.length=n):B0 A n [] nt 0:=⟨h,by simp,λk h=>by simp at h,λj h=>by omega,λk c h=>by simp at h⟩
def B0.old(h:B0 A n fs nt i)(u:i<n){k:Nat}(p:k<fs.length)(q:A fs[k] i=true):B0 A n fs (nt.set i (k:Int)) (i+1):=by
 have r:=h.len;refine⟨by simp[r],by have:=h.fl;omega,λj f=>?_,λj f=>?_,h.ap⟩
 .obtain⟨g,c⟩:=h.fb j f;exact⟨by omega,by rw[jd (by omega)];exact c⟩
 by_cases d:j=i
 .subst d;exact⟨k,by rw[gn (by omega)],p,q⟩
 obtain⟨t,g,c⟩:=h.cl j (by omega);exact⟨t,by rw[jd (by omega)];exact g,c⟩
def B0.new(h:B0 A n fs nt i)(H:i<n)(C:∀a,A a a=true)(D:∀a b,A a b=true->A b a=true)(z:∀k,(p:k<fs.length)->A fs[k] i=false):B0 A n (fs++[i]) (nt.set i (fs.length:Int)) (i+1):=by
 have E:=h.len;have d:∀k,(p:k<(fs++[i]).length)->(∃h:k<fs.length,(fs++[i])[k]=fs[k])∨(k=fs.length/\(fs++[i])[k]=i):=by
  intro k p;by_cases c:k<fs.length
  .exact .inl ⟨c,Da c⟩
  simp only[cA,dx]at p;have:k=fs.length:=by omega
  subst this;exact .inr ⟨rfl,by simp⟩
 refine⟨by simp[E],by have:=h.fl;simp;omega,λk p=>?_,λj M=>?_,λk q p g r=>?_⟩
 .rcases d k p with⟨c,e⟩|⟨rfl,e⟩
  .obtain⟨B,u⟩:=h.fb k c;rw[e];exact⟨by omega,by rw[jd (by omega)];exact u⟩
  rw[e];exact⟨by omega,by rw[gn (by omega)]⟩
 .by_cases y:j=i
  .subst y;refine⟨fs.length,by rw[gn (by omega)],by simp,?_⟩;simp only[List.getElem_concat_length];exact C j
  obtain⟨q,B,g,u⟩:=h.cl j (by omega);exact⟨q,by rw[jd (by omega)];exact B,by simp;omega,by rw[Da g];exact u⟩
 rcases d k p with⟨c,e⟩|⟨rfl,e⟩
 .rcases d q g with⟨f,t⟩|⟨rfl,t⟩
  .rw[e,t]at r;exact h.ap k q c f r
  rw[e,t,z k c]at r;cases r
 rcases d q g with⟨f,t⟩|⟨rfl,t⟩
 .rw[e,t]at r;have:=D _ _ r;rw[z q f]at this;cases this
 rfl
def B0.iff(h:B0 A n fs nt n)(f:∀a b,A a b=true->A b a=true)(d:∀a b c,A a b=true->A b c=true->A a c=true){i j:Nat}(r:i<n)(t:j<n):nt[i]?=nt[j]?↔A i j=true:=by
 obtain⟨k,u,y,g⟩:=h.cl i r;obtain⟨p,z,B,q⟩:=h.cl j t;rw[u,z];constructor
 .intro C;have:k=p:=by have:=lz C;omega
  subst this;exact d _ _ _ (f _ _ g) q
 intro D;have:=h.ap k p y B (d _ _ _ (d _ _ _ g D) (f _ _ q));rw[this]
end
def JY:∀(n:Nat) (l:ay),(∀k,k<n->k∈l)->n<=l.length
 |0,_,_=>fm _
 |n+1,l,d=>by
  obtain⟨p,f,g⟩:=eH.1 (d n (by omega));have j:=JY n (l.eraseIdx p) (λk t=>by
   obtain⟨q,r,c⟩:=eH.1 (d k (by omega));rw[SN];exact⟨q,λh=>by subst h;omega,by rw[aR r,c]⟩)
  rw[SO f]at j;omega
def SP{n:Nat}{l:ay}(z:l.length<=n)(g:∀k,k<n->k∈l){i j:Nat}(p:i<l.length)(r:j<l.length)(t:l[i]=l[j]):i=j:=by
 apply Az;intro f;have:=JY n (l.eraseIdx i) (λk u=>by
  obtain⟨q,y,c⟩:=eH.1 (g k u);rw[SN];by_cases d:q=i
  .subst d;exact⟨j,λh=>f h.symm,by rw[aR r,<-t,c]⟩
  exact⟨q,d,by rw[aR y,c]⟩)
 rw[SO p]at this;omega
structure Of(n:Nat)(of:aY)(fs:ay):Prop where
 len:of.length=n
 cl:∀j,j<n->∃k,of[j]?=some ((k:Nat):Int)/\k<fs.length
 fb:∀k,(h:k<fs.length)->fs[k]<n/\of[fs[k]]?=some (k:Int)
def B0.SQ{A:Nat->Nat->Bool}{n:Nat}{fs:ay}{nt:aY}(h:B0 A n fs nt n):Of n nt fs:=
 ⟨h.len,λj c=>by obtain⟨k,d,f,_⟩:=h.cl j c;exact⟨k,d,f⟩,h.fb⟩
def Of.Gg{n:Nat}{of nt:aY}{fs f:ay}(h:Of n of fs)(k:Of n nt f)(t:∀i j:Nat,i<n->j<n->nt[i]?=nt[j]?->of[i]?=of[j]?):
  fs.length<=f.length/\(f.length=fs.length->∀i j:Nat,i<n->j<n->of[i]?=of[j]?->nt[i]?=nt[j]?):=by
 have B:∀p,p<fs.length->p∈f.map λg=>(of.getD g 0).toNat:=by intro p O;obtain⟨C,P⟩:=h.fb p O;obtain⟨c,r,q⟩:=k.cl _ C;obtain⟨u,y⟩:=k.fb c q;have:=t _ _ u C (by rw[y,r]);rw[dt];refine⟨f[c],cp q,?_⟩;rw[eD,this,P];simp
 have hlen:=JY fs.length _ B;rw[bG]at hlen;refine⟨hlen,λY i j D E z=>?_⟩;obtain⟨c,r,q⟩:=k.cl i D;obtain⟨d,H,M⟩:=k.cl j E;obtain⟨u,y⟩:=k.fb c q;obtain⟨Q,T⟩:=k.fb d M;have V:=t _ _ u D (by rw[y,r]);have X:=t _ _ Q E (by rw[T,H]);have:=SP (l:=f.map λg=>(of.getD g 0).toNat) (n:=fs.length) (by simp;omega) B (i:=c) (j:=d) (by simpa using q) (by simpa using M) (by
  simp only[Bu,eD,V,X,z])
 subst this;rw[r,H]
structure Bis(x:Fa)(aU:cb)(B:Nat->aC):Prop where
 fi:∀a b,B a b->a<x.nx.length/\b<x.nx.length/\x.fi[a]?=x.fi[b]?/\aU[a]?=aU[b]?
 st:∀a b,B a b->∀m,match(x.nx.getD a []).find? (gQ aU m),(x.nx.getD b []).find? (gQ aU m)with|none,none=>True|some e,some e'=>B e.to e'.to|_,_=>False
def JZ(x:Fa)(aU:cb)(i:Nat):Int:=if x.fi.getD i false then 2 else if aU.getD i false then 1 else 0
structure Og(x:Fa)(aU:cb)(of:aY):Prop where
 len:of.length=x.nx.length
 ge:∀(i:Nat) (c:Int),of[i]?=some c->0<=c
 af4:∀i j:Nat,i<x.nx.length->j<x.nx.length->of[i]?=of[j]?->JZ x aU i=JZ x aU j
 coarse:∀B,Bis x aU B->∀i j:Nat,B i j->of[i]?=of[j]?
def lG{α:Type}{l:List α}{i j:Nat}(h:l[i]?=l[j]?)(d:α):l.getD i d=l.getD j d:=by rw[eD,eD,h]
def Og.next{x:Fa}{aU:cb}{of nt:aY}{fs:ay}(h:Og x aU of)(r:B0 (eX x of aU) x.nx.length fs nt x.nx.length):Og x aU nt/\∀i j:Nat,i<x.nx.length->j<x.nx.length->nt[i]?=nt[j]?->of[i]?=of[j]?:=by
 have f:=λ{i j}=>r.iff (λa b=>qO) (λa b c=>tW) (i:=i) (j:=j)
 have g:∀i j:Nat,i<x.nx.length->j<x.nx.length->nt[i]?=nt[j]?->of[i]?=of[j]?:=by intro i j d p u;have:=(gC.1 ((f d p).1 u)).1;rw[gW (by rw[h.len];exact d),gW (by rw[h.len];exact p)]at this;rw[aR (by rw[h.len];exact d),aR (by rw[h.len];exact p),this]
 refine⟨⟨r.len,λi c y=>?_,λi j d p u=>h.af4 i j d p (g i j d p u),λB t i j q=>?_⟩,g⟩
 .have d:i<x.nx.length:=by rw[<-r.len];exact(aS.1 y).1
  obtain⟨k,D,_⟩:=r.cl i d;rw[D]at y;cases y;omega
 obtain⟨d,p,_,_⟩:=t.fi i j q;refine(f d p).2 (gC.2 ⟨lG (h.coarse B t i j q) 0,λm=>?_⟩);have iA:=t.st i j q m;unfold mC
 split at iA
 .rename_i z C;rw[z,C]
 .rename_i e E z C;rw[z,C];exact lG (h.coarse B t _ _ iA) 0
 exact iA.elim
structure Vb(x:Fa)(aU:cb)(r:aY):Prop where
 cls:Og x aU r
 st:∀i j:Nat,i<x.nx.length->j<x.nx.length->r[i]?=r[j]?->∀m,mC (x.nx.getD i []) r aU m=mC (x.nx.getD j []) r aU m
def Og.af5{x:Fa}(O:cf x){aU:cb}{of nt:aY}{fs H:ay}(h:Og x aU of)(P:Of x.nx.length of fs)(u:B0 (eX x of aU) x.nx.length H nt x.nx.length)(Q:H.length=fs.length):Vb x aU nt:=by
 obtain⟨T,V⟩:=h.next u
 obtain⟨_,y⟩:=P.Gg u.SQ V;have y:=y Q;have q:=λ{i j}=>u.iff (λa b=>qO) (λa b c=>tW) (i:=i) (j:=j)
 refine⟨T,λi j r z B m=>?_⟩;have d:=(gC.1 ((q r z).1 B)).2 m;have f:∀(i:Nat) (e:Eg),i<x.nx.length->(x.nx.getD i []).find? (gQ aU m)=some e->e.to<x.nx.length/\0<=of.getD e.to 0:=by intro i e r X;have M:=Bl X;rw[gW r]at M;have g:=O.to _ (cp r) e M;refine⟨g,?_⟩;rw[gW (by rw[h.len];exact g)];exact h.ge e.to _ (aR (by rw[h.len];exact g))
 unfold mC at d ⊢;cases t:(x.nx.getD i []).find? (gQ aU m)with
 |none=>cases p:(x.nx.getD j []).find? (gQ aU m)with|none=>rfl|some C=>rw[t,p]at d;have:=(f j C z p).2;simp only at d;omega
 |some e=>obtain⟨D,Y⟩:=f i e r t;cases p:(x.nx.getD j []).find? (gQ aU m)with|none=>rw[t,p]at d;simp only at d;omega|some C=>obtain⟨E,Z⟩:=f j C z p;rw[t,p]at d;simp only at d ⊢;refine lG (y _ _ D E ?_) 0;rw[gW (by rw[h.len];exact D),gW (by rw[h.len];exact E)]at d;rw[aR (by rw[h.len];exact D),aR (by rw[h.len];exact E),d]
def Oh(s:HS):R (.call 7 [] s)=.val (.bool true) s:=Sj 7 s rfl rfl rfl rfl
def zM(i:Nat)(id arg:Int):∀(ps:tR) (j:Nat),(Bj i j ps).find? (et id arg)=if id=i+1/\(j:Int)+1<=arg/\arg<=j+ps.length then(ps[(arg-1-j).toNat]?).map (λb=>⟨id,arg,b,true⟩)else none
 |[],j=>by rw[Bj,au (by simp;omega)];rfl
 |b::r,j=>by
  have d:=zM i id arg r (j+1);rw[Bj,ti,d];by_cases h:et id arg ⟨(i:Int)+1,(j:Int)+1,b,true⟩=true
  .rw[h];simp[et]at h;obtain⟨f,g⟩:=h;simp only[az];rw[ar (by omega),show(arg-1-(j:Int)).toNat=0 by omega];simp[f,g]
  have p:et id arg ⟨(i:Int)+1,(j:Int)+1,b,true⟩=false:=by simpa using h
  rw[p];simp[et]at h;simp only[az];by_cases c:id=(i:Int)+1/\((j+1:Nat):Int)+1<=arg/\arg<=((j+1:Nat):Int)+r.length
  .rw[ar c,ar (by omega),show(arg-1-(j:Int)).toNat=(arg-1-((j+1:Nat):Int)).toNat+1 by omega];simp
  rw[au c,au (by omega)]
def zN(jumps:Bool)(id arg:Int):∀(ids:xF) (i:Nat),(yW jumps i ids).find? (et id arg)=if(i:Int)+1<=id/\id<=i+ids.length then
      match ids[(id-1-i).toNat]?with|none=>none|some t=>if arg=0 then some ⟨id,0,t.res,jumps||decide (0<t.ps.length)⟩else if 1<=arg/\arg<=t.ps.length then(t.ps[(arg-1).toNat]?).map (λb=>⟨id,arg,b,true⟩)else none
    else none
  |[],i=>by rw[yW,au (by simp;omega)];rfl
  |t::r,i=>by
    have g:=zN jumps id arg r (i+1);rw[yW,ti,List.find?_append,zM,g];simp only[az];by_cases hid:id=i+1
    . rw[ar (show(i:Int)+1<=id/\id<=i+((r.length+1:Nat):Int) by omega),show(id-1-(i:Int)).toNat=0 by omega]
      rw[au (show¬(((i+1:Nat):Int)+1<=id/\id<=((i+1:Nat):Int)+r.length) by omega)];simp only[xS,Option.or_none];by_cases d:arg=0
      . subst d
        simp[et,hid]
      have c:et id arg ⟨(i:Int)+1,0,t.res,jumps||decide (0<t.ps.length)⟩=false:=by simp[et];omega
      rw[c,au d];simp only[hid,true_and,SR,Int.zero_add,Int.sub_zero]
    have c:et id arg ⟨(i:Int)+1,0,t.res,jumps||decide (0<t.ps.length)⟩=false:=by simp[et];omega
    rw[c,au (show¬(id=(i:Int)+1/\((0:Nat):Int)+1<=arg/\arg<=((0:Nat):Int)+t.ps.length) by omega)];simp only[Option.none_or];by_cases f:((i+1:Nat):Int)+1<=id/\id<=((i+1:Nat):Int)+r.length
    . rw[ar f,ar (by omega),show(id-1-(i:Int)).toNat=(id-1-((i+1:Nat):Int)).toNat+1 by omega]
      simp
    rw[au f,au (by omega)]
def Bv(a:Ar)(id arg:Int):jS a id arg=(di a id arg).map (λg=>⟨id,arg,g.1,g.2⟩):=by
 unfold jS tU di;rw[ti,zN];by_cases h:id=0/\arg=0
 .rw[ar h];obtain⟨rfl,rfl⟩:=h;simp[et]
 have j:et id arg ⟨0,0,a.root,a.jumps⟩=false:=by simp[et];omega
 rw[j,au h];simp only[SR,Int.zero_add,Int.sub_zero];by_cases c:1<=id/\id<=(a.ids.length:Int)
 .rw[ar c,ar c];cases a.ids[(id-1).toNat]?with|none=>rfl|some t=>
   simp only;by_cases f:arg=0
   .subst f;simp;cases t.ps<;>simp
   rw[au f,au f];by_cases d:1<=arg/\arg<=(t.ps.length:Int)
   .rw[ar d,ar d,Option.map_map];rfl
   rw[au d,au d];rfl
 rw[au c,au c];rfl
def pU(a:Ar)(m:Mv):HM a m=fv a m:=by unfold HM fv cu lC;rw[Bv];cases di a m.id m.arg with|none=>simp|some c=>simp[nE]
def Db{a:Ar}{id arg:Int}{c:Bs×Bool}(h:di a id arg=some c):0<=id/\0<=arg/\(0<arg->0<id):=by
 unfold di at h
 split at h
 .rename_i h0;omega
 split at h
 .rename_i d
  split at h
  .cases h
  split at h
  .omega
  split at h
  .omega
  cases h
 cases h
def eY{a:Ar}{m:Mv}(h:fv a m=true):0<=m.id/\0<=m.arg/\(0<m.arg->0<m.id)/\(m.kind=1∨m.kind=2∨m.kind=3)/\(m.kind=3-> -1<=m.n):=by
 obtain⟨b,e,c⟩:=nD h;obtain⟨d,f,g⟩:=Db c;unfold fv cu lC at h;rw[c]at h;simp only[dK,pg,bX,bk,cP,dt]at h;refine⟨d,f,g,?_⟩;rcases h with(h|⟨k,_,h⟩)|(h|⟨k,_,h⟩)
 .rw[h];simp
 .rw[<-h];simp[C4]
 .split at h
  .simp at h;rw[h];simp
  cases h
 rw[<-h];simp[pf];try omega
def rR{a:Ar}{m:Mv}(h:fv a m=true):de m= !fD m:=by obtain⟨_,_,_,c,_⟩:=eY h;unfold de fD;rcases c with c|c|c<;>simp[c]
structure Bw(t:Tk)(x:Wk):Prop where
 e:t.x=x
 f:t.force=bf x.w
 has:∀m∈x.w,fv x.a m=true
 po:(x.op.length:Int)<=x.po
def J0{x:Wk}{q:Mv}(h:ie x=some q):q∈x.w:=by
 unfold ie at h
 split at h
 .cases h
 exact cG h
def Bw.can{t:Tk}{x:Wk}(h:Bw t x)(P:jl x){m:Mv}(z:fv x.a m=true):yY t m=fV x m:=by
 obtain⟨g,Z,force⟩:=t;obtain⟨rfl,Q,c,_⟩:=h;simp only at Q P z c ⊢;obtain⟨m1,m2,m3,m4,T⟩:=eY z;have r:=rR z;unfold yY fV;simp only[z,iI];by_cases u:g.w=[]
 .have cU:g.op=[]:=iJ (by have:=P.C6;rw[u]at this;simpa using this);have D:ie g=none:=by unfold ie;rw[cU];rfl
  rw[D,ar u,r];simp only[u,JT,eO,iI];by_cases h0:m.id=0
  .have:m.arg=0:=by omega
   simp[h0,this]
  simp[h0]
 rw[au u];cases D:ie g with
 |none=>simp[u]
 |some q=>
  obtain⟨q1,q2,V,q4,q5⟩:=eY (c q (J0 D));have X:fD m=true->cJ m=false->(m.n<=0↔m.n=0):=by
   simp only[fD,cJ,bX,zo];intro B j;have:=T B;have d:m.n≠ -1:=λd=>j ⟨B,d⟩
   omega
  simp only[r,<-Q];cases C:fD m
  .have E:kU q m=false:=by unfold kU;simp only[fD,zo]at C;simp[C]
   simp only[E,xQ,xT,cz,bn,bj];rw[E8 force];cases Y:(g.lost||force)
   .simp only[cz,bn,ve,BZ];by_cases B:0<q.id<;>by_cases j:q.arg=0<;>simp[B,j];rw[qf];simp;constructor
    .rintro⟨⟨H,d⟩,M⟩;exact⟨M,d⟩
    rintro⟨M,d⟩;exact⟨⟨by omega,d⟩,M⟩
   simp
  have O:m.kind=3:=by simpa[fD]using C
  have y:kU q m=(JT m q.id q.arg&&(decide (q.kind=1)||decide (m.n<=0))):=by unfold kU JT;rw[qf];simp[O,and_assoc]
  simp only[bj,nV,cz,bn,y];cases ha:JT m q.id q.arg
  .simp
  unfold MX;simp only[iI];rw[E8 force];cases Y:(g.lost||force)
  .simp only[cz,bn];cases p:cJ m
   .have:=X C p;simp only[cz,false_and,bn];rw[qf];simp[this]
   have f:m.n= -1:=by simp[cJ]at p;exact p.2
   simp only[f,true_and,bj,ve,BZ];by_cases j:q.arg=0
   .simp[j]
   have H:0<q.arg:=by omega
   have d:=V H;simp[j,H,d]
  simp only[bj];cases p:cJ m
  .simp
  have f:m.n= -1:=by simp[cJ]at p;exact p.2
  simp[f]
def jT(w:bc)(m:Mv):bf (w++[m])=(cJ m&&decide (0<m.arg)):=by unfold bf;simp
def Bw.step{t:Tk}{x:Wk}(h:Bw t x)(X:jl x){m:Mv}(u:fV x m=true):Bw (nG t m) (cy x m):=by
 have y:=pq u;have q:=rR y;obtain⟨Z,m2,P,m4,m5⟩:=eY y;obtain⟨c,fo,force⟩:=t;obtain⟨rfl,Q,g,j⟩:=h;simp only at Q g j y u X;have T:∀z∈c.w++[m],fv c.a z=true:=by
  intro z d;rcases cP.1 d with d|d
  .exact g z d
  simp at d;subst d;exact y
 cases r:fD m
 .have f:de m=true:=by rw[q,r];rfl
  have Y:=C7 r;have B:(if ve m then(0:Int)else if BZ m then Bm c else-1)=if 0<m.arg then((c.op.getLastD 0:Nat):Int)else if 0<m.id then 0 else-1:=by
   by_cases p:0<m.arg
   .have C:=P p;have D:¬m.arg=0:=by omega
    have cU:c.op≠ []:=by
     by_cases V:c.w=[]
     .have:=(fJ u V).1;omega
     exact j0 u V
    simp only[ve,BZ,p,C,D,eO,kJ,xR,jb,bj,cz,bn];unfold Bm;rcases mu c.op with E|⟨k,n,E⟩
    .exact absurd E cU
    rw[E];simp
   have H:m.arg=0:=by omega
   by_cases C:0<m.id<;>simp[ve,BZ,H,C]
  unfold nG cy;simp only[r,f,cz,bn,bj,B];refine⟨rfl,?_,T,?_⟩
  .simp only[jT,Y,xQ]
  simp only[cA,dx];omega
 have f:de m=false:=by rw[q,r];rfl
 have M:(c.lost||cJ m&&ve m&& !force)=(c.lost||cJ m&&decide (0<m.id)&&decide (m.arg=0)&& !bf c.w):=by rw[<-Q];unfold ve;simp only[A9]
 have O:max c.po (c.op.dropLast.length:Int)=c.po:=by rw[SS];omega
 unfold nG cy;simp only[r,f,cz,bn,bj,M,O];refine⟨rfl,?_,T,?_⟩
 .simp only[jT];unfold BZ;by_cases p:0<m.arg
  .simp[p,P p]
  simp[p]
 simp only[SS];omega
def Dc:∀(w:bc) (t:Tk) (x:Wk),Bw t x->jl x->x.w.length+w.length<=400->(gm t w).x=(cK x w).1/\(gm t w).x.w.length=x.w.length+(cK x w).2
 |[],t,x,h,_,_=>⟨h.e,by simp only[gm,cK,h.e,Nat.add_zero]⟩
 |m::r,t,x,h,g,u=>by
  simp only[az]at u;simp only[gm,cK,pU,h.e];by_cases j:fv x.a m=true
  .rw[j,h.can g j,iI];by_cases d:fV x m=true
   .rw[d];simp only[bj];have cU:de m=false->x.op≠ []:=λy=>by
     by_cases q:x.w=[]
     .have:=(fJ d q).2;rw[y]at this;cases this
     exact j0 d q
    have p:=Dc r (nG t m) (cy x m) (h.step g d) (g.take (by omega) cU) (by rw[rL];simp;omega);rw[rL,cA,dx]at p;exact⟨p.1,by rw[p.2];omega⟩
   have c:fV x m=false:=by simpa using d
   rw[c];exact⟨h.e,by simp[h.e]⟩
  have f:fv x.a m=false:=by simpa using j
  have c:fV x m=false:=by unfold fV;rw[f];rfl
  rw[f,c];exact⟨h.e,by simp[h.e]⟩
def Bw.zero(a:Ar):Bw (Bn a) (iP a):=⟨rfl,rfl,by simp[iP],by simp[iP]⟩
def pw(a:Ar)(ok:dW a)(w:bc):lE a w=(gl a w).2:=by
 unfold lE gl;by_cases c:aI a=0
 .by_cases d:w.length<=400
  .have h:=Dc w (Bn a) (iP a) (Bw.zero a) (jl.zero ok c) (by simp[iP];omega);have f:=h.2;rw[show(iP a).w.length=0 from rfl,bF]at f;rw[f];by_cases g:(cK (iP a) w).2<w.length<;>simp[c,d,g,show¬400<w.length by omega]
  rw[ar c,au d,au (by simp[c]),ar (by omega)]
 rw[au c,ar c]
def af6(w:bc)(c:aY):Prop:=∀i m,w[i]?=some m->0<m.id->¬(m.arg=0/\m.kind≠3)->∃(j:Nat) (q:Mv),c[i]?=some (j:Int)/\j<i/\w[j]?=some q/\q.id=m.id/\q.kind≠3
structure Inv(x:Wk):Prop where
 js:af6 x.w x.js
 op:∀n∈x.op,∃q,x.w[n]?=some q/\q.kind≠3
def Dd{α:Type}{l:List α}{y:α}{i:Nat}{z:α}(h:(l++[y])[i]?=some z):(i<l.length/\l[i]?=some z)∨(i=l.length/\z=y):=by
 rw[JM]at h
 split at h
 .rename_i c;exact .inl ⟨c,h⟩
 rename_i c;obtain⟨f,d⟩:=aS.1 h;simp only[dx]at f;have h0:i-l.length=0:=by omega
 simp[h0]at d;exact .inr ⟨by omega,d.symm⟩
def kX{α:Type}{l:List α}{y z:α}{i:Nat}(h:l[i]?=some z):(l++[y])[i]?=some z:=by rw[ea (aS.1 h).1];exact h
def Inv.step{x:Wk}(h:Inv x)(Y:jl x)(Z:∀m∈x.w,fv x.a m=true){m:Mv}(c:fV x m=true):Inv (cy x m):=by
 have M:=pq c;have D:=rR M;obtain⟨m1,m2,m3,m4,m5⟩:=eY M;have E:=Y.SC;have hold:∀(y:Int),∀i g,i<x.w.length->x.w[i]?=some g->0<g.id->¬(g.arg=0/\g.kind≠3)->∃(j:Nat) (q:Mv),(x.js++[y])[i]?=some (j:Int)/\j<i/\(x.w++[m])[j]?=some q/\q.id=g.id/\q.kind≠3:=by intro y i g O h1 H B;obtain⟨j,q,g1,g2,g3,g4,g5⟩:=h.js i g h1 H B;exact⟨j,q,kX g1,g2,kX g3,g4,g5⟩
 have u:x.op≠ []->∃n q,x.op.getLastD 0=n/\x.w[n]?=some q/\q.kind≠3/\ie x=some q/\n<x.w.length:=by
  intro ho;rcases mu x.op with f|⟨k,n,f⟩
  .exact absurd f ho
  obtain⟨q,C,p⟩:=h.op n (by rw[f];simp);exact⟨n,q,by rw[f];simp,C,p,by unfold ie;rw[f];simpa using C,Y.op n (by rw[f];simp)⟩
 cases p:fD m
 .have d:de m=true:=by rw[D,p];rfl
  have r:m.kind≠3:=by simpa[fD]using p
  unfold cy;rw[ar d];refine⟨?_,?_⟩
  .intro i g z H B;rcases Dd z with⟨O,z⟩|⟨rfl,rfl⟩
   .exact hold _ i g O z H B
   have ha:0<g.arg:=by
    have:g.arg≠0:=λh0=>B ⟨h0,r⟩
    omega
   have t:x.w≠ []:=λt=>by have:=(fJ c t).1;omega
   obtain⟨n,q,P,Q,T,V,X⟩:=u (j0 c t);refine⟨n,q,?_,X,kX Q,?_,T⟩
   .simp only[ar ha,P];rw[iG (by omega),E];simp
   unfold fV at c;rw[au t,V,M]at c;simp only[iI]at c
   split at c
   .simp[kU,r]at c
   split at c
   .simp at c;exact c.1.symm
   simp at c;omega
  intro n f;rcases cP.1 f with f|f
  .obtain⟨q,C,p⟩:=h.op n f;exact⟨q,kX C,p⟩
  simp at f;subst f;exact⟨m,by simp,r⟩
 have d:de m=false:=by rw[D,p];rfl
 have r:m.kind=3:=by simpa[fD]using p
 have t:x.w≠ []:=λt=>by have:=(fJ c t).2;rw[d]at this;cases this
 obtain⟨n,q,P,Q,T,V,X⟩:=u (j0 c t);have hid:q.id=m.id:=by
  unfold fV at c;rw[au t,V,M]at c;simp only[iI,d,cz,bn]at c
  split at c
  .simp[kU]at c;exact c.1.1.symm
  split at c
  .simp[kU]at c;exact c.1.1.1.symm
  simp[kU]at c;exact c.1.symm
 unfold cy;rw[d];simp only[cz,bn];refine⟨?_,?_⟩
 .intro i g z H B;rcases Dd z with⟨O,z⟩|⟨rfl,rfl⟩
  .exact hold _ i g O z H B
  refine⟨n,q,?_,X,kX Q,hid,T⟩;rw[P];simp only;rw[iG (by omega),E];simp
 intro k f;obtain⟨q,C,p⟩:=h.op k ((xN _).subset f);exact⟨q,kX C,p⟩
def SU(a:Ar)(id:Int):Ar:=match a.ids[(id-1).toNat]?with|none=>⟨[],⟨false,0⟩,false⟩|some t=>⟨t.ps.map (λb=>⟨[],b⟩),t.res,a.jumps|| !t.ps.isEmpty⟩
def zO:∀(v:bc) (x y:Wk) (m:Mv),cK x v=(y,v.length)->fV y m=true->cK x (v++[m])=(cy y m,v.length+1)
 |[],x,y,m,h,c=>by simp only[cK,lx]at h;obtain⟨rfl,_⟩:=h;simp[cK,c]
 |n::v,x,y,m,h,c=>by
  simp only[cK,az]at h;by_cases d:fV x n=true
  .rw[ar d,lx]at h;have f:=zO v (cy x n) y m (by rw[<-h.1];exact Prod.ext rfl (by have:=h.2;simp only;omega)) c;simp only[bx,cK,ar d,f,az]
  rw[au d,lx]at h;omega
def J1(a:Ar)(v:bc)(y:Wk):Prop:=cK (iP a) v=(y,v.length)
def J1.snoc{a:Ar}{v:bc}{y:Wk}{m:Mv}(h:J1 a v y)(c:fV y m=true):J1 a (v++[m]) (cy y m):=by unfold J1;rw[zO v _ y m h c];simp
def J1.nil(a:Ar):J1 a [] (iP a):=rfl
def J2:∀(v:bc) (x:Wk),(cK x v).1.w=x.w++v.take (cK x v).2/\(cK x v).1.a=x.a
 |[],x=>by simp[cK]
 |m::r,x=>by
  rw[cK]
  split
  .obtain⟨c,d⟩:=J2 r (cy x m);rw[rL]at c;rw[vd]at d;simp[c,d]
  simp
def J1.w{a:Ar}{v:bc}{y:Wk}(h:J1 a v y):y.w=v/\y.a=a:=by obtain⟨c,d⟩:=J2 v (iP a);rw[h]at c d;simpa[iP]using And.intro c d
def uE{W:bc}{i:Nat}(d:i<=W.length):bf (W.take i)=rM W i:=by
 cases i with
 |zero=>rfl
 |succ j=>
  have c:j<W.length:=by omega
  rw[fC c,jT];simp[rM,aR c]
section
variable(a:Ar)(id:Int)(W:bc)
def jm(cs:eh)(k q:Nat)(y:Wk):Prop:=∃c,cs[k]?=some c/\c.head?=some q/\J1 (SU a id) (jr W c) y
def InP(y:Wk)(c d:Mv):Prop:=∃j,y.op=[0,j]/\y.w[0]?=some (qK c)/\y.w[j]?=some (qK d)/\y.lost=false
def InQ(y:Wk)(c:Mv)(f:Bool):Prop:=y.op=[0]/\y.w[0]?=some (qK c)/\y.lost=f
def Nb(of:aY)(cs:eh)(f:Nat×Nat):Prop:=∃c d,W[f.1]?=some c/\W[f.2]?=some d/\d.id=c.id/\0<c.id/\c.arg=0/\0<d.arg/\
 (c.id=id->∃(k:Nat) (y:Wk),of[f.1]?=some (k:Int)/\of[f.2]?=some (k:Int)/\jm a id W cs k f.1 y/\InP y c d)
def Yx(of:aY)(cs:eh)(d:Bool)(q:Nat):Prop:=∃c,W[q]?=some c/\0<c.id/\c.arg=0/\
 (c.id=id->∃(k:Nat) (y:Wk),of[q]?=some (k:Int)/\jm a id W cs k q y/\InQ y c d)
def af7(F:List (Nat×Nat))(t:bE):ay:=0::F.flatMap (λf=>[f.1,f.2])++t.toList
structure PI(x:Wk)(of:aY)(cs:eh)(F:List (Nat×Nat))(t:bE):Prop where
 op:x.op=af7 F t
 srt:x.op.Pairwise (· < ·)
 root:∃m,W[0]?=some m/\m.id=0
 fr:∀f∈F,Nb a id W of cs f
 top:∀q,t=some q->Yx a id W of cs (bf x.w) q
def E9(cs:eh):Prop:=∀c∈cs,c≠ []/\∃y,J1 (SU a id) (jr W c) y
end
section
variable{a:Ar}{id:Int}{W:bc}
def Bx(c:ay)(i:Nat){m:Mv}(d:W[i]?=some m):jr W (c++[i])=jr W c++[qK m]:=by unfold jr;rw[fB,List.map_singleton,eD,d];rfl
def jm.snoc{cs:eh}{k q:Nat}{y:Wk}(h:jm a id W cs k q y)(d:ay):jm a id W (cs++[d]) k q y:=by obtain⟨c,f,g⟩:=h;exact⟨c,kX f,g⟩
def jm.take{cs:eh}{k q i:Nat}{y:Wk}{m:Mv}(h:jm a id W cs k q y)(g:W[i]?=some m)(j:fV y (qK m)=true):jm a id W (cs.set k (cs.getD k []++[i])) k q (cy y (qK m)):=by
 obtain⟨c,d,f,p⟩:=h;have r:=(aS.1 d).1;refine⟨c++[i],?_,?_,?_⟩
 .rw[gn r,eD,d];rfl
 .cases c with
  |nil=>cases f
  |cons=>exact f
 rw[Bx c i g];exact p.snoc j
def E9.set{cs:eh}(h:E9 a id W cs){k q:Nat}{y:Wk}{g:ay}(p:jm a id W (cs.set k g) k q y):E9 a id W (cs.set k g):=by
 obtain⟨c,f,j,r⟩:=p;have t:k<cs.length:=by have:=(aS.1 f).1;simpa using this
 rw[gn t]at f;cases f;intro u d;rcases xH d with d|rfl
 .exact h u d
 refine⟨?_,y,r⟩;intro h0;rw[h0]at j;cases j
def Nb.mono{of c:aY}{cs d:eh}{f:Nat×Nat}(h:Nb a id W of cs f)(g:∀(n:Nat) (k:Int),of[n]?=some k->c[n]?=some k)(j:∀k y,jm a id W cs k f.1 y->jm a id W d k f.1 y):Nb a id W c d f:=by obtain⟨p,q,r,t,u,z,B,C,D⟩:=h;refine⟨p,q,r,t,u,z,B,C,λhid=>?_⟩;obtain⟨k,y,E,H,M,O⟩:=D hid;exact⟨k,y,g _ _ E,g _ _ H,j _ _ M,O⟩
end
def SV{a:Ar}{v:bc}{y:Wk}(h:J1 a v y)(c:∀m∈v,m.arg=0):bf y.w=false:=by rw[h.w.1];unfold bf;cases d:v.getLast? with|none=>rfl|some m=>simp[c m (J3 d)]
def De(W:bc)(c:ay):∀m∈jr W c,m.arg=0:=by intro m d;unfold jr at d;obtain⟨i,_,rfl⟩:=dt.1 d;rfl
section
variable{a:Ar}{id:Int}{W:bc}
def jm.lf{cs:eh}{k q:Nat}{y:Wk}(h:jm a id W cs k q y):bf y.w=false/\y.a=SU a id/\y.w≠ []:=by
 obtain⟨c,g,f,d⟩:=h;refine⟨SV d (De W c),d.w.2,?_⟩;rw[d.w.1];cases c with
 |nil=>cases f
 |cons x l=>simp[jr]
def J4{x:Wk}{m t:Mv}(c:fV x m=true)(f:x.w≠ [])(g:ie x=some t)(j:de m=false):kU t m=true/\((x.lost||bf x.w)=true->cJ m=true):=by
 unfold fV at c;rw[au f,g]at c;simp only[j,aL]at c;obtain⟨_,c⟩:=c
 split at c
 .rename_i d;simp at c;exact⟨c.1,λ_=>c.2⟩
 rename_i d;refine⟨?_,λh=>absurd h d⟩
 split at c
 .rename_i h;exact absurd h (by simp)
 split at c
 .simp at c;exact c.1.1
 exact c
def HP{x:Wk}{m t:Mv}(c:fV x m=true)(g:x.w≠ [])(j:ie x=some t)(f:de m=true):bf x.w=false/\(if 0<t.id/\t.arg=0 then m.id=t.id/\0<m.arg else 0<m.id/\m.arg=0):=by
 unfold fV at c;rw[au g,j]at c;simp only[f,aL,bj]at c;obtain⟨_,c⟩:=c
 split at c
 .rename_i d;simp[kU,cJ]at c;simp[de]at f;omega
 rename_i d;refine⟨by cases h:bf x.w;rfl;rw[h]at d;simp at d,?_⟩
 split at c
 .rename_i h;rw[ar h];simpa using c
 rename_i h;rw[au h];simpa using c
end
structure DN(a:Ar)(id:Int)(W:bc)(J:aY)(x:Wk)(i:Nat)(m:Mv):Prop where
 id1:1<=id
 id2:id<=a.ids.length
 ok:jl x
 xa:x.a=a
 xw:x.w=W.take i
 hm:W[i]?=some m
 can:fV x m=true
 js:J[i]?=(cy x m).js[i]?
section
variable{a:Ar}{id:Int}{W:bc}{J:aY}{x:Wk}{i:Nat}{m:Mv}
def DN.len(h:DN a id W J x i m):x.w.length=i:=by have:=(aS.1 h.hm).1;rw[h.xw,oA];omega
def DN.lk(h:DN a id W J x i m){n:Nat}(c:n<i):x.w[n]?=W[n]?:=by rw[h.xw,rh c]
def DN.has(h:DN a id W J x i m):fv a m=true:=by rw[<-h.xa];exact pq h.can
def DN.opi(h:DN a id W J x i m){n:Nat}(c:n∈x.op):n<i:=by rw[<-h.len];exact h.ok.op n c
def DN.lf(h:DN a id W J x i m):bf x.w=rM W i:=by rw[h.xw];exact uE (by have:=(aS.1 h.hm).1;omega)
def DN.top(h:DN a id W J x i m){r:ay}{n:Nat}(c:x.op=r++[n]):ie x=W[n]?:=by unfold ie;rw[c];simp only[List.getLast?_append,List.getLast?_singleton,Option.some_or];exact h.lk (h.opi (by rw[c];simp))
def DN.push(h:DN a id W J x i m)(c:de m=true)(d:x.op.Pairwise (· < ·)):(cy x m).op=x.op++[i]/\(cy x m).op.Pairwise (· < ·):=by
 have e:(cy x m).op=x.op++[i]:=by unfold cy;rw[ar c];simp only[h.len]
 refine⟨e,?_⟩;rw[e,List.pairwise_append];exact⟨d,by simp,λn f k c=>by simp at c;subst c;exact h.opi f⟩
def DN.pop(h:DN a id W J x i m)(c:de m=false)(d:x.op.Pairwise (· < ·)){r:ay}{n:Nat}(f:x.op=r++[n]):(cy x m).op=r/\(cy x m).op.Pairwise (· < ·):=by
 have e:(cy x m).op=x.op.dropLast:=by unfold cy;rw[c];rfl
 rw[e];exact⟨by rw[f];simp,d.sublist (xN _)⟩
def Nc(c:de m=true):m.kind≠3:=by simp[de]at c;omega
end
section
variable{a:Ar}{id:Int}{W:bc}{J:aY}
end
structure Fb(y:Wk):Prop where
 q0:y.op≠ []->y.op.head?=some 0
 r0:∀m,y.w[0]?=some m->m.id=0
 on:∀n∈y.op.tail,∀m,y.w[n]?=some m->0<m.id
 ne:y.w≠ []->(y.op=[]↔∃m,y.w.getLast?=some m/\m.id=0/\m.kind=3)
 bd:∀n∈y.op,n<y.w.length
def Fb.step{y:Wk}(h:Fb y)(Q:y.w=[]->y.op=[]){m:Mv}(E:fV y m=true)(T:fv y.a m=true):Fb (cy y m):=by
 have H:=rR T;by_cases f:y.w=[]
 .have cU:=Q f;obtain⟨V,P⟩:=fJ E f;have j:=Nc P;unfold cy;rw[ar P];refine⟨λ_=>by simp[cU,f],?_,?_,?_,?_⟩
  .intro p d;simp[f]at d;rw[<-d];exact V
  .intro n B;simp[cU,f]at B
  .intro _;simp[cU,f,j]
  intro n B;simp[cU,f]at B;subst B;simp[f]
 have cU:=j0 E f;obtain⟨r,n,u⟩:∃r n,y.op=r++[n]:=by
  rcases mu y.op with h0|⟨r,n,h0⟩
  .exact absurd h0 cU
  exact⟨r,n,by rw[h0];simp⟩
 have hlen:0<y.w.length:=xK.2 f;have B:n<y.w.length:=h.bd n (by rw[u];simp);obtain⟨t,M⟩:∃t,y.w[n]?=some t:=⟨_,aR B⟩;have q:ie y=some t:=by unfold ie;rw[u];simpa using M
 have g:(y.w++[m]).getLast?=some m:=by simp
 cases j:de m
 .have O:m.kind=3:=by rw[H]at j;simpa[fD]using j
  have X:=(J4 E f q j).1;simp only[kU,bX]at X;unfold cy;rw[j];simp only[cz,bn];refine⟨?_,?_,?_,?_,?_⟩
  .intro C;have:=h.q0 cU;rw[u]at this C ⊢;cases r with|nil=>simp at C|cons b r=>rw[J5];simpa using this
  .intro p d;rw[ea hlen]at d;exact h.r0 p d
  .intro k c p d;have D:k∈y.op.tail:=by rw[u]at c ⊢;simp only[J5]at c;rw[SW (by rintro rfl;cases c)];simp[c]
   have z:=h.bd k (SX D);rw[ea z]at d;exact h.on k D p d
  .intro _;simp only[g,bL,exists_eq_left'];rw[u];simp only[J5];constructor
   .rintro rfl
    have:=h.q0 cU;rw[u]at this;simp at this;subst this;have:=h.r0 t M;exact⟨by omega,O⟩
   rintro⟨Y,_⟩
   cases r with|nil=>rfl|cons b r=>have:=h.on n (by rw[u];simp) t M;omega
  intro k c;have:=h.bd k ((xN _).subset c);simp;omega
 obtain⟨_,Z⟩:=HP E f q j;have hid:0<m.id:=by split at Z<;>omega
 unfold cy;rw[ar j];refine⟨?_,?_,?_,?_,?_⟩
 .intro _;have:=h.q0 cU;rw[List.head?_append,this];rfl
 .intro p d;rw[ea hlen]at d;exact h.r0 p d
 .intro k c p d;simp only at c d;rw[SW cU]at c;rcases cP.1 c with c|c
  .have z:=h.bd k (SX c);rw[ea z]at d;exact h.on k c p d
  simp at c;subst c;simp at d;rw[<-d];exact hid
 .intro _;simp only[g,bL,exists_eq_left'];constructor
  .intro h';simp at h'
  rintro⟨Y,_⟩;omega
 intro k c;simp only[cP,dq]at c;simp only[cA,dx];rcases c with c|rfl
 .have:=h.bd k c;omega
 omega
def Gh:∀(v:bc) (x:Wk),jl x->x.w.length+v.length<=400->jl (cK x v).1
 |[],x,c,_=>c
 |m::r,x,c,g=>by
  rw[cK];simp only[az]at g
  split
  .rename_i d;have cU:de m=false->x.op≠ []:=λh=>by
    by_cases f:x.w=[]
    .have:=(fJ d f).2;rw[h]at this;cases this
    exact j0 d f
   exact Gh r _ (c.take (by omega) cU) (by rw[rL];simp;omega)
  exact c
def px(x:Wk):Int:=if x.w=[]then 1 else match ie x with|none=>3|some t=>if 0<t.id/\t.arg=0 then 1 else 2
def w64(x:Wk)(q:jl x)(s:HS):R (.call 37 [.aw x.c] s)=.val (.int .u8 (px x)) s:=by
 refine q64 ?_;have d:=w95 x q;simp only[Wk.c]at d;unfold px;cases j:ie x with
 |none=>
  rw[j]at d;simp only[EW]at d;by_cases f:x.w=[]
  .rw[f]at d;simp only[mZ]at d;simp[U.PJ,d,f,aa,s0,ai,an]
  have g:¬x.w.length=0:=by simpa using f
  simp[U.PJ,d,f,g,aa,s0,ai,an]
 |some t=>
  rw[j]at d;obtain⟨r,u,y,z⟩:=t;simp only[EW,Mv.c]at d;by_cases f:x.w=[]
  .rw[f]at d;simp only[mZ]at d;simp[U.PJ,d,f,aa,s0,ai,an]
  have g:¬x.w.length=0:=by simpa using f
  by_cases h:0<r
  .by_cases p:u=0
   .subst p;simp[U.PJ,d,f,g,h,aa,s0,ai,an]
   simp[U.PJ,d,f,g,h,p,aa,s0,ai,an]
  simp[U.PJ,d,f,g,h,aa,s0,ai,an]
def w25(a:Ar)(ok:dW a)(w:bc)(s:HS):R (.call 5 [.agg a.c,.psl (w.map Mv.c)] s)=.val (.bool (decide (w.length<=40/\(gl a w).2=0))) s:=by
 refine q25 ?_;have f:=w61 a ok w;simp only[Ar.c,iV]at f;by_cases g:(40:Int)<w.length
 .have d:¬w.length<=40:=by omega
  simp[U.b25,g,d,aa]
 have d:w.length<=40:=by omega
 by_cases h:(gl a w).2=0<;>simp[U.b25,f,g,d,h,aa]
def nA.flat{s:HS}{n:Nat}{α:Type}{f g:α->aj}:∀{l:List α},(∀x∈l,nA s n (f x) (g x))->nA s n (aB (l.map f)) (aB (l.map g))
 |[],_=>.nil
 |x::_,h=>(h x dm).append (nA.flat λy c=>h y (cS _ c))
abbrev S27:HS:={h:=.nd (some (.cells (cM [.int .u8 0,.ah,.bool false,.bool false]) 0 4 .e)) (.nd (some (.cells (cM []) 0 0 (.z .e))) .lf .lf) .lf,nx:=.o .e,gr:=.nd (some [.e]) (.nd (some [.z .e]) .lf .lf) .lf,ty:=.lf}
def Yy:ck S27 (.sl (.z .e) 0 0 1) 1 (λk=>k=.z .e) []:=by refine⟨Sz.nil,λk c=>by subst c;decide,.inr ⟨.z .e,cM [],0,.z .e,[],rfl,rfl,by simp,λj d=>by simp at d,rfl,by simp,by simp,rfl⟩⟩
def w27(a:Ar)(ok:dW a)(w:bc)(E:(gl a w).2=0)(H:aI a=0)(s:HS):
  R (.call 13 [.agg a.c,.psl (w.map Mv.c)] s)=.val (.bM [.agg [.int .u8 (px (cK (iP a) w).1),.psl ((cK (iP a) w).1.op.map nC),.bool (bf (cK (iP a) w).1.w),.bool (cK (iP a) w).1.lost],iV 0]) s:=by
 refine q27 ?_;have V:=HL H E;have t:=w63 a ok w;have u:=Gh w (iP a) (jl.zero ok H) (by simp[iP];omega);unfold Bi at t;rw[E,ar rfl]at t;generalize(cK (iP a) w).1=x at*;have g:=w64 x u;have h:=w65 x u;simp only[Ar.c,Wk.c,iV]at t g h;have O:=u.C6;have P:=u.len;obtain⟨M,s',X,Q,z,B,C,T⟩:=Yy.copy (aq:=x.op.map nC) (Sz.map (f:=nC) (λx=>rfl) _) (bw:=17592186044416) (by simp;omega);have j:gJ S27 .e [.int .u8 0,.ah,.bool false,.bool false]:=⟨rfl,rfl,by decide⟩;obtain⟨s2,D,d,p,_⟩:=(j.frame B (λe=>by cases e)).put (v:=.agg [.int .u8 (px x),M,.bool (bf x.w),.bool x.lost]) rfl rfl;have q:=d.load;have r:=z.frame p (λk y e=>by subst e;rcases T _ y with y|y<;>cases y);have D:pR 4 (some (.ptr .e 0)) (some (.agg [.int .u8 (px x),M,.bool (bf x.w),.bool x.lost])) s'=.v .undef s2:=D;simp only[az,aE]at q;simp[U.b27,s0,t,g,h,Q,C,-iO,D,q];exact aH (.bM (.cons (.agg (.cons (.data (by simp)) (.cons (r.vw (by simp)) (.data (by simp))))) (.data (by simp))))
def af8(w:bc)(id:Int)(j:Nat):Bool:=match w[j]?with|none=>false|some m=>decide (m.id=id)&& !(decide (m.arg=0)&&cJ m&& !rM w j)
def count_set:∀(cs:eh) (k i j:Nat),k<cs.length->((cs.set k (cs.getD k []++[i])).flatten).count j=cs.flatten.count j+ [i].count j
 |[],k,i,j,h=>by simp at h
 |c::r,0,i,j,h=>by simp only[aQ,List.getD_cons_zero,SY,SZ];omega
 |c::r,k+1,i,j,h=>by have:=count_set r k i j (by simpa using h);simp only[cd,List.getD_cons_succ,SY,SZ,this];omega
structure ahK(inn:Ar)(id:Int)(w:bc)(l:eh):Prop where
 ne:∀c∈l,c≠ []
 bd:∀c∈l,∀n∈c,n<w.length
 srt:∀c∈l,c.Pairwise (· < ·)
 len:l.length<=400
 cl:∀c∈l,c.length<=40
 leg:∀c∈l,(gl inn (jr w c)).2=0
 over:∀c∈l,∀m,(c.getLast?.bind λn=>w[n]?)=some m->(px (cK (iP inn) (jr w c)).1=3↔m.arg=0/\m.kind=3)
 dP:∀j,j<w.length->l.flatten.count j=if af8 w id j=true then 1 else 0
section
variable{s:HS}{e:En}
def S5(sz bw:Nat)(z:aj)(l c:bO)(s:HS):cR:=match l,c with|some (.int _ (.ofNat n)),some (.int _ (.ofNat m))=>bif Nat.ble n m&&Nat.ble m bw then s.new (lW z n) (λo=>.sl o 0 n sz)else .bad|_,_=>.bad
@[simp]def aaW{sz bw:Nat}{z:aj}{l c:X}:cU (.mks sz bw z l c) e s=S5 sz bw z (bp l e) (bp c e) s:=rfl
def xU(z:HV)(n:Nat):lW [z] n=List.replicate n z:=by induction n with|zero=>rfl|succ n c=>rw[lW,c,List.replicate_succ];rfl
def lH{n bw:Nat}(g:n<=bw)(z:HV):∃s',S5 1 bw [z] (some (.int .i64 (n:Int))) (some (.int .i64 (n:Int))) s=.v (.sl s.nx 0 n 1) s'/\ck s' (.sl s.nx 0 n 1) 1 (λk=>k=s.nx) (List.replicate n [z])/\cX (λ_=>False) s s':=by
 refine⟨{h:=ax (some (.cells (cY (lW [z] n) 0 .lf) 0 (aM (lW [z] n)) s.nx)) s.nx s.h,nx:=s.nx.succ,gr:=ax (some [s.nx]) s.nx s.gr,ty:=s.ty},?_,?_,cX.alloc _ _⟩
 .show(bif Nat.ble n n&&Nat.ble n bw then s.new (lW [z] n) (λo=>.sl o 0 n 1)else .bad)=_;rw[bZ,bZ];simp[g];rfl
 have p:=Ky.aV s.nx;refine⟨λr d=>by rw[zP d];rfl,λk q=>by subst q;simp only;omega,.inr ⟨s.nx,cY (lW [z] n) 0 .lf,aM (lW [z] n),s.nx,[],?_,?_,?_,?_,?_,by simp,by simp,rfl⟩⟩
 .simp
 .simp only;rw[af,ar rfl]
 .rw[bB,xU];simp
 .intro j c;simp only[By,iu]at c;rw[fj,xU];simp only[fm,true_and,bF,By,c,bj,Nat.sub_zero];have f:=gz (aq:=List.replicate n [z]) (sz:=1) (λr d=>by rw[zP d];rfl) j 0 (by simpa using c) (by omega);rw[iu,Nat.add_zero]at f;rw[f];simp[c]
 simp only;rw[af,ar rfl]
end
section
variable{inn:Ar}{id:Int}{w:bc}{l:eh}
end
def dR.single{s:HS}{v:HV}{sz:Nat}{F:bU}{aq:aO}(h:ck s v sz F aq):∃av,dR s av [(v,sz,aq)]:=by
 classical
 refine⟨λk=>if F k then some 0 else none,λk i c=>?_,λk i c=>?_,λi p j g f=>?_⟩
 .split at c
  .rename_i d;exact h.2.1 k d
  cases c
 .split at c
  .cases c;simp
  cases c
 have:i=0:=by have:=(aS.1 f).1;simp at this;exact this
 subst this;simp only[xS,bL,lx]at f;obtain⟨rfl,rfl,rfl⟩:=f;refine h.mono (λk c=>by simp[c]) (λk c=>?_);by_cases d:F k
 .exact h.2.1 k d
 simp[d]at c
def vh{s:HS}{o:Ky}{F:bU}{u:aY}{n:Nat}(h:ck s (.sl o 0 n 1) 1 F (u.map iC)){i:Nat}{b:Int}(c:u[i]?=some b):eG (ak s.h o) i=some (iV b):=by obtain⟨d,f⟩:=aS.1 c;rw[h.cell i (by simpa using d)];simp[f]
section
variable{x:Fa}{aU:cb}
def Yz(hx:cf x)(hu:aU.length=x.nx.length){e:En}{s:HS}{o:Out}{v:HV}{of:aY}{av:aZ}(u:bH e [(1,.psl (aU.map bC)),(2,.aw x.c),(5,v),(6,iV 0)])(E:dR s av [(v,1,of.map iC)])(q:of.length=x.nx.length)(ho:bJ R (.loop U.oU) e s=o):
  ∃(e':En) (s':HS) (d:aY) (g:aZ),o=.code (.exit 0) e' s'/\bH e' [(1,.psl (aU.map bC)),(2,.aw x.c),(5,v)]/\dR s' g [(v,1,d.map iC)]/\d.length=x.nx.length/\((∀j,j<x.nx.length->of[j]?=some 0)->∀j,j<x.nx.length->d[j]?=some (JZ x aU j)):=by
 have hn:=hx.n;refine ba ho x.nx.length
  (λi e s=>∃(d:aY) (g:aZ),bH e [(1,.psl (aU.map bC)),(2,.aw x.c),(5,v),(6,iV i)]/\dR s g [(v,1,d.map iC)]/\d.length=x.nx.length/\((∀j,j<x.nx.length->of[j]?=some 0)->(∀j,j<i->d[j]?=some (JZ x aU j))/\∀j,i<=j->j<x.nx.length->d[j]?=some 0))
  (λo=>∃(e':En) (s':HS) (d:aY) (g:aZ),o=.code (.exit 0) e' s'/\bH e' [(1,.psl (aU.map bC)),(2,.aw x.c),(5,v)]/\dR s' g [(v,1,d.map iC)]/\d.length=x.nx.length/\((∀j,j<x.nx.length->of[j]?=some 0)->∀j,j<x.nx.length->d[j]?=some (JZ x aU j)))
  0 (by omega) ⟨of,av,u,E,q,λh=>⟨λj D=>by omega,λj _ D=>h j D⟩⟩
  (λi e s r P ⟨d,g,u,E,q,Y⟩ z=>by
   have H:(i:Int)<x.nx.length:=by omega
   have B:i<aU.length:=by omega
   have C:i<x.fi.length:=by have:=hx.nf;omega
   obtain⟨ob,rfl⟩:=(E.own 0 _ _ _ rfl).gw (by intro h0;have:=cC List.length h0;rw[bG]at this;simp only[aE]at this;omega);have hlen:(d.map iC).length=x.nx.length:=by rw[bG];exact q
   have Z:=bo (n:=400) (show i<400 by omega) (by omega);have f:JZ x aU i=if x.fi[i]then 2 else if aU[i]then 1 else 0:=by unfold JZ;rw[gW C,gW B]
   have y:∀(c:Int),JZ x aU i=c->∀(V:aY),V.length=x.nx.length->(∀j,j≠i->V[j]?=d[j]?)->V[i]?=some c->((∀j,j<x.nx.length->of[j]?=some 0)->(∀j,j<i+1->V[j]?=some (JZ x aU j))/\∀j,i+1<=j->j<x.nx.length->V[j]?=some 0):=by
    intro c hc V _ h1 h2 h0;obtain⟨p1,p2⟩:=Y h0;refine⟨λj D=>?_,λj h4 h3=>?_⟩
    .by_cases X:j=i
     .subst X;rw[h2,hc]
     rw[h1 j X];exact p1 j (by omega)
    rw[h1 j (by omega)];exact p2 j (by omega) h3
   obtain⟨o1,s1,a1,b1,M⟩:=E.iY 0 rfl i (by rw[hlen];exact P) (x:=iV 1) rfl;obtain⟨o2,s2,a2,b2,Q⟩:=E.iY 0 rfl i (by rw[hlen];exact P) (x:=iV 2) rfl;simp only[aQ]at M Q;obtain⟨o3,s3,a3,b3,O⟩:=M.iY 0 rfl i (by rw[jc,hlen];exact P) (x:=iV 2) rfl;simp only[aQ]at O;rw[hlen]at a1 a2 a3 u;simp[P]at a1 a2 a3;subst a1;subst a2;subst a3;simp only[iu]at b1 b2 b3;simp only[ab,ae]at u;rw[show List.set (d.map iC) i [iV 1]=(d.set i 1).map iC by rw[mA]]at M O;rw[show List.set (d.map iC) i [iV 2]=(d.set i 2).map iC by rw[mA]]at Q;rw[show List.set ((d.set i 1).map iC) i [iV 2]=((d.set i 1).set i 2).map iC by simp only[mA]]at O;cases t:aU[i]
   .cases p:x.fi[i]
    .rw[t,p]at f;simp[U.oU,u,H,B,C,t,p,Z]at z;subst z;refine .inl ⟨_,_,rfl,d,_,by simp[u,q],E,q,λh0=>?_⟩;obtain⟨p1,p2⟩:=Y h0;exact y 0 (by simpa using f) d q (λ_ _=>rfl) (p2 i (aW _) P) h0
    rw[t,p]at f;simp[U.oU,u,P,H,B,C,t,p,Z,b2]at z;subst z;exact .inl ⟨_,_,rfl,_,_,by simp[u,q],Q,by simp[q],y 2 (by simpa using f) _ (by simp[q]) (λj D=>jd (jQ D)) (gn (by omega))⟩
   cases p:x.fi[i]
   .rw[t,p]at f;simp[U.oU,u,P,H,B,C,t,p,Z,b1]at z;subst z;exact .inl ⟨_,_,rfl,_,_,by simp[u,q],M,by simp[q],y 1 (by simpa using f) _ (by simp[q]) (λj D=>jd (jQ D)) (gn (by omega))⟩
   rw[t,p]at f;simp[U.oU,u,P,H,B,C,t,p,Z,b1,b3]at z;subst z;exact .inl ⟨_,_,rfl,_,_,by simp[u,q],O,by simp[q],y 2 (by simpa using f) _ (by simp[q]) (λj D=>by rw[jd (jQ D),jd (jQ D)]) (gn (by simp;omega))⟩)
  (λe s r ⟨d,g,u,E,q,Y⟩ z=>by
   have T:=E.len 0 rfl;simp only[bG]at T;rw[q]at T;simp only[ab,ae]at u;simp[U.oU,u,T]at z;subst z;exact⟨by simp,_,_,d,_,rfl,by simp[u],E,q,λh=>(Y h).1⟩)
def YA(T:cf x)(V:aU.length=x.nx.length){of nt:aY}(X:of.length=x.nx.length){fs:ay}(Y:fs.length<=400)(B:∀k,(h:k<fs.length)->fs[k]<x.nx.length){i:Nat}(Z:i<x.nx.length){e:En}{s:HS}{o:Out}{v5 v7 v8 v9:HV}{av:aZ}
  (d:bH e [(1,.psl (aU.map bC)),(2,.aw x.c),(5,v5),(7,v7),(8,v8),(9,v9),(10,iV i),(11,iV 0)])(C:dR s av [(v5,1,of.map iC),(v8,1,nt.map iC),(v9,1,fs.map nC)])(ho:bJ R (.loop U.sN) e s=o):
  ∃(e':En) (k:Nat),o=.code (.exit 6) e' s/\bH e' [(1,.psl (aU.map bC)),(2,.aw x.c),(5,v5),(7,v7),(8,v8),(9,v9),(10,iV i),(11,iV k)]/\k<=fs.length/\(∀j,(h:j<fs.length)->j<k->eX x of aU fs[j] i=false)/\(∀h:k<fs.length,eX x of aU fs[k] i=true):=by
 have M:=C.own 0 _ _ _ rfl;have O:=C.own 2 _ _ _ rfl;obtain⟨z,P⟩:=M.gw (by intro h0;have:=cC List.length h0;rw[bG]at this;simp only[aE]at this;omega);rw[bG]at P;subst P;have f:=C.len 2 rfl s;rw[bG]at f;have hq:=jJ ho fs.length (λk=>∀h:k<fs.length,eX x of aU fs[k] i=false)
  (λk=>[(1,.psl (aU.map bC)),(2,.aw x.c),(5,.sl z 0 of.length 1),(7,v7),(8,v8),(9,v9),(10,iV i),(11,iV k)])
  [(1,.psl (aU.map bC)),(2,.aw x.c),(5,.sl z 0 of.length 1),(7,v7),(8,v8),(9,v9),(10,iV i),(11,iV fs.length)] 6
  (λk o=>∃e',o=.code (.exit 6) e' s/\bH e' [(1,.psl (aU.map bC)),(2,.aw x.c),(5,.sl z 0 of.length 1),(7,v7),(8,v8),(9,v9),(10,iV i),(11,iV k)]) d
  (λk e r t d p=>by
   have u:(k:Int)<fs.length:=by omega
   obtain⟨o9,Q⟩:=O.gw (by intro h0;have:=cC List.length h0;rw[bG]at this;simp only[aE]at this;omega);rw[bG]at Q;subst Q;have D:=O.cell k (by simpa using t);simp at D;have g:∀b,eX x of aU fs[k] i=b->R (.call 120 [.agg x.c,.sl z 0 of.length 1,.psl (aU.map bC),iV fs[k],iV i] s)=.val (.bool b) s:=by intro b hb;refine ad4 (l:=[.agg x.c,.psl (of.map iC),.psl (aU.map bC),iV fs[k],iV i]) ?_ (.cons (.data (by simp)) (.cons (M.vw (by simp)) (.data (by simp)))) (by simp) rfl (λs=>by rw[af3 x T of X aU V _ _ (B k t) Z,hb]);rw[cj,cj];simp[bV]
   simp only[ab,ae]at d;cases q:eX x of aU fs[k] i
   .have g:=g false q;simp only[Fa.c,iV]at g;simp[U.sN,d,t,u,D,g,bo (n:=400) (show k<400 by omega) (by omega)]at p;subst p;exact .inl ⟨λ_=>q,_,rfl,by simp[d]⟩
   have g:=g true q;simp only[Fa.c,iV]at g;simp[U.sN,d,t,u,D,g]at p;subst p;exact .inr ⟨λh=>(by rw[h t]at q;cases q),by simp,_,rfl,by simp[d]⟩)
  (λe r d p=>by
   simp only[ab,ae]at d;simp[U.sN,d,f]at p;subst p;exact⟨_,rfl,by simp[d]⟩)
 rcases hq with⟨k,t,h1,h2,e',E,H⟩|⟨y,e',E,H⟩
 .refine⟨e',k,E,H,by omega,λj h hj=>h1 j hj h,λh=>?_⟩;cases q:eX x of aU fs[k] i
  .exact absurd (λ_=>q) h2
  rfl
 exact⟨e',fs.length,E,H,aW _,λj h _=>y j h h,λh=>by omega⟩
end
def jK(l:aY):eM (l.map iC)=true:=cq (λx=>by simp) l
section
variable{x:Fa}{aU:cb}
def YB(Z:cf x)(hu:aU.length=x.nx.length){of:aY}(O:of.length=x.nx.length){e:En}{s:HS}{o:Out}{v5 v7 v8:HV}{nt:aY}{av:aZ}
  (q:bH e [(1,.psl (aU.map bC)),(2,.aw x.c),(5,v5),(7,v7),(8,v8),(9,.ah),(10,iV 0)])(g:dR s av [(v5,1,of.map iC),(v8,1,nt.map iC),(.ah,1,[])])(hn:nt.length=x.nx.length)(M:bJ R (.loop U.wA) e s=o):
  ∃(e':En) (s':HS) (v9:HV) (fs:ay) (nt:aY) (av:aZ),o=.code (.exit 4) e' s'/\bH e' [(1,.psl (aU.map bC)),(2,.aw x.c),(5,v5),(7,v7),(8,v8),(9,v9)]/\dR s' av [(v5,1,of.map iC),(v8,1,nt.map iC),(v9,1,fs.map nC)]/\B0 (eX x of aU) x.nx.length fs nt x.nx.length:=by
 have h2:=Z.n;refine ba M x.nx.length
  (λi e s=>∃(v9:HV) (fs:ay) (nt:aY) (av:aZ),bH e [(1,.psl (aU.map bC)),(2,.aw x.c),(5,v5),(7,v7),(8,v8),(9,v9),(10,iV i)]/\dR s av [(v5,1,of.map iC),(v8,1,nt.map iC),(v9,1,fs.map nC)]/\B0 (eX x of aU) x.nx.length fs nt i)
  (λo=>∃(e':En) (s':HS) (v9:HV) (fs:ay) (nt:aY) (av:aZ),o=.code (.exit 4) e' s'/\bH e' [(1,.psl (aU.map bC)),(2,.aw x.c),(5,v5),(7,v7),(8,v8),(9,v9)]/\dR s' av [(v5,1,of.map iC),(v8,1,nt.map iC),(v9,1,fs.map nC)]/\B0 (eX x of aU) x.nx.length fs nt x.nx.length)
  0 (by omega) ⟨.ah,[],nt,av,q,g,B0.zero hn⟩
  (λi e s r y ⟨v9,fs,nt,av,q,g,z⟩ t=>by
   have P:(i:Int)<x.nx.length:=by omega
   have d:=g.len 0 rfl s;have B:=g.len 2 rfl s;rw[bG]at d B;rw[O]at d;have h3:=z.fl;have D:=z.len;have hw:=bo (n:=400) (show i<400 by omega) (by omega);simp only[ab,ae]at q;simp[U.wA,q,d,P]at t;generalize M:bJ R (.loop U.sN) _ _=o at t;obtain⟨e1,k,rfl,j,h4,Q,T⟩:=YA (v7:=v7) Z hu O (by omega) (λk h=>by have:=(z.fb k h).1;omega) y (by simp[q]) g M;clear M;obtain⟨o8,e8⟩:=(g.own 1 _ _ _ rfl).gw (by intro h0;have:=cC List.length h0;rw[bG]at this;simp only[aE]at this;omega);rw[bG,D]at e8;subst e8;simp only[ab,ae]at j;by_cases E:k<fs.length
   .have V:¬(k:Int)=fs.length:=by omega
    have p:¬(401:Int)<fs.length:=by omega
    obtain⟨o1,s1,H,b1,f⟩:=g.iY 1 rfl i (by rw[bG];omega) (x:=iV k) rfl;simp[y]at H;subst H;simp only[iu]at b1;simp only[cd,aQ]at f;rw[show List.set (nt.map iC) i [iV k]=(nt.set i (k:Int)).map iC by rw[mA]]at f;simp[j,B,V,p,y,b1,hw]at t;subst t;exact .inl ⟨_,_,rfl,v9,fs,_,_,by simp[j],f,z.old y E (T E)⟩
   have X:k=fs.length:=by omega
   subst X;obtain⟨Y,s1,h1,H,c1,f⟩:=g.append 2 rfl (new:=[[iV i]]) (Sz.cons rfl Sz.nil) (by simp) (bw:=17592186044416) (by simp;omega);have u:=f.len 2 rfl s1;have p:¬(401:Int)<((fs.length:Nat)+1:Int):=by omega
   obtain⟨o1,s2,a2,b2,C⟩:=f.iY 1 rfl i (by rw[bG];omega) (x:=iV fs.length) rfl;simp[y]at a2;subst a2;simp only[iu]at b2;simp only[cd,aQ]at C;rw[show List.set (nt.map iC) i [iV fs.length]=(nt.set i (fs.length:Int)).map iC by rw[mA],show fs.map nC++[[iV i]]=(fs++[i]).map nC by simp]at C;simp only[iV]at H;simp at u;simp[j,B,H,u,p,y,b2,hw]at t;subst t;exact .inl ⟨_,_,rfl,Y,fs++[i],_,_,by simp[j],C,z.new y E5 (λa b=>qO) (λk E=>Q k E E)⟩)
  (λe s r ⟨v9,fs,nt,av,q,g,z⟩ t=>by
   have d:=g.len 0 rfl s;rw[bG,O]at d;simp only[ab,ae]at q;simp[U.wA,q,d]at t;subst t;exact⟨by simp,_,_,v9,fs,nt,av,rfl,by simp[q],g,z⟩)
def af9(x:Fa)(E:cf x)(aU:cb)(hu:aU.length=x.nx.length):∃r,Vb x aU r/\∀s,R (.call 95 [.agg x.c,.psl (aU.map bC)] s)=.val (.psl (r.map iC)) s:=by
 have hn:=E.n
 suffices h:∃r,Vb x aU r/\n5 [.tmp 4] (bJ R U.Ql (bb [.agg x.c,.psl (aU.map bC)] 0) s0)=some (.psl (r.map iC)) by obtain⟨r,H,q⟩:=h;exact⟨r,H,λs=>adP q⟩
 obtain⟨s1,M,O,_⟩:=lH (s:=s0) (n:=x.nx.length) (bw:=17592186044416) (by omega) (iV 0);simp only[iV]at M;simp[U.Ql,M];obtain⟨av,C⟩:=dR.single O;rw[show List.replicate x.nx.length [iV 0]=(List.replicate x.nx.length (0:Int)).map iC by simp]at C;generalize p:bJ R (.loop U.oU) _ _=o;obtain⟨e1,s2,of,hd,rfl,P,f,hz,d⟩:=Yz E hu (by simp) C (by simp) p;clear p;have d:=d (λj Q=>by simp[Q]);have h3:Og x aU of:=by
  refine⟨hz,λi c hc=>?_,λi j Z Q he=>?_,λB hB i j h5=>?_⟩
  .rw[d i (by rw[<-hz];exact(aS.1 hc).1)]at hc;cases hc;unfold JZ;split<;>(try split)<;>omega
  .rw[d i Z,d j Q]at he;exact lz he
  obtain⟨Z,Q,H,q⟩:=hB.fi i j h5;rw[d i Z,d j Q];unfold JZ;rw[lG H,lG q]
 simp only[ab,ae]at P;simp;generalize p:bJ R (.loop U.Ev) _ _=o;have T:=E.pos;have hq:=ba p (x.nx.length+1)
  (λi e s=>∃(v5:HV) (of:aY) (many:Nat) (av:aZ),bH e [(1,.psl (aU.map bC)),(2,.aw x.c),(5,v5),(7,iV many)]/\dR s av [(v5,1,of.map iC)]/\Og x aU of/\i<=many/\many<=x.nx.length/\(0<many->∃fs,fs.length=many/\Of x.nx.length of fs))
  (λo=>∃(e':En) (s':HS) (v8:HV) (r:aY) (F:bU),o=.code .ret e' s'/\look e' 4=some v8/\ck s' v8 1 F (r.map iC)/\Vb x aU r)
  0 (by omega) ⟨_,of,0,_,by simp[P],f,h3,aW _,fm _,λh=>by omega⟩
  (λi e s r Z ⟨v5,of,many,av,hL,C,V,h6,h7,hP⟩ t=>by
   have hlen:=C.len 0 rfl s;rw[bG,V.len]at hlen;obtain⟨s1,M,O,hF⟩:=lH (s:=s) (n:=x.nx.length) (bw:=17592186044416) (by omega) (iV 0);have f:=(C.join hF O (λk hk=>by subst hk;exact aW _)).push 1;rw[show List.replicate x.nx.length [iV 0]=(List.replicate x.nx.length (0:Int)).map iC by simp]at f;simp only[bx,bA]at f;simp only[ab,ae]at hL;simp only[iV]at M;simp[U.Ev,hL,hlen,M]at t;generalize p:bJ R (.loop U.wA) _ _=o at t;obtain⟨e2,s2,v9,fs,nt,hf,rfl,g,u,D⟩:=YB (v7:=iV many) E hu V.len (by simp[hL]) f (by simp) p;clear p;have y:=u.len 2 rfl s2;rw[bG]at y;have h8:=D.fl;have hg:0<fs.length:=by obtain⟨k,_,h,_⟩:=D.cl 0 T;omega
   obtain⟨h9,X⟩:=V.next D
   have hl:many<=fs.length:=by
    by_cases h0:0<many
    .obtain⟨ha,H,q⟩:=hP h0;have:=(q.Gg D.SQ X).1;omega
    omega
   simp only[ab,ae]at g;by_cases he:fs.length=many
   .have z:(fs.length:Int)=many:=by omega
    obtain⟨ha,H,q⟩:=hP (by omega);simp[g,y,z]at t;subst t;exact .inr ⟨by simp,_,_,_,nt,_,rfl,by simp,u.own 1 _ _ _ rfl,V.af5 E q D (by omega)⟩
   have z:¬(fs.length:Int)=many:=by omega
   obtain⟨Y,hb⟩:=dR.single (u.own 1 _ _ _ rfl);simp[g,y,z]at t;subst t;exact .inl ⟨_,_,rfl,_,nt,fs.length,Y,by simp[g],hb,h9,by omega,h8,λ_=>⟨fs,rfl,D.SQ⟩⟩)
  (λe s r ⟨v5,of,many,av,hL,C,V,h6,h7,hP⟩ t=>by omega)
 clear p;obtain⟨e',s',v8,r,F,rfl,h4,O,hS⟩:=hq;refine⟨r,hS,?_⟩;simp[h4];exact aH (O.vw (jK r))
end
section
variable{s:HS}{av:aZ}{L:cE}
def dR.vi(h:dR s av L)(i:Nat){v:HV}{sz:Nat}{aq:aO}(C:L[i]?=some (v,sz,aq)){new:aO}(E:Sz sz new)(h0:new≠ []){bw:Nat}(H:aq.length+new.length<=bw):
  ∃p s',lS sz bw none (some v) (some (.psl new)) s=.v p s'/\cellsOf p=some [p]/\dR s' (λk=>if k=s.nx then some i else av k) (L.set i (p,sz,aq++new))/\cX (λk=>av k=some i) s s':=by
 have q:=(aS.1 C).1;obtain⟨p,s',M,r,t,g⟩:=(h.own i v sz aq C).append E h0 H;have z:=Ky.aV s.nx;refine⟨p,s',M,r.one,⟨λk j c=>?_,λk j c=>?_,λj w B u y=>?_⟩,t⟩
 .rw[g]
  split at c
  .rename_i e;subst e;omega
  have:=h.bd k j c;omega
 .rw[jc]
  split at c
  .cases c;exact q
  exact h.top k j c
 rw[gP]at y;by_cases d:i=j
 .subst d;rw[ar rfl,ar q]at y;cases y;refine r.mono (λk c=>?_) (λk c=>?_)
  .rcases c with c|rfl
   .show(if k=s.nx then some i else av k)=some i
    split
    .rfl
    exact c
   show(if s.nx=s.nx then some i else av s.nx)=some i;rw[ar rfl]
  have c:(if k=s.nx then some i else av k)=some i:=c;rw[g]
  split at c
  .rename_i e;subst e;omega
  have:=h.bd k i c;omega
 rw[au d]at y;have D:=h.own j w B u y;refine(D.frame t (λk c f=>by have f:av k=some i:=f;have c:av k=some j:=c;rw[c]at f;cases f;exact d rfl)).mono (λk c=>?_) (λk c=>?_)
 .have O:=D.2.1 k c;show(if k=s.nx then some i else av k)=some j;rw[au λe=>by subst e;omega];exact c
 have c:(if k=s.nx then some i else av k)=some j:=c;rw[g]
 split at c
 .cases c;exact absurd rfl d
 have:=h.bd k j c;omega
structure aG(s:HS)(av:aZ)(L:cE)(K:dv):Prop where
 mem:dR s av L
 bD:∀(a:Nat) (o:Ky) (c:aj),K[a]?=some (o,c)->gJ s o c/\av o=none
 nd:∀(a b:Nat) (o:Ky) (c d:aj),K[a]?=some (o,c)->K[b]?=some (o,d)->a=b
variable{K:dv}
def aG.append(h:aG s av L K)(i:Nat){v:HV}{sz:Nat}{aq:aO}(p:L[i]?=some (v,sz,aq)){new:aO}(q:Sz sz new)(h0:new≠ []){bw:Nat}(r:aq.length+new.length<=bw):
  ∃d s' f,lS sz bw none (some v) (some (.psl new)) s=.v d s'/\cellsOf d=some [d]/\aG s' f (L.set i (d,sz,aq++new)) K:=by
 obtain⟨d,s',t,u,y,z⟩:=h.mem.vi i p q h0 r;refine⟨d,s',_,t,u,y,λa o c B=>?_,h.nd⟩;obtain⟨g,j⟩:=h.bD a o c B;have C:=g.2.2;exact⟨g.frame z (by rw[j];simp),by rw[au λe=>by subst e;omega];exact j⟩
def aG.iY(h:aG s av L K)(i:Nat){v:HV}{aq:aO}(z:L[i]?=some (v,1,aq))(j:Nat)(D:j<aq.length){x:HV}(E:cellsOf x=some [x]):
  ∃r s',EN (some v) (some (.int .i64 (j:Int))) 1 s=.v (.ptr r (j*1)) s/\pR 1 (some (.ptr r (j*1))) (some x) s=.v .undef s'/\aG s' av (L.set i (v,1,aq.set j [x])) K:=by
 have t:=(aS.1 z).1;obtain⟨r,s',H,M,O,B,P⟩:=(h.mem.own i v 1 aq z).iY j D x E;refine⟨r,s',H,M,⟨λk i d=>by rw[P];exact h.mem.bd k i d,λk i d=>by rw[jc];exact h.mem.top k i d,λk w u q d=>?_⟩,λa o c Q=>?_,h.nd⟩
 .rw[gP]at d;by_cases g:i=k
  .subst g;rw[ar rfl,ar t]at d;cases d;exact O
  rw[au g]at d;exact(h.mem.own k w u q d).frame B (λp y f=>by have f:av p=some i:=f;have y:av p=some k:=y;rw[y]at f;cases f;exact g rfl)
 obtain⟨T,C⟩:=h.bD a o c Q;exact⟨T.frame B (by rw[C];simp),C⟩
def aG.push(h:aG s av L K)(sz:Nat):aG s av (L++[(.ah,sz,[])]) K:=⟨h.mem.push sz,h.bD,h.nd⟩
def aG.frame{s':HS}(h:aG s av L K)(d:cX (λ_=>False) s s'):aG s' av L K:=⟨h.mem.frame d,λa o c f=>⟨(h.bD a o c f).1.frame d (λh=>h),(h.bD a o c f).2⟩,h.nd⟩
def aG.cell{s':HS}(h:aG s av L K){a:Nat}{o:Ky}{c c':aj}(r:K[a]?=some (o,c))(B:gJ s' o c')(t:cX (λp=>p=o) s s'):aG s' av L (K.set a (o,c')):=by
 have C:=(aS.1 r).1;have q:=(h.bD a o c r).2;refine⟨⟨λk i j=>dZ (h.mem.bd k i j) t.1,h.mem.top,λi v D u E=>(h.mem.own i v D u E).frame t (λk j e=>by have j:av k=some i:=j;rw[e,q]at j;cases j)⟩,λb p d f=>?_,λb z p d H f y=>?_⟩
 .rw[gP]at f
  split at f
  .cases f;exact⟨B,q⟩
  rename_i g;obtain⟨M,O⟩:=h.bD b p d f;refine⟨M.frame t (λe=>?_),O⟩;subst e;exact g (h.nd a b _ c d r f)
 have key:∀(b:Nat) (d:aj),(K.set a (o,c'))[b]?=some (p,d)->∃e:aj,K[b]?=some (p,e):=by
  intro b d f;rw[gP]at f
  split at f
  .rename_i g;subst g;cases f;exact⟨c,r⟩
  exact⟨d,f⟩
 obtain⟨P,Q⟩:=key b d f;obtain⟨T,V⟩:=key z H y;exact h.nd b z p P T Q V
def aG.put(h:aG s av L K){a:Nat}{o:Ky}{c new:aj}(d:K[a]?=some (o,c)){v:HV}(f:cellsOf v=some new)(g:new.length=c.length):∃s',pR c.length (some (.ptr o 0)) (some v) s=.v .undef s'/\aG s' av L (K.set a (o,new)):=by obtain⟨s',j,p,q,_⟩:=(h.bD a o c d).1.put f g;exact⟨s',j,h.cell d p q⟩
def aG.xV(h:aG s av L K){a:Nat}{o:Ky}{c:aj}(d:K[a]?=some (o,c))(k:Nat)(f:k<c.length){x:HV}(g:cellsOf x=some [x]):∃s',pR 1 (some (.ptr o k)) (some x) s=.v .undef s'/\aG s' av L (K.set a (o,c.set k x)):=by obtain⟨s',j,p,q,_⟩:=(h.bD a o c d).1.set k f x g;exact⟨s',j,h.cell d p q⟩
end
def ju(aA:cE):aO:=aA.map gw
def Gi(row:bq)(aU:cb)(m:Mv):Int:=row.foldl (λt e=>if gQ aU m e then(e.to:Int)else t) (-1)
def Df(row:bq)(e:Eg)(aU:cb)(m:Mv):Gi (row++[e]) aU m=if gQ aU m e then(e.to:Int)else Gi row aU m:=by simp[Gi]
def mM(of:aY)(c:ay)(t:Nat):Nat:=c.findIdx λj=>decide (of.getD j 0=of.getD t 0)
def qP{α:Type}{p:α->Bool}{l:List α}{i:Nat}(c:i<l.length)(d:∀j,(h:j<i)->p (l[j]'(by omega))=false)(f:p l[i]=true):l.findIdx p=i:=by rw[ES c];exact⟨f,d⟩
def Bz{α:Type}{p:α->Bool}{l:List α}(h:∀i,(c:i<l.length)->p l[i]=false):l.findIdx p=l.length:=by rw[S7];intro a d;obtain⟨i,c,rfl⟩:=eH.1 d;exact h i c
def gX{s:HS}{o:Ky}{F:bU}{u:ay}{n:Nat}(h:ck s (.sl o 0 n 1) 1 F (u.map nC)){i:Nat}(c:i<u.length):eG (ak s.h o) i=some (iV u[i]):=by rw[h.cell i (by simpa using c)];simp
def getD_at{α:Type}{l:List α}{i:Nat}(h:i<l.length)(d:α):l.getD i d=l[i]:=by rw[eD,aR h];rfl
section
variable{x:Fa}{aU:cb}{of:aY}
def YC(Y:cf x)(hu:aU.length=x.nx.length){d:ay}{j:Nat}(C:j<d.length)(H:d[j]<x.nx.length){ms:bc}{k:Nat}(Q:k<ms.length){e:En}{s:HS}{o:Out}{o2 o5 o6:Ky}{v8:HV}{av:aZ}{L:cE}{K:dv}
  (g:bH e [(1,.aw x.c),(2,.ptr o2 0),(3,.psl (aU.map bC)),(4,.psl (of.map iC)),(5,.ptr o5 0),(6,.sl o6 0 d.length 1),(7,iV j),(8,v8),(9,.psl (ms.map Mv.c)),(10,iV k),(11,iV (-1)),(12,iV 0)])
  (B:aG s av L K)(h0:L[0]?=some (.sl o6 0 d.length 1,1,d.map nC))(Z:bJ R (.loop U.qA) e s=o):
  ∃e' s',o=.code (.exit 4) e' s'/\aG s' av L K/\bH e' [(1,.aw x.c),(2,.ptr o2 0),(3,.psl (aU.map bC)),(4,.psl (of.map iC)),(5,.ptr o5 0),(6,.sl o6 0 d.length 1),(7,iV j),(8,v8),(9,.psl (ms.map Mv.c)),(10,iV k),(11,iV (Gi x.nx[d[j]] aU ms[k]))]:=by
 have hq:=Oe Z (λs=>aG s av L K) B x.nx[d[j]].length (λ_=>True)
  (λn=>[(1,.aw x.c),(2,.ptr o2 0),(3,.psl (aU.map bC)),(4,.psl (of.map iC)),(5,.ptr o5 0),(6,.sl o6 0 d.length 1),(7,iV j),(8,v8),(9,.psl (ms.map Mv.c)),(10,iV k),(11,iV (Gi (x.nx[d[j]].take n) aU ms[k])),(12,iV n)])
  [(1,.aw x.c),(2,.ptr o2 0),(3,.psl (aU.map bC)),(4,.psl (of.map iC)),(5,.ptr o5 0),(6,.sl o6 0 d.length 1),(7,iV j),(8,v8),(9,.psl (ms.map Mv.c)),(10,iV k),(11,iV (Gi x.nx[d[j]] aU ms[k]))] 4 (λ_ _=>False) (by simpa[Gi]using g)
  (λn e s r M B g t=>by
   have D:(n:Int)<x.nx[d[j]].length:=by omega
   have h4:=Y.row H;have h5:=Y.to _ (cp H) _ (cp M);have T:=bo (n:=6000) (show n<6000 by omega) (by omega);have p:=nB (x.nx[d[j]][n]).m ms[k];have O:=gX (B.mem.own 0 _ _ _ h0) C;have u:=B.frame (cX.alloc (s:=s) (.cells (cM (x.nx[d[j]][n]).c) 0 5 s.nx) [s.nx]);have V:eG (ak (ax (some (.cells (cM [HV.int .i64 0,.int .i64 0,.int .u8 0,.int .i64 0,.int .i64 0]) 0 5 s.nx)) s.nx s.h) o6) j=some (iV d[j]):=gX ((B.frame (cX.alloc (s:=s) (.cells (cM [HV.int .i64 0,.int .i64 0,.int .u8 0,.int .i64 0,.int .i64 0]) 0 5 s.nx) [s.nx])).mem.own 0 _ _ _ h0) C;have q:ak (HS.mk (ax (some (.cells (cM (x.nx[d[j]][n]).c) 0 5 s.nx)) s.nx s.h) s.nx.succ (ax (some [s.nx]) s.nx s.gr) s.ty).h s.nx=some (.cells (cM (x.nx[d[j]][n]).c) 0 5 s.nx):=by simp
   generalize y:HS.mk (ax (some (.cells (cM (x.nx[d[j]][n]).c) 0 5 s.nx)) s.nx s.h) s.nx.succ (ax (some [s.nx]) s.nx s.gr) s.ty=S1 at q u;have E:(x.nx[d[j]][n]).to<aU.length:=by omega
   have X:gQ aU ms[k] x.nx[d[j]][n]=(decide ((x.nx[d[j]][n]).m=ms[k])&&aU[(x.nx[d[j]][n]).to]):=by unfold gQ;rw[getD_at E]
   have f:=Df (x.nx[d[j]].take n) x.nx[d[j]][n] aU ms[k];rw[<-List.take_succ_eq_append_getElem M,X]at f;simp only[ab,ae]at g;simp only[Eg.c]at y q;simp only[Mv.c]at p;by_cases P:(x.nx[d[j]][n]).m=ms[k]
   .rw[ey P]at p f;cases z:aU[(x.nx[d[j]][n]).to]
    .rw[z]at f;simp[U.qA,g,C,H,Q,M,D,T,O,V,ai,an,ao,y,q,p,E,z]at t;subst t;exact .inl ⟨trivial,_,_,rfl,u,by simp[g,f]⟩
    rw[z]at f;simp[U.qA,g,C,H,Q,M,D,T,O,V,ai,an,ao,y,q,p,E,z]at t;subst t;exact .inl ⟨trivial,_,_,rfl,u,by simp[g,f]⟩
   rw[ef P]at p f;simp[U.qA,g,C,H,Q,M,D,T,O,V,ai,an,ao,y,q,p]at t;subst t;exact .inl ⟨trivial,_,_,rfl,u,by simp[g,f]⟩)
  (λe s r B g t=>by
   have O:=gX (B.mem.own 0 _ _ _ h0) C;simp only[ab,ae]at g;simp[U.qA,g,C,H,O]at t;subst t;exact⟨_,_,rfl,B,by simp[g]⟩)
 rcases hq with⟨_,_,_,_,h⟩|⟨_,e',s',h1,h2,h3⟩
 .exact h.elim
 exact⟨e',s',h1,h2,h3⟩
def YD(M:of.length=x.nx.length){d:ay}(O:∀j∈d,j<x.nx.length)(hl:d.length<=400){t:Nat}(ht:t<x.nx.length){e:En}{s:HS}{o:Out}{o2 o5 o6:Ky}{v3 v7 v8 v9 v10:HV}{F:bU}
  (f:bH e [(1,.aw x.c),(2,.ptr o2 0),(3,v3),(4,.psl (of.map iC)),(5,.ptr o5 0),(6,.sl o6 0 d.length 1),(7,v7),(8,v8),(9,v9),(10,v10),(11,iV t),(14,iV 0)])
  (P:ck s (.sl o6 0 d.length 1) 1 F (d.map nC))(Q:bJ R (.loop U.sJ) e s=o):
  ∃e',o=.code (.exit 6) e' s/\bH e' [(1,.aw x.c),(2,.ptr o2 0),(3,v3),(4,.psl (of.map iC)),(5,.ptr o5 0),(6,.sl o6 0 d.length 1),(7,v7),(8,v8),(9,v9),(10,v10),(11,iV t),(14,iV (mM of d t))]:=by
 have p:t<of.length:=by omega
 have T:=jJ Q d.length (λk=>∀h:k<d.length,decide (of.getD d[k] 0=of.getD t 0)=false)
  (λk=>[(1,.aw x.c),(2,.ptr o2 0),(3,v3),(4,.psl (of.map iC)),(5,.ptr o5 0),(6,.sl o6 0 d.length 1),(7,v7),(8,v8),(9,v9),(10,v10),(11,iV t),(14,iV k)])
  [(1,.aw x.c),(2,.ptr o2 0),(3,v3),(4,.psl (of.map iC)),(5,.ptr o5 0),(6,.sl o6 0 d.length 1),(7,v7),(8,v8),(9,v9),(10,v10),(11,iV t),(14,iV d.length)] 6
  (λk o=>∃e',o=.code (.exit 6) e' s/\bH e' [(1,.aw x.c),(2,.ptr o2 0),(3,v3),(4,.psl (of.map iC)),(5,.ptr o5 0),(6,.sl o6 0 d.length 1),(7,v7),(8,v8),(9,v9),(10,v10),(11,iV t),(14,iV k)]) f
  (λk e r g f q=>by
   have u:(k:Int)<d.length:=by omega
   have B:d[k]<of.length:=by have:=O _ (cp g);omega
   have V:=bo (n:=400) (show k<400 by omega) (by omega);have D:=gX P g;have E:=getD_at B (0:Int);have H:=getD_at p (0:Int);simp only[ab,ae]at f;by_cases z:of[d[k]]=of[t]
   .simp[U.sJ,f,g,u,B,p,D,z]at q;subst q;exact .inr ⟨λh=>(by have:=h g;rw[E,H,z]at this;simp at this),by simp,_,rfl,by simp[f]⟩
   simp[U.sJ,f,g,u,B,p,V,D,z]at q;subst q;exact .inl ⟨λ_=>(by rw[E,H];simp[z]),_,rfl,by simp[f]⟩)
  (λe r f q=>by
   simp only[ab,ae]at f;simp[U.sJ,f]at q;subst q;exact⟨_,rfl,by simp[f]⟩)
 unfold mM;rcases T with⟨k,g,X,Y,e',rfl,C⟩|⟨y,e',rfl,C⟩
 .have Z:decide (of.getD d[k] 0=of.getD t 0)=true:=by
   cases h:decide (of.getD d[k] 0=of.getD t 0)
   .exact absurd (λ_=>h) Y
   rfl
  rw[qP g (λj hj=>X j hj (by omega)) Z];exact⟨e',rfl,C⟩
 rw[Bz (λk g=>y k g g)];exact⟨e',rfl,C⟩
end
def pV(row:bq)(aU:cb)(m:Mv):Gi row aU m= -1∨∃e∈row,gQ aU m e=true/\Gi row aU m=(e.to:Int):=by
 rcases mu row with h|⟨r,e,h⟩
 .subst h;exact .inl rfl
 rw[h,xM,Df]
 split
 .rename_i d;exact .inr ⟨e,by simp,d,rfl⟩
 rcases pV r aU m with c|⟨f,c,g,j⟩
 .exact .inl c
 exact .inr ⟨f,by simp[c],g,j⟩
termination_by row.length
decreasing_by simp[h]
def yD(of:aY)(aU:cb)(row:bq)(p:List Nat×List Eg)(m:Mv):List Nat×List Eg:=
 let t:=Gi row aU m
 if t<0 then p else
  let a:=mM of p.1 t.toNat
  (if a=p.1.length then p.1++[t.toNat]else p.1,p.2++[⟨m,a⟩])
def mD(of:aY)(aU:cb)(row:bq)(c:ay)(ms:bc):List Nat×List Eg:=ms.foldl (yD of aU row) (c,[])
def HQ(of:aY)(aU:cb)(row:bq)(c:ay)(ms:bc)(m:Mv):mD of aU row c (ms++[m])=yD of aU row (mD of aU row c ms) m:=by simp[mD]
structure gR(n:Nat)(of:aY)(met:ay):Prop where
 lt:∀j∈met,j<n
 nd:(met.map λj=>of.getD j 0).Nodup
def xW:∀(n:Nat) (l:ay),l.Nodup->(∀k∈l,k<n)->l.length<=n
 |0,l,_,h=>by cases l with|nil=>simp|cons a r=>have:=h a (by simp);omega
 |n+1,l,c,h=>by
  have d:=xW n (l.erase n) (c.erase n) (λk f=>by
   have g:=h k (List.mem_of_mem_erase f);have j:k≠n:=λe=>by subst e;exact c.not_mem_erase f
   omega)
  rw[List.length_erase]at d
  split at d<;>omega
def gR.len{n:Nat}{of:aY}{c:ay}(h:gR n of c):c.length<=n:=
 xW n c (List.Pairwise.of_map _ (λa b (d:of.getD a 0≠of.getD b 0) e=>d (by rw[e])) h.nd) h.lt
def Dg{α:Type}(a b c:α)(M:List α):(a::(M++[b])).set (M.length+1) c=a::(M++[c]):=by simp
def Dh{α:Type}(a b:α)(M:List α):(a::(M++[b]))[M.length+1]?=some b:=by simp
def S9{of:aY}{c:ay}{t:Nat}:mM of c t<=c.length:=Ta
def gR.snoc{n:Nat}{of:aY}{c:ay}(h:gR n of c){t:Nat}(p:t<n)(q:mM of c t=c.length):gR n of (c++[t]):=by
 refine⟨λj d=>?_,?_⟩
 .rcases cP.1 d with f|f
  .exact h.lt j f
  rw[dq.1 f];exact p
 rw[fB,cx,mZ];refine AF.2 ⟨h.nd,by simp,λa g b r=>?_⟩;rw[dq.1 r];obtain⟨j,d,rfl⟩:=dt.1 g;have:=(S7.1 q) j d;simpa using this
section
variable{x:Fa}{aU:cb}{of:aY}
def YE(hx:cf x)(hu:aU.length=x.nx.length)(h3:of.length=x.nx.length){f:ay}(h0:gR x.nx.length of f){j i:Nat}(C:f[j]?=some i){ms:bc}(h8:ms.length<=6000){e:En}{s:HS}{o:Out}{o2 o5:Ky}{v6:HV}{av:aZ}{M:cE}{K:dv}
  (B:bH e [(1,.aw x.c),(2,.ptr o2 0),(3,.psl (aU.map bC)),(4,.psl (of.map iC)),(5,.ptr o5 0),(6,v6),(7,iV j),(8,.ah),(9,.psl (ms.map Mv.c)),(10,iV 0)])
  (H:aG s av ((v6,1,f.map nC)::(M++[(.ah,5,[])])) K)(O:bJ R (.loop U.wy) e s=o):
  ∃(e':En) (s':HS) (av:aZ) (v6 v8:HV) (d:ay) (es:bq),o=.code (.exit 2) e' s'/\bH e' [(1,.aw x.c),(2,.ptr o2 0),(3,.psl (aU.map bC)),(4,.psl (of.map iC)),(5,.ptr o5 0),(6,v6),(7,iV j),(8,v8)]/\
   aG s' av ((v6,1,d.map nC)::(M++[(v8,5,es.map Eg.c)])) K/\(d,es)=mD of aU (x.nx.getD i []) f ms/\gR x.nx.length of d/\d[j]?=some i/\es.length<=ms.length:=by
 have T:i<x.nx.length:=h0.lt i (cG C);have hn:=hx.n;refine ba O ms.length
  (λk e s=>∃(av:aZ) (v6 v8:HV) (d:ay) (es:bq),bH e [(1,.aw x.c),(2,.ptr o2 0),(3,.psl (aU.map bC)),(4,.psl (of.map iC)),(5,.ptr o5 0),(6,v6),(7,iV j),(8,v8),(9,.psl (ms.map Mv.c)),(10,iV k)]/\
   aG s av ((v6,1,d.map nC)::(M++[(v8,5,es.map Eg.c)])) K/\(d,es)=mD of aU (x.nx.getD i []) f (ms.take k)/\gR x.nx.length of d/\d[j]?=some i/\es.length<=k)
  (λo=>∃(e':En) (s':HS) (av:aZ) (v6 v8:HV) (d:ay) (es:bq),o=.code (.exit 2) e' s'/\bH e' [(1,.aw x.c),(2,.ptr o2 0),(3,.psl (aU.map bC)),(4,.psl (of.map iC)),(5,.ptr o5 0),(6,v6),(7,iV j),(8,v8)]/\
   aG s' av ((v6,1,d.map nC)::(M++[(v8,5,es.map Eg.c)])) K/\(d,es)=mD of aU (x.nx.getD i []) f ms/\gR x.nx.length of d/\d[j]?=some i/\es.length<=ms.length)
  0 (by omega) ⟨av,v6,.ah,f,[],B,H,rfl,h0,C,by simp⟩
  (λk e s r hk ⟨av,v6,v8,d,es,B,H,hR,P,C,he⟩ u=>by
   obtain⟨Q,V⟩:=aS.1 C;have h4:(k:Int)<ms.length:=by omega
   have hw:=bo (n:=6000) (show k<6000 by omega) (by omega);have h9:=P.len;obtain⟨o6,rfl⟩:=(H.mem.own 0 _ _ _ rfl).gw (by intro h;have:=cC List.length h;simp at this;subst this;simp at Q);rw[bG]at B H;have q:mD of aU (x.nx.getD i []) f (ms.take (k+1))=yD of aU (x.nx.getD i []) (d,es) ms[k]:=by rw[fC hk,HQ,<-hR]
   rw[getD_at T]at q;simp only[ab,ae]at B;simp-implicitDefEqProofs[U.wy,B,h4]at u;generalize O:bJ R (.loop U.qA) _ _=o at u;obtain⟨e1,s1,rfl,D,p⟩:=YC (o2:=o2) (o5:=o5) (of:=of) (v8:=v8) (ms:=ms) hx hu Q (by rw[V];exact T) hk (by simp[B]) H rfl O;clear O;simp only[V]at p;rcases pV x.nx[i] aU ms[k]with X|⟨g,h5,hb,X⟩
   .rw[X]at p;simp only[ab,ae]at p;simp-implicitDefEqProofs[p,hw]at u;subst u;refine .inl ⟨_,_,rfl,_,_,_,d,es,by simp[p],D,?_,P,C,by omega⟩;rw[getD_at T,q];simp[yD,X]
   rw[X]at p;have Y:=hx.to _ (cp T) _ h5;have Z:¬((g.to:Int)<0):=by omega
   have iA:yD of aU x.nx[i] (d,es) ms[k]=(if mM of d g.to=d.length then d++[g.to]else d,es++[Eg.mk ms[k] (mM of d g.to)]):=by simp[yD,X,Z]
   rw[iA]at q;simp only[ab,ae]at p;simp-implicitDefEqProofs[p,Z]at u;generalize O:bJ R (.loop U.sJ) _ _=o at u;obtain⟨e2,rfl,y⟩:=YD (o2:=o2) (o5:=o5) (v3:=.psl (aU.map bC)) (v7:=iV j) (v8:=v8) (v9:=.psl (ms.map Mv.c)) (v10:=iV k) (t:=g.to) h3 P.lt (by omega) Y (by simp[p]) (D.mem.own 0 _ _ _ rfl) O;clear O;simp only[ab,ae]at y;by_cases ha:mM of d g.to=d.length
   .rw[ar ha]at q;have E:(mM of d g.to:Int)=d.length:=by omega
    obtain⟨hd,s2,h7,a1,c1,h1⟩:=D.append 0 rfl (new:=[[iV g.to]]) (Sz.cons rfl Sz.nil) (by simp) (bw:=17592186044416) (by simp;omega);simp only[aQ]at h1;obtain⟨h6,s3,h2,a2,c2,z⟩:=h1.append (M.length+1) (Dh _ _ _) (new:=[(Eg.mk ms[k] (mM of d g.to)).c]) (Sz.cons rfl Sz.nil) (by simp) (bw:=3518437208883) (by simp;omega);rw[Dg,show d.map nC++[[iV g.to]]=(d++[g.to]).map nC by simp,show es.map Eg.c++[(Eg.mk ms[k] (mM of d g.to)).c]=(es++[Eg.mk ms[k] (mM of d g.to)]).map Eg.c by simp]at z;simp only[iV]at a1;simp only[Eg.c,E]at a2;simp[y,E,hk,a1,a2,hw]at u;subst u;exact .inl ⟨_,_,rfl,_,_,_,d++[g.to],es++[Eg.mk ms[k] (mM of d g.to)],by simp[y],z,by rw[getD_at T,q],P.snoc Y ha,by rw[ea Q];exact C,by simp;omega⟩
   rw[au ha]at q;have E:¬(mM of d g.to:Int)=d.length:=by omega
   obtain⟨h6,s3,h2,a2,c2,z⟩:=D.append (M.length+1) (Dh _ _ _) (new:=[(Eg.mk ms[k] (mM of d g.to)).c]) (Sz.cons rfl Sz.nil) (by simp) (bw:=3518437208883) (by simp;omega);rw[Dg,show es.map Eg.c++[(Eg.mk ms[k] (mM of d g.to)).c]=(es++[Eg.mk ms[k] (mM of d g.to)]).map Eg.c by simp]at z;simp only[Eg.c]at a2;simp[y,E,hk,a2,hw]at u;subst u;exact .inl ⟨_,_,rfl,_,_,_,d,es++[Eg.mk ms[k] (mM of d g.to)],by simp[y],z,by rw[getD_at T,q],P,C,by simp;omega⟩)
  (λe s r ⟨av,v6,v8,d,es,B,H,hR,P,C,he⟩ u=>by
   simp only[ab,ae]at B;simp[U.wy,B]at u;subst u;rw[my]at hR;exact⟨by simp,_,_,av,v6,v8,d,es,rfl,by simp[B],H,hR,P,C,he⟩)
end
def cD(x:Fa)(of:aY)(aU:cb):Nat->List Nat×List bq×List Bool
 |0=>([0],[],[])
 |i+1=>
  let p:=cD x of aU i
  if i<p.1.length then
   let row:=x.nx.getD (p.1.getD i 0) [];let q:=mD of aU row p.1 (pr row)
   (q.1,p.2.1++[q.2],p.2.2++[x.fi.getD (p.1.getD i 0) false])
  else p
def J6{x:Fa}{of:aY}{aU:cb}{i:Nat}{c:ay}{rows:List bq}{fin:cb}(h:(c,rows,fin)=cD x of aU i)(f:i<c.length){d:ay}{es:bq}(g:(d,es)=mD of aU (x.nx.getD c[i] []) c (pr (x.nx.getD c[i] []))):
  (d,rows++[es],fin++[x.fi.getD c[i] false])=cD x of aU (i+1):=by
 rw[cD,<-h];simp only[f,bj,getD_at f];rw[<-g]
def rS{x:Fa}{of:aY}{aU:cb}{i:Nat}(h:(cD x of aU i).1.length<=i)(d:Nat):cD x of aU (i+d)=cD x of aU i:=by induction d with|zero=>rfl|succ d c=>show cD x of aU ((i+d)+1)=_;rw[cD,c];simp only[];rw[au (by omega)]
def n6(x:Fa)(of:aY)(aU:cb):Fa:=⟨(cD x of aU x.nx.length).2.1,(cD x of aU x.nx.length).2.2⟩
section
variable{x:Fa}{aU:cb}{of:aY}
def YF(O:cf x)(hu:aU.length=x.nx.length)(h5:of.length=x.nx.length){e:En}{s:HS}{o:Out}{o2 o5:Ky}{v6:HV}{av:aZ}
  (g:bH e [(1,.aw x.c),(2,.ptr o2 0),(3,.psl (aU.map bC)),(4,.psl (of.map iC)),(5,.ptr o5 0),(6,v6),(7,iV 0)])
  (p:aG s av [(v6,1,[0].map nC),(.ah,1,[]),(.ah,1,[])] [(o5,[.ah,.ah]),(o2,[.ah,.ah])])(ho:bJ R (.loop U.sK) e s=o):
  ∃(e':En) (s':HS) (av:aZ) (v6 vN vF:HV) (d:ay) (aA:cE),o=.code (.exit 0) e' s'/\bH e' [(2,.ptr o2 0),(5,.ptr o5 0)]/\
   aG s' av ((v6,1,d.map nC)::(vN,1,aA.map gw)::(vF,1,(n6 x of aU).fi.map bC)::aA) [(o5,[vN,vF]),(o2,[.ah,.ah])]/\aA.map (·.2)=(n6 x of aU).nx.map (λes=>(5,es.map Eg.c)):=by
 have hn:=O.n;have k0:=O.nf;have ht:=O.pos;refine ba ho x.nx.length
  (λi e s=>∃(av:aZ) (v6 vN vF:HV) (d:ay) (aA:cE) (rows:List bq) (fin:cb),bH e [(1,.aw x.c),(2,.ptr o2 0),(3,.psl (aU.map bC)),(4,.psl (of.map iC)),(5,.ptr o5 0),(6,v6),(7,iV i)]/\
   aG s av ((v6,1,d.map nC)::(vN,1,aA.map gw)::(vF,1,fin.map bC)::aA) [(o5,[vN,vF]),(o2,[.ah,.ah])]/\aA.map (·.2)=rows.map (λes=>(5,es.map Eg.c))/\(d,rows,fin)=cD x of aU i/\gR x.nx.length of d/\i<=d.length/\0<d.length/\aA.length=i/\fin.length=i)
  (λo=>∃(e':En) (s':HS) (av:aZ) (v6 vN vF:HV) (d:ay) (aA:cE),o=.code (.exit 0) e' s'/\bH e' [(2,.ptr o2 0),(5,.ptr o5 0)]/\
   aG s' av ((v6,1,d.map nC)::(vN,1,aA.map gw)::(vF,1,(n6 x of aU).fi.map bC)::aA) [(o5,[vN,vF]),(o2,[.ah,.ah])]/\aA.map (·.2)=(n6 x of aU).nx.map (λes=>(5,es.map Eg.c)))
  0 (by omega) ⟨av,v6,.ah,.ah,[0],[],[],[],g,p,rfl,rfl,⟨λj hj=>by simp at hj;omega,by simp⟩,by simp,by simp,rfl,rfl⟩
  (λi e s r hi ⟨av,v6,vN,vF,d,aA,rows,fin,g,p,hI,P,Q,h6,hp,T,V⟩ u=>by
   have hw:=bo (n:=400) (show i<400 by omega) (by omega);have h7:=Q.len;obtain⟨o6,rfl⟩:=(p.mem.own 0 _ _ _ rfl).gw (by intro h;have:=cC List.length h;simp at this;subst this;simp at hp);rw[bG]at g p;simp only[ab,ae]at g;by_cases X:i<d.length
   .have q:(i:Int)<d.length:=by omega
    have hm:=Q.lt _ (cp X);have g6:=gX (p.mem.own 0 _ _ _ rfl) X;have C:=Yv x.nx O.rows [d[i]] (by simp) (by simpa using hm) s0;rw[show fN x.nx [d[i]]=x.nx.getD d[i] [] by simp[fN]]at C;have t:R (.call 96 [.agg [.psl (x.nx.map nW),.ah,.ah],.psl [[iV d[i]]]] s)=.val (.psl ((pr (x.nx.getD d[i] [])).map Mv.c)) s:=by
     refine uD 96 U.f142 _ [.agg [.psl (x.nx.map nW),.psl [],.psl []],.psl [[iV d[i]]]] _ s rfl rfl rfl ?_ (by simp[da,dX]) ?_ (by simp) C
     .have:=gi _ (pj x.nx);simp only[cj,bV,this,gZ,jb]
     have:=iw _ (pj x.nx);simp only[n9,nn,this,pZ]
    simp only[iV]at t;have Y:(pr (x.nx.getD d[i] [])).length<=6000:=by have h1:=rQ (x.nx.getD d[i] []);rw[getD_at hm]at h1 ⊢;have:=O.row hm;omega
    simp[U.sK,g,X,q,g6,t]at u;generalize ho:bJ R (.loop U.wy) _ _=o at u;obtain⟨e1,s1,hy,v6,E,D,es,rfl,y,f,hR,h8,h9,k1⟩:=YE (o2:=o2) (o5:=o5) (ms:=pr (x.nx.getD d[i] [])) (M:=(vN,1,aA.map gw)::(vF,1,fin.map bC)::aA) O hu h5 Q (j:=i) (aR X) Y (by simp[g]) (p.push 5) ho;clear ho;obtain⟨z,ha⟩:=aS.1 h9;obtain⟨hb,rfl⟩:=(f.mem.own 0 _ _ _ rfl).gw (by intro h;have:=cC List.length h;simp at this;subst this;simp at z);rw[bG]at y f;simp only[bx]at f;have c8:cellsOf E=some [E]:=(f.mem.own (aA.length+3) E 5 _ (by simp;rfl)).one;have g1:=gX (f.mem.own 0 _ _ _ rfl) z;have hd:=(f.bD 0 o5 _ rfl).1.1;obtain⟨hf,s2,hz,a1,c1,B⟩:=f.append 1 rfl (new:=[[E]]) (Sz.cons rfl Sz.nil) (by simp) (bw:=5864062014805) (by simp;omega);simp only[cd,aQ]at B;have g2:=gX (B.mem.own 0 _ _ _ rfl) z;have hg:=(B.bD 0 o5 _ rfl).1.1;rw[ha]at g1 g2;have Z:d[i]<x.fi.length:=by omega
    obtain⟨hl,s3,h2,a2,c2,h3⟩:=B.append 2 rfl (new:=[bC x.fi[d[i]]]) (Sz.cons rfl Sz.nil) (by simp) (bw:=140737488355328) (by simp;omega);simp only[cd,aQ]at h3;obtain⟨s4,b1,h4⟩:=h3.xV (a:=0) rfl 0 (by simp) c1;simp only[aQ]at h4;obtain⟨s5,b2,H⟩:=h4.xV (a:=0) rfl 1 (by simp) c2;simp only[cd,aQ]at H;simp only[bC]at a2;simp only[ab,ae]at y;simp[y,hd,hg,z,g1,g2,Z,c8,a1,a2,b1,b2,hw]at u;subst u;have iA:=J6 P X hR;refine .inl ⟨_,_,rfl,h2,.sl hb 0 D.length 1,hf,hl,D,aA++[(E,5,es.map Eg.c)],rows++[es],fin++[x.fi[d[i]]],by simp[y],?_,by simp[hI],?_,h8,by omega,by omega,by simp[T,V]⟩
    .rw[show aA.map gw++[[E]]=(aA++[(E,5,es.map Eg.c)]).map gw by simp,show fin.map bC++[bC x.fi[d[i]]]=(fin++[x.fi[d[i]]]).map bC by simp]at H;exact H
    rw[getD_at Z]at iA;exact iA
   have hs:i=d.length:=by omega
   have q:¬(i:Int)<d.length:=by omega
   simp[U.sK,g,q]at u;subst u;have iA:=rS (x:=x) (of:=of) (aU:=aU) (i:=i) (by rw[<-P];exact oN hs.symm) (x.nx.length-i);rw[show i+(x.nx.length-i)=x.nx.length by omega,<-P]at iA;have hq:n6 x of aU=⟨rows,fin⟩:=by unfold n6;rw[iA]
   rw[hq];exact .inr ⟨by simp,_,_,_,_,_,_,d,aA,rfl,by simp[g],p,hI⟩)
  (λe s r ⟨av,v6,vN,vF,d,aA,rows,fin,g,p,hI,P,Q,h6,hp,T,V⟩ u=>by
   have h7:=Q.len;obtain⟨o6,rfl⟩:=(p.mem.own 0 _ _ _ rfl).gw (by intro h;have:=cC List.length h;simp at this;subst this;simp at hp);rw[bG]at g p;simp only[ab,ae]at g;have q:¬(x.nx.length:Int)<d.length:=by omega
   simp[U.sK,g,q]at u;subst u;have hq:n6 x of aU=⟨rows,fin⟩:=by unfold n6;rw[<-P]
   rw[hq];exact⟨by simp,_,_,_,_,_,_,d,aA,rfl,by simp[g],p,hI⟩)
end
def YG:∃av,aG (HS.mk (.nd (some (.cells (cM [.ah,.ah]) 0 2 .e)) (.nd (some (.cells (cM [.ah,.ah]) 0 2 (.z .e))) .lf .lf) (.nd (some (.cells (cM [.int .i64 0]) 0 1 (.o .e))) .lf .lf)) (.z (.z .e)) (.nd (some [.e]) (.nd (some [.z .e]) .lf .lf) (.nd (some [.o .e]) .lf .lf)) .lf) av
  [(.sl (.o .e) 0 1 1,1,[0].map nC),(.ah,1,[]),(.ah,1,[])] [(.z .e,[.ah,.ah]),(.e,[.ah,.ah])]:=by
 have f:∀(k:Ky) (i:Nat),(if k=Ky.o .e then some 0 else none)=some i->k.toNat<3/\i=0:=λk i p=>by
  by_cases h:k=.o .e
  .subst h;rw[ar rfl]at p;cases p;exact⟨by decide,rfl⟩
  rw[au h]at p;cases p
 refine⟨λk=>if k=.o .e then some 0 else none,⟨λk i p=>(f k i p).1,λk i p=>by rw[(f k i p).2];decide,λi v B t q=>?_⟩,λa o c g=>?_,λa b o c d g f=>?_⟩
 .match i,q with
  |0,q=>
   cases q;refine⟨Sz.cons rfl Sz.nil,λk p=>(f k _ p).1,.inr ⟨.o .e,_,_,.o .e,[],rfl,rfl,by decide,λj u=>?_,rfl,by simp,λm y=>?_,ar rfl⟩⟩
   .have r:j=0:=by simp at u;omega
    subst r;rfl
   rw[dq.1 y];exact ar rfl
  |1,q=>cases q;exact⟨Sz.nil,λk p=>(f k _ p).1,.inl ⟨rfl,rfl⟩⟩
  |2,q=>cases q;exact⟨Sz.nil,λk p=>(f k _ p).1,.inl ⟨rfl,rfl⟩⟩
  |n+3,q=>simp at q
 .match a,g with
  |0,g=>cases g;exact⟨⟨rfl,rfl,by decide⟩,rfl⟩
  |1,g=>cases g;exact⟨⟨rfl,rfl,by decide⟩,rfl⟩
  |n+2,g=>simp at g
 match a,b,g,f with
 |0,0,_,_=>rfl
 |1,1,_,_=>rfl
 |0,1,g,f=>cases g;cases f
 |1,0,g,f=>cases g;cases f
 |n+2,_,g,_=>simp at g
 |0,n+2,_,f=>simp at f
 |1,n+2,_,f=>simp at f
def aga(x:Fa)(C:cf x):∃(u:cb) (y:Fa),mz x u/\(u[0]?=some false->y=lD)/\(u[0]?=some true->∃of,Vb x u of/\y=n6 x of u)/\∀s,R (.call 66 [.agg x.c] s)=.val (.agg y.c) s:=by
 obtain⟨u,D,d⟩:=af2 x C;obtain⟨of,T,q⟩:=af9 x C u D.1;simp only[Fa.c]at d q;have t:=afD;simp only[lD,Fa.c]at t;have E:=C.pos;have B:0<u.length:=by rw[D.1];exact E
 have h0:u[0]?=some u[0]:=aR B;have V:of≠ []:=by have:=T.cls.len;intro h;subst h;simp at this;omega
 have X:∀s,CZ 0 false (some (.psl (of.map iC))) s=.v (.bool false) s:=λs=>by cases of with|nil=>exact absurd rfl V|cons a r=>rfl
 cases Q:u[0]
 .rw[Q]at h0;refine⟨u,lD,D,λ_=>rfl,λh=>(by rw[h0]at h;cases h),λs=>XV ?_⟩;simp[U.PN,s0,d,B,Q,t,ai,an,ao];simp[aa,lD]
 rw[Q]at h0;refine⟨u,n6 x of u,D,λh=>(by rw[h0]at h;cases h),λ_=>⟨of,T,rfl⟩,λs=>XV ?_⟩;simp[U.PN,s0,d,B,Q,q,X];obtain⟨av,hM⟩:=YG;generalize hS:HS.mk _ _ _ _=S at hM ⊢;generalize ho:bJ R (.loop U.sK) _ _=o;obtain⟨e1,s1,h3,v6,vN,vF,h5,aA,rfl,H,M,Y⟩:=YF (o2:=.e) (o5:=.z .e) C D.1 T.cls.len (by simp) hM ho;clear ho;have hC:=(M.bD 0 _ _ rfl).1.1;obtain⟨s2,b2,j⟩:=M.put (a:=1) rfl (v:=.agg [vN,vF]) (new:=[vN,vF]) (by simp) rfl;simp only[cd,aQ]at j;have hE:=(j.bD 1 _ _ rfl).1.1;simp only[az,aE,bF,Nat.reduceAdd]at b2 hE hC;simp only[ab,ae]at H;simp[H,hC,ao,b2,hE];refine aH (.agg (.cons ?_ (.cons ?_ .nil)))
 .have Z:=((j.mem.own 1 _ _ _ rfl).vwH (f:=λe:xI=>e.1) (g:=λe:xI=>HV.psl e.2.2) (n:=14) (λx C=>?_))
  .have:aA.map (λx=>[HV.psl x.2.2])=(n6 x of u).nx.map nW:=by
    have h:=cC (List.map λ(p:Nat×List aj)=>[HV.psl p.2]) Y;have O:nW=λx:bq=>[HV.psl (List.map Eg.c x)]:=rfl
    rw[O];simpa[EU]using h
   rw[<-this];exact Z
  obtain⟨k,hk,rfl⟩:=eH.1 C;have h2:=cC (λl=>l[k]?) Y;simp[hk]at h2;have hlen:aA.length=(n6 x of u).nx.length:=by have:=cC List.length Y;simpa using this
  have h1:k<(n6 x of u).nx.length:=by omega
  have h4:aA[k].2=(5,((n6 x of u).nx[k]).map Eg.c):=by simp[h1]at h2;exact h2.symm▸rfl
  have P:=j.mem.own (k+3) aA[k].1 5 (((n6 x of u).nx[k]).map Eg.c) (by simp[hk];rw[<-h4]);rw[h4];exact P.vw (by simp)
 exact(j.mem.own 2 _ _ _ rfl).vw (by simp)
def zQ(of:aY)(aU:cb)(row:bq):∀(ms:bc) (p:List Nat×List Eg),(ms.foldl (yD of aU row) p).2.length<=p.2.length+ms.length
 |[],p=>by simp
 |m::r,p=>by
  have c:=zQ of aU row r (yD of aU row p m);have h:(yD of aU row p m).2.length<=p.2.length+1:=by
   simp only[yD]
   split<;>simp
  simp only[mY,az];omega
def Gj{x:Fa}(d:cf x)(of:aY)(aU:cb)(i:Nat):(cD x of aU i).2.1.length<=i/\(cD x of aU i).2.2.length<=i/\∀l∈(cD x of aU i).2.1,l.length<=6000:=by
 induction i with
 |zero=>exact⟨aW _,aW _,λl h=>by cases h⟩
 |succ i f=>
  obtain⟨p,q,c⟩:=f;rw[cD];simp only[]
  split
  .refine⟨by simp;omega,by simp;omega,λl g=>?_⟩;rcases cP.1 g with h|h
   .exact c l h
   rw[dq.1 h];have j:=zQ of aU (x.nx.getD ((cD x of aU i).1.getD i 0) []) (pr (x.nx.getD ((cD x of aU i).1.getD i 0) [])) ((cD x of aU i).1,[]);have r:=rQ (x.nx.getD ((cD x of aU i).1.getD i 0) []);have t:(x.nx.getD ((cD x of aU i).1.getD i 0) []).length<=6000:=by
    by_cases h:(cD x of aU i).1.getD i 0<x.nx.length
    .rw[getD_at h];exact d.row h
    rw[eD,zq (by omega)];simp
   simp only[aE]at j;unfold mD;omega
  exact⟨by omega,by omega,c⟩
def YH(x y:Fa):Prop:=∃u,mz x u/\(u[0]?=some false->y=lD)/\(u[0]?=some true->∃of,Vb x u of/\y=n6 x of u)
def Oi(x:Fa)(d:cf x):∃y:Fa,YH x y/\(y.nx.length<=400/\y.fi.length<=400/\∀l∈y.nx,l.length<=6000)/\∀s,R (.call 66 [.agg x.c] s)=.val (.agg y.c) s:=by
 obtain⟨u,y,g,j,p,r⟩:=aga x d;have q:=d.pos;have z:=d.n;refine⟨y,⟨u,g,j,p⟩,?_,r⟩;cases f:u[0]?with
 |none=>have:=BA.1 f;have:=g.1;omega
 |some b=>
  cases b
  .rw[j f];exact⟨by decide,by decide,λl h=>by simp[lD]at h;subst h;simp⟩
  obtain⟨of,_,rfl⟩:=p f;obtain⟨B,C,t⟩:=Gj d of u x.nx.length;exact⟨by unfold n6;simp only;omega,by unfold n6;simp only;omega,t⟩
open Classical in
def gK(x:Fa):Fa:=if h:cf x then Classical.choose (Oi x h)else lD
def tX{x:Fa}(d:cf x):YH x (gK x)/\((gK x).nx.length<=400/\(gK x).fi.length<=400/\∀l∈(gK x).nx,l.length<=6000)/\∀s,R (.call 66 [.agg x.c] s)=.val (.agg (gK x).c) s:=by unfold gK;rw[dif_pos d];exact Classical.choose_spec (Oi x d)
def Fc(x:Ax):Prop:=∃y:Fa,x=y.i/\cf y/\sZ y/\gK y=y
def Fa.YI{x y:Fa}(h:x.i=y.i):x=y:=by
 obtain⟨q,r⟩:=x;obtain⟨t,u⟩:=y;unfold Fa.i at h;simp only[Ax.mk.injEq]at h;obtain⟨c,f⟩:=h;subst f;have g:∀a b:Eg,a.i=b.i->a=b:=λa b h=>by obtain⟨z,d⟩:=a;obtain⟨B,j⟩:=b;simp only[Eg.i,Ei.mk.injEq]at h;obtain⟨c,f⟩:=h;subst c;rw[show d=j by omega]
 have p:∀a b:bq,a.map Eg.i=b.map Eg.i->a=b:=λa b h=>Ip (λx y=>g x y)|>.1 h
 rw[Ip (λx y=>p x y)|>.1 c]
open Classical in
def w76(x:Ax)(C:mw x)(s:HS):R (.call 41 [.agg x.c] s)=.val (iV (if Fc x then 0 else 4)) s:=by
 refine q76 ?_;have f:=afz x C;have d:=afA x C;cases t:lU x
 .have:¬Fc x:=by
   rintro⟨y,rfl,r,_,_⟩
   have T:=r.pos;have V:=r.nf;have X:=r.to;have:lU y.i=true:=by unfold lU;simp only[bX,Fa.i,bG];refine⟨T,V,λl Y e Z=>?_⟩;obtain⟨l',D,rfl⟩:=dt.1 Y;obtain⟨e',E,rfl⟩:=dt.1 Z;have:=X l' D e' E;simp only[Eg.i];omega
   rw[this]at t;cases t
  rw[au this];rw[t]at d;simp only[Ax.c]at f d;simp[U.V0,f,d,aa]
 rw[t]at d;obtain⟨y,rfl,r⟩:=Sy C t;have hc:=Fa.Yb y;obtain⟨h2,⟨H,M,O⟩,p⟩:=tX r;have g:=afB y r;have j:=afC (gK y) y H M O;have q:Fc y.i↔sZ y/\gK y=y:=⟨λ⟨z,h1,_,P,Q⟩=>by have:=Fa.YI h1;subst this;exact⟨P,Q⟩,λ⟨P,Q⟩=>⟨y,rfl,r,P,Q⟩⟩;rw[hc]at f d ⊢;simp only[Fa.c]at f d g j p;by_cases u:sZ y
 .by_cases B:gK y=y
  .rw[ar (q.2 ⟨u,B⟩)];simp only[u,B,eO]at g j p;simp[U.V0,f,d,g,j,p,aa]
  rw[au (λh=>B (q.1 h).2)];simp only[u,eO]at g;rw[ef B]at j;simp[U.V0,f,d,g,j,p,aa]
 rw[au (λh=>u (q.1 h).1)];simp only[u,kJ]at g;simp[U.V0,f,d,g,aa]
structure Mn where
 op:bc
 lost:Bool
 forced:Bool
 begun:Bool
 deriving DecidableEq,Inhabited
@[simp]def Mn.c(x:Mn):aj:=[.psl (x.op.map Mv.c),.bool x.lost,.bool x.forced,.bool x.begun]
structure Sn where
 st:Nat
 mn:Mn
 deriving DecidableEq,Inhabited
abbrev jL:=List Sn
@[simp]def Sn.c(x:Sn):aj:=[iV x.st,.psl (x.mn.op.map Mv.c),.bool x.mn.lost,.bool x.mn.forced,.bool x.mn.begun]
def Mn.over(x:Mn):Bool:=x.begun&&decide (x.op=[])
def YJ(x:Mn)(s:HS):R (.call 68 [.agg x.c] s)=.val (.bool x.over) s:=by
 refine adE ?_;obtain⟨op,l,f,b⟩:=x;cases b
 .simp[U.LI,Mn.over,aa]
 cases op with
 |nil=>simp[U.LI,Mn.over,aa]
 |cons m r=>
  have h:¬((r.length:Int)+1=0):=by omega
  simp[U.LI,Mn.over,aa,h]
def agb(l l':bc)(O:l.length<=400)(s:HS):R (.call 26 [.psl (l.map Mv.c),.psl (l'.map Mv.c)] s)=.val (.bool (decide (l=l'))) s:=by
 refine XS ?_;by_cases y:l.length=l'.length
 case neg=>
  have z:¬(l.length:Int)=l'.length:=by omega
  have h0:¬l=l':=λh=>y (by rw[h])
  rw[ef h0];simp[U.b23,z,aa]
 simp[U.b23,y];generalize C:bJ R (.loop U.CG) _ _=o;have H:=jJ C l.length (λi=>∀h:i<l.length,l[i]=l'[i]'(by omega)) (λi=>[(0,.psl (l.map Mv.c)),(1,.psl (l'.map Mv.c)),(5,iV i)]) [] 0 (λ_ o=>∃q,o=.code .ret q s0/\look q 4=some (.bool false)) (by simp)
  (λi e r t d f=>by
   have g:(i:Int)<l.length:=by omega
   have D:i<l'.length:=by omega
   have j:=nB l[i] l'[i];simp only[Mv.c]at j;simp only[ab,ae]at d;by_cases u:l[i]=l'[i]
   .rw[ey u]at j;simp[U.CG,d,t,g,D,j,bo (n:=400) (show i<400 by omega) (by omega)]at f;subst f;exact .inl ⟨λ_=>u,_,rfl,by simp[d]⟩
   rw[ef u]at j;simp[U.CG,d,t,g,D,j]at f;subst f;exact .inr ⟨λh=>u (h t),by simp,_,rfl,by simp⟩)
  (λe r d f=>by
   simp only[ab,ae]at d;simp[U.CG,d]at f;subst f;exact⟨_,rfl,by simp⟩)
 clear C;rcases H with⟨i,t,_,B,q,rfl,M⟩|⟨p,q,rfl,_⟩
 .have h0:¬l=l':=λh=>B (λ_=>by subst h;rfl)
  simp[M,aa,h0]
 have h0:l=l':=qi y λi E P=>p i E E
 simp[aa,h0]
def nH(l:bc):List (Int×Int):=l.map λm=>(m.id,m.arg)
def agc(l l':bc)(O:l.length<=400)(s:HS):R (.call 67 [.psl (l.map Mv.c),.psl (l'.map Mv.c)] s)=.val (.bool (decide (nH l=nH l'))) s:=by
 refine adD ?_;by_cases y:l.length=l'.length
 case neg=>
  have z:¬(l.length:Int)=l'.length:=by omega
  have h0:¬nH l=nH l':=λh=>y (by have:=cC List.length h;simpa[nH]using this)
  rw[ef h0];simp[U.PO,z,aa]
 simp[U.PO,y];generalize D:bJ R (.loop U.sL) _ _=o;have H:=jJ D l.length (λi=>∀h:i<l.length,l[i].id=(l'[i]'(by omega)).id/\l[i].arg=(l'[i]'(by omega)).arg) (λi=>[(0,.psl (l.map Mv.c)),(1,.psl (l'.map Mv.c)),(5,iV i)]) [] 0 (λ_ o=>∃t,o=.code .ret t s0/\look t 4=some (.bool false)) (by simp)
  (λi e r g f d=>by
   have j:(i:Int)<l.length:=by omega
   have B:i<l'.length:=by omega
   simp only[ab,ae]at f;by_cases p:l[i].id=l'[i].id
   .by_cases u:l[i].arg=l'[i].arg
    .simp[U.sL,f,g,j,B,p,u,bo (n:=400) (show i<400 by omega) (by omega)]at d;subst d;exact .inl ⟨λ_=>⟨p,u⟩,_,rfl,by simp[f]⟩
    simp[U.sL,f,g,j,B,p,u]at d;subst d;exact .inr ⟨λh=>u (h g).2,by simp,_,rfl,by simp⟩
   simp[U.sL,f,g,j,B,p]at d;subst d;exact .inr ⟨λh=>p (h g).1,by simp,_,rfl,by simp⟩)
  (λe r f d=>by
   simp only[ab,ae]at f;simp[U.sL,f]at d;subst d;exact⟨_,rfl,by simp⟩)
 clear D;rcases H with⟨i,g,_,C,t,rfl,M⟩|⟨q,t,rfl,_⟩
 .have h0:¬nH l=nH l':=λh=>C (λ_=>by
   have:=cC (λl=>l[i]?) h;simpa[nH,g,show i<l'.length by omega]using this)
  simp[M,aa,h0]
 have h0:nH l=nH l':=qi (by simpa[nH]using y) λi E P=>by have:=q i (by simpa[nH]using E) (by simpa[nH]using E);simp[nH,this]
 simp[aa,h0]
def YK(x y:Sn)(r:x.mn.op.length<=400)(s:HS):R (.call 71 [.agg x.c,.agg y.c] s)=.val (.bool (decide (x=y))) s:=by
 refine adH ?_;obtain⟨p,op,l,f,b⟩:=x;obtain⟨d,g,t,u,z⟩:=y;have h:=agb op g (by simpa using r);by_cases q:p=d
 .subst q;cases l<;>cases t<;>cases f<;>cases u<;>cases b<;>cases z<;>simp[U.P1,h,aa]
 have j:¬(p:Int)=d:=by omega
 simp[U.P1,q,j,aa]
def uF(top m:Mv):Bool:=decide (m.id=top.id)&&decide (m.arg=top.arg)&&decide (m.kind=3)&&(decide (top.kind=1)||decide (m.n<=0))
def gS(a:Ar)(x:Mn)(m:Mv):Bool:=
 if fv a m then
  if x.begun then
   match x.op.getLast? with
   |none=>false
   |some top=>
    if x.lost||x.forced then uF top m&&cJ m
    else if de m then
     if decide (0<top.id)&&decide (top.arg=0)then decide (m.id=top.id)&&decide (0<m.arg)else decide (0<m.id)&&decide (m.arg=0)
    else if cJ m&&decide (top.arg=0)then uF top m&&decide (0<top.id)&&a.jumps
    else uF top m
  else decide (m.id=0)&&de m
 else false
section
variable{m top:Mv}{e:En}{s:HS}{o:Ky}
def Tb(f:look e 5=some (.aw m.c))(g:look e 7=some (.ptr o 0))(d:ak s.h o=some (.cells (cM top.c) 0 4 o)):bJ R U.fH e s=.code .normal (e.p8 8 (.bool (uF top m))) s:=by
 simp only[Mv.c]at f d;unfold uF;by_cases j:m.id=top.id
 .by_cases p:m.arg=top.arg
  .by_cases q:m.kind=3
   .by_cases r:top.kind=1<;>simp[f,g,d,j,p,q,r]
   simp[f,g,d,j,p,q]
  simp[f,g,d,j,p]
 simp[f,g,d,j]
end
def YL(a:Ar)(ok:dW a)(Q:aI a=0)(x:Mn)(C:x.op.length<=400)(m:Mv)(s:HS):R (.call 69 [.agg x.c,.agg a.c,.agg m.c] s)=.val (.bool (gS a x m)) s:=by
 refine adF ?_;obtain⟨op,l,f,b⟩:=x;have d:=X9 a ok Q m;have g:=U5 m;have j:=Su m;unfold gS;simp only[Ar.c,Mv.c]at d g j;cases D:fv a m
 .rw[D]at d;simp-implicitDefEqProofs[-U.fH,U.Hw,d,aa]
 rw[D]at d;cases b
 .by_cases h0:m.id=0
  .simp only[h0]at g d;simp-implicitDefEqProofs[-U.fH,U.Hw,d,g,aa,h0]
  simp-implicitDefEqProofs[-U.fH,U.Hw,d,aa,h0]
 by_cases E:op.length=0
 .have h:=iJ E;subst h;simp-implicitDefEqProofs[-U.fH,U.Hw,d,aa]
 obtain⟨n,H⟩:∃n,op.length=n+1:=⟨op.length-1,by omega⟩;have C:op.length<=400:=C;have z:n<op.length:=by omega
 have T:bQ .i64 ((op.length:Int)-1)=n:=by rw[H];simp;exact bT (by omega) (by omega)
 have p:op.getLast?=some op[n]:=by rw[Tc,H];simp
 rw[p];generalize y:op[n]=top;have B:op≠ []:=λh=>E (by rw[h];rfl)
 simp-implicitDefEqProofs[-U.fH,U.Hw,d,B,T,z,y,s0,ai,an];rw[Tb (m:=m) (top:=top) (o:=.e) (by simp) (by simp) (by simp)];generalize uF top m=M;cases q:(l||f)
 .obtain⟨rfl,rfl⟩:l=false/\f=false:=by revert q;cases l<;>cases f<;>simp
  cases O:de m
  .rw[O]at g;cases P:cJ m
   .rw[P]at j;simp[-U.fH,g,j,aa]
   rw[P]at j;by_cases r:top.arg=0
   .cases M
    .simp[-U.fH,g,j,r,aa]
    by_cases u:0<top.id<;>simp[-U.fH,g,j,r,u,aa]
   simp[-U.fH,g,j,r,aa]
  rw[O]at g;by_cases u:0<top.id
  .by_cases r:top.arg=0
   .by_cases t:m.id=top.id
    .simp only[t]at g;simp[-U.fH,g,u,r,t,aa]
    simp[-U.fH,g,u,r,t,aa]
   by_cases t:0<m.id<;>simp[-U.fH,g,u,r,t,aa]
  by_cases t:0<m.id<;>simp[-U.fH,g,u,t,aa]
 cases M
 .cases l
  .cases f
   .cases q
   simp[-U.fH,aa]
  simp[-U.fH,aa]
 cases l
 .cases f
  .cases q
  simp[-U.fH,j,aa]
 simp[-U.fH,j,aa]
def Oj(l:Bool):∃av,aG (HS.mk (.nd (some (.cells (cM [.ah,.bool false,.bool false,.bool false]) 0 4 .e)) (.nd (some (.cells (cM [.ah,.bool l,.bool false,.bool true]) 0 4 (.z .e))) .lf .lf) (.nd (some (.cells (cM []) 0 0 (.o .e))) .lf .lf)) (.z (.z .e)) (.nd (some [.e]) (.nd (some [.z .e]) .lf .lf) (.nd (some [.o .e]) .lf .lf)) .lf) av
  [(.sl (.o .e) 0 0 4,4,[])] [(.z .e,[.ah,.bool l,.bool false,.bool true]),(.e,[.ah,.bool false,.bool false,.bool false])]:=by
 have g:∀(k:Ky) (i:Nat),(if k=Ky.o .e then some 0 else none)=some i->k.toNat<3/\i=0:=λk i p=>by
  by_cases h:k=.o .e
  .subst h;rw[ar rfl]at p;cases p;exact⟨by decide,rfl⟩
  rw[au h]at p;cases p
 refine⟨λk=>if k=.o .e then some 0 else none,⟨λk i p=>(g k i p).1,λk i p=>by rw[(g k i p).2];decide,λi v y r q=>?_⟩,λa o c f=>?_,λa b o c d f g=>?_⟩
 .match i,q with
  |0,q=>
   cases q;refine⟨Sz.nil,λk p=>(g k _ p).1,.inr ⟨.o .e,_,_,.o .e,[],rfl,rfl,by decide,λj t=>?_,rfl,by simp,λm u=>?_,ar rfl⟩⟩
   .simp at t
   rw[dq.1 u];exact ar rfl
  |n+1,q=>simp at q
 .match a,f with
  |0,f=>cases f;exact⟨⟨rfl,rfl,by show Ky.toNat (.z .e)<Ky.toNat (.z (.z .e));decide⟩,rfl⟩
  |1,f=>cases f;exact⟨⟨rfl,rfl,by show Ky.toNat .e<Ky.toNat (.z (.z .e));decide⟩,rfl⟩
  |n+2,f=>simp at f
 match a,b,f,g with
 |0,0,_,_=>rfl
 |1,1,_,_=>rfl
 |0,1,f,g=>cases f;cases g
 |1,0,f,g=>cases f;cases g
 |n+2,_,f,_=>simp at f
 |0,n+2,_,g=>simp at g
 |1,n+2,_,g=>simp at g
def aG.add{s:HS}{av:aZ}{K:dv}{v:HV}{sz:Nat}{aq:aO}(h:aG s av [(v,sz,aq)] K){new:aO}(f:Sz sz new){bw:Nat}(g:aq.length+new.length<=bw):
  ∃d s' c,lS sz bw none (some v) (some (.psl new)) s=.v d s'/\aG s' c [(d,sz,aq++new)] K:=by
 by_cases h0:new=[]
 .subst h0;exact⟨v,s,av,mq (h.mem.own 0 _ _ _ rfl).iz,by rw[BB];exact h⟩
 obtain⟨d,s',c,j,_,p⟩:=h.append 0 rfl f h0 g;exact⟨d,s',c,j,p⟩
def gp(x:Mn)(m:Mv):Mn:=
 if de m then⟨x.op++[m],x.lost,false,true⟩
 else⟨x.op.dropLast,x.lost||(cJ m&&decide (0<m.id)&&decide (m.arg=0)&& !x.forced),cJ m&&decide (0<m.arg),true⟩
section
variable{m:Mv}{e:En}{s s':HS}{o:Ky}
def Td(f:look e 3=some (.aw m.c))(g:look e 5=some (.ptr o 0))(iA:pR 1 (some (.ptr o 2)) (some (.bool (cJ m&&decide (0<m.arg)))) s=.v .undef s'):bJ R U.Es e s=.code .normal e s':=by
 have d:=Su m;simp only[Mv.c]at f d;cases h:cJ m
 .rw[h]at d iA;simp at iA;simp[f,g,d,iA]
 rw[h]at d iA;simp at iA;simp[f,g,d,iA]
def Te{x:Mn}(h:look e 2=some (.aw x.c))(p:look e 3=some (.aw m.c))(q:look e 5=some (.ptr o 0))(iA:pR 1 (some (.ptr o 1)) (some (.bool (x.lost||(cJ m&&decide (0<m.id)&&decide (m.arg=0)&& !x.forced)))) s=.v .undef s'):bJ R U.Et e s=.code .normal e s':=by
 have d:=Su m;obtain⟨op,l,f,b⟩:=x;simp only[Mv.c,Mn.c]at h p d iA;cases l
 .cases r:cJ m
  .rw[r]at d iA;simp at iA;simp-implicitDefEqProofs[h,p,q,d,iA]
  rw[r]at d iA;by_cases j:0<m.id
  .by_cases g:m.arg=0
   .simp[j,g]at iA;simp only[g]at d;simp[h,p,q,d,iA,j,g]
   simp[j,g]at iA;simp[h,p,q,d,iA,j,g]
  simp[j]at iA;simp[h,p,q,d,iA,j]
 simp at iA;simp[h,q,iA]
end
def YM(x:Mn)(H:x.op.length<=400)(m:Mv)(h0:de m=false->x.op≠ [])(s:HS):R (.call 70 [.agg x.c,.agg m.c] s)=.val (.agg (gp x m).c) s:=by
 refine adG ?_;obtain⟨op,l,f,b⟩:=x;have q:=U5 m;have O:=Su m;simp only[Mv.c]at q O;unfold gp;cases P:de m
 .rw[P]at q;have Q:op≠ []:=h0 P;obtain⟨n,hn⟩:∃n,op.length=n+1:=⟨op.length-1,by have:=xK.2 Q;omega⟩;have H:op.length<=400:=H;have T:n<=op.length:=by omega
  have hw:bQ .i64 ((op.length:Int)-1)=n:=by rw[hn];simp;exact bT (by omega) (by omega)
  show _=some (HV.agg (Mn.c ⟨op.dropLast,l||(cJ m&&decide (0<m.id)&&decide (m.arg=0)&& !f),cJ m&&decide (0<m.arg),true⟩));obtain⟨av,V⟩:=Oj l;have d:∀l:bc,Sz 4 (l.map Mv.c):=λl=>Sz.map (f:=Mv.c) (λx=>rfl) l
  have u:=mo (d op);have X:(op.map Mv.c).dropLast=(op.take n).map Mv.c:=by rw[J7,bG,hn,Al];rfl
  obtain⟨v2,s2,y,B,g⟩:=V.add (d (op.take n)) (bw:=4398046511104) (by simp;omega);rw[bA]at g;obtain⟨s3,Y,j⟩:=g.xV (a:=0) rfl 0 (by simp) (g.mem.own 0 _ _ _ rfl).one;simp only[aQ]at j;obtain⟨s4,M,p⟩:=j.xV (a:=0) rfl 2 (by simp) (x:=.bool (cJ m&&decide (0<m.arg))) rfl;simp only[aQ,cd]at p;obtain⟨s5,b5,r⟩:=p.xV (a:=0) rfl 1 (by simp) (x:=.bool (l||(cJ m&&decide (0<m.id)&&decide (m.arg=0)&& !f))) rfl
  simp only[aQ,cd]at r;have C:=(r.bD 0 _ _ rfl).1.1;generalize Z:(l||(cJ m&&decide (0<m.id)&&decide (m.arg=0)&& !f))=q1 at*;generalize h1:(cJ m&&decide (0<m.arg))=q2 at*;obtain⟨s6,b6,t⟩:=r.put (a:=1) rfl (v:=.agg [v2,.bool q1,.bool q2,.bool true]) (new:=[v2,.bool q1,.bool q2,.bool true]) (by simp) rfl;simp only[cd,aQ]at t;have D:=(t.bD 1 _ _ rfl).1.1;simp only[az,aE,bF,Nat.reduceAdd]at b6 D C;rw[Al]at B;simp-implicitDefEqProofs[-U.Es,-U.Et,U.PZ,q,s0,ai,an,hw,T,u,B,Y];rw[X,Td (m:=m) (o:=.z .e) (s':=s4) (by simp) (by simp) (by rw[h1];exact M)];simp only[jR,My];rw[Te (m:=m) (x:=⟨op,l,f,b⟩) (o:=.z .e) (s':=s5) (by simp) (by simp) (by simp) (by show pR 1 _ (some (.bool (l||(cJ m&&decide (0<m.id)&&decide (m.arg=0)&& !f)))) _=_;rw[Z];exact b5)];simp[ao,C,b6,D];refine aH (.agg (.cons ?_ (.data (by simp))));have h:=(t.mem.own 0 _ _ _ rfl).vw (n:=13) (cq (λx=>by simp) _);simpa using h
 rw[P]at q;show _=some (HV.agg (Mn.c ⟨op++[m],l,false,true⟩));obtain⟨av,V⟩:=Oj l;have d:∀l:bc,Sz 4 (l.map Mv.c):=λl=>Sz.map (f:=Mv.c) (λx=>rfl) l
 have H:op.length<=400:=H;obtain⟨v1,s1,h2,a1,E⟩:=V.add (d op) (bw:=4398046511104) (by simp;omega);rw[bA]at E;obtain⟨v2,s2,y,B,g⟩:=E.add (d [m]) (bw:=4398046511104) (by simp;omega);rw[<-List.map_append]at g;obtain⟨s3,Y,j⟩:=g.xV (a:=0) rfl 0 (by simp) (g.mem.own 0 _ _ _ rfl).one;simp only[aQ]at j;have C:=(j.bD 0 _ _ rfl).1.1;obtain⟨s4,M,p⟩:=j.put (a:=1) rfl (v:=.agg [v2,.bool l,.bool false,.bool true]) (new:=[v2,.bool l,.bool false,.bool true]) (by simp) rfl;simp only[cd,aQ]at p;have D:=(p.bD 1 _ _ rfl).1.1;simp only[az,aE,bF,Nat.reduceAdd]at M D C;simp only[cx,mZ,Mv.c]at B;simp-implicitDefEqProofs[U.PZ,q,s0,ai,an,ao,a1,B,Y,M,C,D];refine aH (.agg (.cons ?_ (.data (by simp))));have h:=(p.mem.own 0 _ _ _ rfl).vw (n:=13) (cq (λx=>by simp) _);simpa using h
section
variable{s:HS}{av:aZ}{L:cE}{K:dv}
def aG.join{s':HS}(h:aG s av L K)(f:cX (λ_=>False) s s'){v:HV}{sz:Nat}{F:bU}{aq:aO}(p:ck s' v sz F aq)(g:∀k,F k->s.nx.toNat<=k.toNat):∃d,aG s' d (L++[(v,sz,aq)]) K:=by
 classical
 refine⟨_,h.mem.join f p g,λa o c q=>?_,h.nd⟩;obtain⟨j,r⟩:=h.bD a o c q;refine⟨j.frame f (λh=>h),?_⟩;have:¬F o:=λt=>by have:=g o t;have:=j.2.2;omega
 simp only[this,bn];exact r
def aG.HT(h:aG s av L K)(sz:Nat):∃c,aG {h:=ax (some (.cells (cM []) 0 0 s.nx)) s.nx s.h,nx:=s.nx.succ,gr:=ax (some [s.nx]) s.nx s.gr,ty:=s.ty} c (L++[(.sl s.nx 0 0 sz,sz,[])]) K:=by
 have f:=Ky.aV s.nx;refine h.join (cX.alloc _ _) (F:=λk=>k=s.nx) ⟨Sz.nil,λk d=>by subst d;simp only;omega,.inr ⟨s.nx,cM [],0,s.nx,[],rfl,?_,by simp,λj g=>by simp at g,?_,by simp,by simp,rfl⟩⟩ (λk d=>by subst d;exact aW _)
 .simp only;rw[af,ar rfl]
 simp only;rw[af,ar rfl]
def aG.ds(h:aG s av L K)(c:aj):aG {h:=ax (some (.cells (cM c) 0 c.length s.nx)) s.nx s.h,nx:=s.nx.succ,gr:=ax (some [s.nx]) s.nx s.gr,ty:=s.ty} av L ((s.nx,c)::K):=by
 have q:=Ky.aV s.nx;have g:av s.nx=none:=by cases r:av s.nx with|none=>rfl|some i=>have:=h.mem.bd _ _ r;omega
 have p:=h.frame (cX.alloc (s:=s) (.cells (cM c) 0 c.length s.nx) [s.nx]);refine⟨p.mem,λa o d f=>?_,λa b o d t f j=>?_⟩
 .cases a with
  |zero=>cases f;exact⟨⟨by simp only;rw[af,ar rfl],by simp only;rw[af,ar rfl],by simp only;omega⟩,g⟩
  |succ a=>exact p.bD a o d f
 have key:∀(a:Nat) (d:aj),K[a]?=some (s.nx,d)->False:=λa d f=>by have:=(h.bD a _ _ f).1.2.2;omega
 cases a with
 |zero=>
  cases b with
  |zero=>rfl
  |succ b=>cases f;exact(key b _ j).elim
 |succ a=>
  cases b with
  |zero=>cases j;exact(key a _ f).elim
  |succ b=>rw[h.nd a b o d t f j]
def aG.vx(h:aG s av L K)(i:Nat){v:HV}{sz:Nat}{aq:aO}(d:L[i]?=some (v,sz,aq)){new:aO}(g:Sz sz new){bw:Nat}(j:aq.length+new.length<=bw):
  ∃f s' c,lS sz bw none (some v) (some (.psl new)) s=.v f s'/\cellsOf f=some [f]/\aG s' c (L.set i (f,sz,aq++new)) K:=by
 by_cases h0:new=[]
 .subst h0;obtain⟨q,p⟩:=aS.1 d;refine⟨v,s,av,mq (h.mem.own i _ _ _ d).iz,(h.mem.own i _ _ _ d).one,?_⟩;rw[BB,<-p,xX];exact h
 exact h.append i d g h0 j
end
def agd{x:Ax}(Q:mw x){e:En}{s:HS}{o:Out}{o2 o3:Ky}{vF:HV}{av:aZ}
  (d:bH e [(1,.aw x.c),(2,.ptr o2 0),(3,.ptr o3 0),(4,iV 0)])
  (q:aG s av [(vF,1,x.fi.map bC),(.ah,1,[])] [(o3,[.ah,vF]),(o2,[.ah,.ah])])(X:bJ R (.loop U.CI) e s=o):
  ∃(e':En) (s':HS) (av:aZ) (vN:HV) (aA:cE),o=.code (.exit 0) e' s'/\bH e' [(2,.ptr o2 0),(3,.ptr o3 0)]/\
   aG s' av ((vF,1,x.fi.map bC)::(vN,1,aA.map gw)::aA) [(o3,[vN,vF]),(o2,[.ah,.ah])]/\aA.map (·.2)=x.nx.map (λes=>(5,es.map Ei.c)):=by
 have hn:=Q.n;refine ba X x.nx.length
  (λi e s=>∃(av:aZ) (vN:HV) (aA:cE),bH e [(1,.aw x.c),(2,.ptr o2 0),(3,.ptr o3 0),(4,iV i)]/\
   aG s av ((vF,1,x.fi.map bC)::(vN,1,aA.map gw)::aA) [(o3,[vN,vF]),(o2,[.ah,.ah])]/\aA.map (·.2)=(x.nx.take i).map (λes=>(5,es.map Ei.c))/\aA.length=i)
  (λo=>∃(e':En) (s':HS) (av:aZ) (vN:HV) (aA:cE),o=.code (.exit 0) e' s'/\bH e' [(2,.ptr o2 0),(3,.ptr o3 0)]/\
   aG s' av ((vF,1,x.fi.map bC)::(vN,1,aA.map gw)::aA) [(o3,[vN,vF]),(o2,[.ah,.ah])]/\aA.map (·.2)=x.nx.map (λes=>(5,es.map Ei.c)))
  0 (by omega) ⟨av,.ah,[],d,q,rfl,rfl⟩
  (λi e s r H ⟨av,vN,aA,d,q,E,u⟩ y=>by
   have M:(i:Int)<x.nx.length:=by omega
   have Y:=bo (n:=400) (show i<400 by omega) (by omega);have Z:=Q.row (aR H);obtain⟨T,g⟩:=q.HT 5;have h:=(g.bD 0 o3 _ rfl).1.1;simp only[bx]at g;generalize O:HS.mk _ _ _ _=S1 at g h;have hg:((vF,1,x.fi.map bC)::(vN,1,aA.map gw)::(aA++[(HV.sl s.nx 0 0 5,5,([]:aO))]))[aA.length+2]?=some (HV.sl s.nx 0 0 5,5,[]):=by simp
   obtain⟨t,s2,V,a2,c2,j⟩:=g.vx (aA.length+2) hg (new:=x.nx[i].map Ei.c) (Sz.map (f:=Ei.c) (λx=>rfl) _) (bw:=3518437208883) (by simp;omega);rw[show((vF,1,x.fi.map bC)::(vN,1,aA.map gw)::(aA++[(HV.sl s.nx 0 0 5,5,([]:aO))])).set (aA.length+2) (t,5,[]++x.nx[i].map Ei.c)=(vF,1,x.fi.map bC)::(vN,1,aA.map gw)::(aA++[(t,5,x.nx[i].map Ei.c)]) by simp]at j;have z:=(j.bD 0 o3 _ rfl).1.1;obtain⟨P,s3,B,a3,c3,C⟩:=j.append 1 rfl (new:=[[t]]) (Sz.cons rfl Sz.nil) (by simp) (bw:=5864062014805) (by simp;omega);simp only[cd,aQ]at C;obtain⟨s4,b4,p⟩:=C.xV (a:=0) rfl 0 (by simp) c3;simp only[aQ]at p;rw[show aA.map gw++[[t]]=(aA++[(t,5,x.nx[i].map Ei.c)]).map gw by simp]at p;have D:=(q.bD 0 o3 _ rfl).1.1;simp only[az,aE,bF,Nat.reduceAdd]at D h z;simp only[ab,ae]at d;simp[U.CI,d,H,M,O,D,h,z,a2,c2,a3,b4,Y]at y;subst y;refine .inl ⟨_,_,rfl,B,P,aA++[(t,5,x.nx[i].map Ei.c)],by simp[d],p,?_,by simp[u]⟩;rw[fC H,fB,fB,E];rfl)
  (λe s r ⟨av,vN,aA,d,q,E,u⟩ y=>by
   simp only[ab,ae]at d;simp[U.CI,d]at y;subst y;rw[my]at E;exact⟨by simp,_,_,av,vN,aA,rfl,by simp[d],q,E⟩)
def w69(x:Ax)(H:mw x)(s:HS):R (.call 32 [.agg x.c] s)=.val (.agg x.c) s:=by
 refine q69 ?_;have hf:=H.f;have h0:aG s0 (λ_=>none) [] []:=⟨dR.start (by simp),by simp,by simp⟩;obtain⟨av,q⟩:=(h0.ds [.ah,.ah]).HT 1;have q:aG (HS.mk (.nd (some (.cells (cM [.ah,.ah]) 0 2 .e)) (.nd (some (.cells (cM []) 0 0 (.z .e))) .lf .lf) .lf) (.o .e) (.nd (some [.e]) (.nd (some [.z .e]) .lf .lf) .lf) .lf) av [(.sl (.z .e) 0 0 1,1,[])] [(.e,[.ah,.ah])]:=q;obtain⟨r,s1,V,a1,c1,u⟩:=q.vx 0 rfl (new:=x.fi.map bC) (Sz.map (f:=bC) (λx=>rfl) _) (bw:=140737488355328) (by simp;omega);simp only[aQ,bA]at u;have t:=u.ds [.ah,.ah];have O:=(t.bD 0 _ _ rfl).1.1;generalize y:HS.mk _ _ _ _=S2 at t O;obtain⟨s3,X,B⟩:=t.put (a:=0) rfl (v:=.agg [.ah,r]) (new:=[.ah,r]) (by simp) rfl;simp only[aQ]at B;simp only[az,aE,bF,Nat.reduceAdd]at X y;simp[U.b69,s0,a1,c1,y,X];generalize Y:bJ R (.loop U.CI) _ _=o;obtain⟨e1,s4,Z,M,aA,rfl,C,j,P⟩:=agd (o2:=.e) (o3:=s1.nx) (vF:=r) H (by simp) (B.push 1) Y;clear Y;have cN:cellsOf M=some [M]:=(j.mem.own 1 _ _ _ rfl).one;have cF:cellsOf r=some [r]:=(j.mem.own 0 _ _ _ rfl).one;have hC:=(j.bD 0 _ _ rfl).1.1;obtain⟨s5,b5,d⟩:=j.put (a:=1) rfl (v:=.agg [M,r]) (new:=[M,r]) (by simp) rfl;simp only[cd,aQ]at d;have hE:=(d.bD 1 _ _ rfl).1.1;simp only[az,aE,bF,Nat.reduceAdd]at b5 hE hC;simp only[ab,ae]at C;simp[C,hC,ao,b5,hE];refine aH (.agg (.cons ?_ (.cons ?_ .nil)))
 .have Q:=((d.mem.own 1 _ _ _ rfl).vwH (f:=λe:xI=>e.1) (g:=λe:xI=>HV.psl e.2.2) (n:=14) (λx H=>?_))
  .have:aA.map (λx=>[HV.psl x.2.2])=x.nx.map yC:=by
    have h:=cC (List.map λ(p:Nat×List aj)=>[HV.psl p.2]) P;have D:yC=λx:ft=>[HV.psl (List.map Ei.c x)]:=rfl
    rw[D];simpa[EU]using h
   rw[<-this];exact Q
  obtain⟨k,hk,rfl⟩:=eH.1 H;have q:=cC (λl=>l[k]?) P;simp[hk]at q;have hlen:aA.length=x.nx.length:=by have:=cC List.length P;simpa using this
  have T:k<x.nx.length:=by omega
  have h4:aA[k].2=(5,(x.nx[k]).map Ei.c):=by simp[T]at q;exact q.symm▸rfl
  have E:=d.mem.own (k+2) aA[k].1 5 ((x.nx[k]).map Ei.c) (by simp[hk];rw[<-h4]);rw[h4];exact E.vw (by simp)
 exact(d.mem.own 0 _ _ _ rfl).vw (by simp)
structure Sx where
 a:Ar
 x:Ax
 deriving DecidableEq,Inhabited
@[simp]def Sx.c(s:Sx):aj:=[.psl (s.a.ids.map Ty.c),.bool s.a.root.cell,.int .i64 s.a.root.n,.bool s.a.jumps,.psl (s.x.nx.map yC),.psl (s.x.fi.map bC)]
def w32(t:Sx)(g:t.a.ids.length<=9)(h:∀y∈t.a.ids,y.ps.length<=6)(j:mw t.x)(s:HS):R (.call 9 [.agg t.c] s)=.val (.agg t.c) s:=by refine q32 ?_;have d:=w18 t.a g h;have f:=w69 t.x j;simp only[Ar.c,Ax.c]at d f;simp[U.b32,d,f,s0,ai,an,ao,aa]
open Classical in
def w66(t:Sx)(ok:dW t.a)(p:mw t.x)(v:HV)(b:Bool)(g:aI t.a=0->Fc t.x->∀s,R (.call 42 [.agg t.a.c,.agg t.x.c] s)=.val (.bM [v,.bool b]) s)(s:HS):
  R (.call 15 [.agg t.c] s)=.val (iV (if aI t.a=0 then if Fc t.x then if b then 0 else 13 else 4 else aI t.a)) s:=by
 refine q66 ?_;have d:=w24 t.a ok;have f:=w76 t.x p;simp only[Ar.c,Ax.c]at d f g;by_cases h:aI t.a=0
 .rw[h]at d;by_cases j:Fc t.x
  .have g:=g h j;simp only[j,bj]at f;cases b<;>simp[U.φ,d,f,g,h,j,aa]
  simp only[j,bn]at f;simp[U.φ,d,f,h,j,aa]
 simp[U.φ,d,h,aa]
def py(a b:Int):Int:=if a<b then-1 else if b<a then 1 else 0
def xY{a b:Int}:py a b=0↔a=b:=by
 unfold py
 split
 .omega
 split<;>omega
def pW(a:Int):py a a=0:=xY.2 rfl
def BC{a b:Int}:py a b<0↔a<b:=by
 unfold py
 split
 .omega
 split<;>omega
def age(a:Int)(s:HS):R (.call 196 [iV a] s)=.val (.bool false) s:=by refine afc ?_;simp[U.WS,aa]
def agf(a:Int)(s:HS):R (.call 197 [.int .u8 a] s)=.val (.bool false) s:=by refine afd ?_;simp[U.WT,aa]
def agh(a b:Int)(s:HS):R (.call 185 [iV a,iV b] s)=.val (iV (py a b)) s:=by
 refine ae4 ?_;have h:=age;simp only[iV]at h;unfold py;by_cases c:a<b
 .simp[U.RW,h,c,aa]
 by_cases d:b<a<;>simp[U.RW,h,c,d,aa]
def agi(a b:Int)(s:HS):R (.call 186 [.int .u8 a,.int .u8 b] s)=.val (iV (py a b)) s:=by
 refine ae5 ?_;have h:=agf;unfold py;by_cases c:a<b
 .simp[U.RX,h,c,aa]
 by_cases d:b<a<;>simp[U.RX,h,c,d,aa]
def HU:aY->Int
 |[]=>0
 |a::r=>if a=0 then HU r else a
def J8:∀{l:aY} {i:Nat} (c:i<l.length),(∀j,(h:j<i)->l[j]'(by omega)=0)->l[i]≠0->HU l=l[i]
 |[],i,c,_,_=>by simp at c
 |a::r,0,_,_,h=>by simp at h;simp[HU,h]
 |a::r,i+1,c,d,f=>by have h0:=d 0 (by omega);simp only[Bo]at h0;have g:=J8 (l:=r) (i:=i) (by simpa using c) (λj h=>by have:=d (j+1) (by omega);simpa using this) (by simpa using f);simp[HU,h0,g]
def J9{l:aY}(h:∀i,(c:i<l.length)->l[i]=0):HU l=0:=by induction l with|nil=>rfl|cons a r d=>have h0:=h 0 (by simp);simp only[Bo]at h0;rw[HU,ar h0];exact d λi c=>by have:=h (i+1) (by simpa using c);simpa using this
def agj(l:aY)(E:l.length<=400)(s:HS):R (.call 184 [.psl (l.map iC)] s)=.val (iV (HU l)) s:=by
 refine ae3 ?_;simp[U.WM];generalize y:bJ R (.loop U.wS) _ _=o;have z:=jJ y l.length (λi=>∀h:i<l.length,l[i]=0) (λi=>[(3,iV 0),(6,.psl (l.map iC)),(7,iV l.length),(8,iV i)]) [(3,iV 0)] 0 (λi o=>∃h:i<l.length,∃q,o=.code .ret q s0/\look q 2=some (iV l[i])) (by simp)
  (λi e r c d f=>by
   have g:(i:Int)<l.length:=by omega
   simp only[ab,ae]at d;by_cases t:l[i]=0
   .simp[U.wS,d,c,g,t,bo (n:=400) (show i<400 by omega) (by omega)]at f;subst f;exact .inl ⟨λ_=>t,_,rfl,by simp[d]⟩
   simp[U.wS,d,c,g,t]at f;subst f;exact .inr ⟨λh=>t (h c),by simp,c,_,rfl,by simp⟩)
  (λe r d f=>by
   simp only[ab,ae]at d;simp[U.wS,d]at f;subst f;exact⟨_,rfl,by simp[d]⟩)
 clear y;rcases z with⟨i,c,B,C,_,q,rfl,u⟩|⟨p,q,rfl,u⟩
 .rw[J8 c (λj D=>B j D (by omega)) (λh=>C λ_=>h)];simp[u,aa]
 rw[J9 (λi c=>p i c c)];simp only[ab,ae]at u;simp[u,aa]
def agk(a b:Mv)(s:HS):R (.call 160 [.agg a.c,.agg b.c] s)=.val (.bool (ff a b)) s:=by
 refine aeC ?_;have d:=agh;have f:=agi;have g:=agj [py a.id b.id,py a.arg b.arg,py a.kind b.kind,py a.n b.n] (by simp);simp only[iV,cx,mZ,iC]at d f g;have j:decide (HU [py a.id b.id,py a.arg b.arg,py a.kind b.kind,py a.n b.n]<0)=ff a b:=by
  unfold ff;by_cases h:a.id=b.id
  .by_cases p:a.arg=b.arg
   .by_cases q:a.kind=b.kind
    .by_cases r:a.n=b.n
     .simp[HU,h,p,q,r,pW]
     have:=mt xY.1 r;simp[HU,h,p,q,pW,this,BC]
    have:=mt xY.1 q;simp[HU,h,p,q,pW,this,BC]
   have:=mt xY.1 p;simp[HU,h,p,pW,this,BC]
  have:=mt xY.1 h;simp[HU,h,this,BC]
 simp[U.WD,d,f,g,j,aa]
def qQ(l:ft):Prop:=∀k,(h:k+1<l.length)->ff l[k].m l[k+1].m=true
open Classical in
def agl(l:ft)(V:l.length<=6000)(s:HS):R (.call 135 [.psl (l.map Ei.c)] s)=.val (.bool (decide (qQ l))) s:=by
 refine aeg ?_;have z:bQ .i64 ((l.length:Int)-1)=(l.length:Int)-1:=bT (by omega) (by omega);simp[U.Wt,z];generalize D:bJ R (.loop U.wG) _ _=o;have H:=jJ D (l.length-1) (λi=>∀h:i+1<l.length,ff l[i].m l[i+1].m=true) (λi=>[(0,.psl (l.map Ei.c)),(6,iV ((l.length:Int)-1)),(7,iV i)]) [] 0 (λ_ o=>∃u,o=.code .ret u s0/\look u 2=some (.bool false)) (by simp)
  (λi e r M f g=>by
   have h0:i<l.length:=by omega
   have O:(i:Int)<l.length:=by omega
   obtain⟨j,B⟩:∃j,j=i+1:=⟨_,rfl⟩;have p:j<l.length:=by omega
   have P:(j:Int)<l.length:=by omega
   have y:(i:Int)<(l.length:Int)-1:=by omega
   have E:bQ .i64 ((i:Int)+1)=(j:Int):=by rw[B];exact bo (n:=6000) (show i<6000 by omega) (by omega)
   have d:=agk l[i].m l[j].m;simp only[Mv.c]at d;simp only[ab,ae]at f;cases q:ff l[i].m l[j].m
   .rw[q]at d;simp[U.wG,f,h0,p,y,E,d]at g;subst g;subst B;exact .inr ⟨λh=>(by rw[h p]at q;cases q),by simp,_,rfl,by simp⟩
   rw[q]at d;simp[U.wG,f,h0,p,y,E,d]at g;subst g;subst B;exact .inl ⟨λ_=>q,_,rfl,by simp[f]⟩)
  (λe r f g=>by
   simp only[ab,ae]at f;have y:¬((l.length-1:Nat):Int)<(l.length:Int)-1:=by omega
   simp[U.wG,f,y]at g;subst g;exact⟨_,rfl,by simp⟩)
 clear D;rcases H with⟨i,M,_,C,u,rfl,Q⟩|⟨t,u,rfl,_⟩
 .have h0:¬qQ l:=λh=>C (λp=>h i p)
  simp[Q,aa,h0]
 have h0:qQ l:=λk T=>t k (by omega) T
 simp[aa,h0]
def mE(n:Nat)(e:Ei):Bool:=decide (e.to<0)||decide ((n:Int)<=e.to)
def agm(x:Ax)(e:Ei)(s:HS):R (.call 162 [.agg e.c,.aw x.c] s)=.val (.bool (mE x.nx.length e)) s:=by
 refine aeE ?_;unfold mE;by_cases d:e.to<0
 .simp[U.Ry,d,aa]
 by_cases f:(x.nx.length:Int)<=e.to<;>simp[U.Ry,d,f,aa]
def yZ{α:Type}(p:α->Bool)(l:List α):Int:=if l.any p then(l.findIdx p:Int)else-1
def vj{α:Type}{p:α->Bool}{l:List α}{i:Nat}(c:i<l.length)(f:∀j,(h:j<i)->p (l[j]'(by omega))=false)(d:p l[i]=true):yZ p l=i:=by unfold yZ;rw[ar (sF.2 ⟨_,cp c,d⟩),qP c f d]
def mG{α:Type}{p:α->Bool}{l:List α}(h:∀i,(c:i<l.length)->p l[i]=false):yZ p l= -1:=by unfold yZ;rw[au];simp only[BD,xJ];intro a d;obtain⟨i,c,rfl⟩:=eH.1 d;simp[h i c]
def xZ{α:Type}(p:α->Bool)(l:List α):decide (0<=yZ p l)=l.any p:=by unfold yZ;cases l.any p<;>simp
def agn(x:Ax)(l:ft)(O:l.length<=6000)(s:HS):R (.call 187 [.psl (l.map Ei.c),.fn 162 [] [.aw x.c]] s)=.val (iV (yZ (mE x.nx.length) l)) s:=by
 refine X2 ?_ rfl (by simp[dX]);simp[U.RY];generalize z:bJ R (.loop U.nu) _ _=o;have B:=jJ z l.length (λi=>∀h:i<l.length,mE x.nx.length l[i]=false) (λi=>[(0,.psl (l.map Ei.c)),(1,.fn 162 [] [.aw x.c]),(7,iV l.length),(8,iV i)]) [] 0 (λi o=>∃y,o=.code .ret y s0/\look y 4=some (iV i)) (by simp)
  (λi e r f g p=>by
   have q:(i:Int)<l.length:=by omega
   have d:=agm x l[i];simp only[Ei.c,Ax.c]at d;simp only[ab,ae]at g;cases t:mE x.nx.length l[i]
   .rw[t]at d;simp[U.nu,g,f,q,d,bo (n:=6000) (show i<6000 by omega) (by omega)]at p;subst p;exact .inl ⟨λ_=>t,_,rfl,by simp[g]⟩
   rw[t]at d;simp[U.nu,g,f,q,d]at p;subst p;exact .inr ⟨λh=>(by rw[h f]at t;cases t),by simp,_,rfl,by simp⟩)
  (λe r g p=>by
   simp only[ab,ae]at g;simp[U.nu,g]at p;subst p;exact⟨_,rfl,by simp⟩)
 clear z;rcases B with⟨i,f,C,D,y,rfl,E⟩|⟨u,y,rfl,_⟩
 .have H:mE x.nx.length l[i]=true:=by
   cases h:mE x.nx.length l[i]
   .exact absurd (λ_=>h) D
   rfl
  rw[vj f (λj M=>C j M (by omega)) H];simp[E,aa]
 rw[mG (λi f=>u i f f)];simp[aa]
def ago(x:Ax)(l:ft)(d:l.length<=6000)(s:HS):R (.call 164 [.psl (l.map Ei.c),.fn 162 [] [.aw x.c]] s)=.val (.bool (l.any (mE x.nx.length))) s:=by refine aeG ?_ rfl (by simp[dX]);have h:=agn x l d;simp only[Ax.c,iV]at h;rw[<-xZ];simp[U.WH,h,aa]
def agp(x:Ax)(l:ft)(d:l.length<=6000)(s:HS):R (.call 163 [.psl (l.map Ei.c),.aw [.fn 162 [] [.aw x.c]]] s)=.val (.bool (l.any (mE x.nx.length))) s:=by refine aeF ?_ rfl (by simp[dX]);have h:=ago x l d;simp only[Ax.c]at h;simp[U.WG,h,aa]
def agq(x:Ax)(B:mw x)(s:HS):R (.call 165 [.psl (x.nx.map yC),.fn 163 [] [.aw [.fn 162 [] [.aw x.c]]]] s)=.val (iV (yZ (λl:ft=>l.any (mE x.nx.length)) x.nx)) s:=by
 refine XZ ?_ rfl (by simp[dX]);have Q:=B.n;simp[U.Rz];generalize C:bJ R (.loop U.ns) _ _=o;have D:=jJ C x.nx.length (λi=>∀h:i<x.nx.length,x.nx[i].any (mE x.nx.length)=false) (λi=>[(0,.psl (x.nx.map yC)),(1,.fn 163 [] [.aw [.fn 162 [] [.aw x.c]]]),(7,iV x.nx.length),(8,iV i)]) [] 0 (λi o=>∃z,o=.code .ret z s0/\look z 4=some (iV i)) (by simp)
  (λi e r f g q=>by
   have t:(i:Int)<x.nx.length:=by omega
   have d:=agp x x.nx[i] (B.row (aR f));simp only[Ax.c]at d;simp only[ab,ae]at g;cases u:x.nx[i].any (mE x.nx.length)
   .rw[u]at d;simp[U.ns,g,f,t,d,bo (n:=6000) (show i<6000 by omega) (by omega)]at q;subst q;exact .inl ⟨λ_=>u,_,rfl,by simp[g]⟩
   rw[u]at d;simp[U.ns,g,f,t,d]at q;subst q;exact .inr ⟨λh=>(by rw[h f]at u;cases u),by simp,_,rfl,by simp⟩)
  (λe r g q=>by
   simp only[ab,ae]at g;simp[U.ns,g]at q;subst q;exact⟨_,rfl,by simp⟩)
 clear C;rcases D with⟨i,f,E,H,z,rfl,M⟩|⟨y,z,rfl,_⟩
 .have O:x.nx[i].any (mE x.nx.length)=true:=by
   cases h:x.nx[i].any (mE x.nx.length)
   .exact absurd (λ_=>h) H
   rfl
  rw[vj (p:=λl:ft=>l.any (mE x.nx.length)) f (λj P=>E j P (by omega)) O];simp[M,aa]
 rw[mG (p:=λl:ft=>l.any (mE x.nx.length)) (λi f=>y i f f)];simp[aa]
def agr(x:Ax)(d:mw x)(s:HS):R (.call 138 [.psl (x.nx.map yC),.fn 163 [] [.aw [.fn 162 [] [.aw x.c]]]] s)=.val (.bool (x.nx.any λl=>l.any (mE x.nx.length))) s:=by refine XY ?_ rfl (by simp[dX]);have h:=agq x d;simp only[Ax.c,iV]at h;rw[<-xZ];simp[U.QV,h,aa]
def Ka(x:Ax):lU x=(decide (0<x.nx.length)&&decide (x.nx.length=x.fi.length)&& !(x.nx.any λl=>l.any (mE x.nx.length))):=by
 unfold lU;rw[qf];simp only[bX,aL,rq,xJ,mE,nS,BD,and_assoc];constructor
 .rintro⟨c,d,f⟩
  refine⟨c,d,λl g=>?_⟩;intro e h;have:=f l g e h;omega
 rintro⟨c,d,f⟩
 refine⟨c,d,λl g e h=>?_⟩;have:=f l g e h;omega
def ags(x:Ax)(u:mw x)(s:HS):R (.call 137 [.agg x.c] s)=.val (.bool (lU x)) s:=by
 refine aei ?_;have d:=agr x u;rw[Ka];have y:∀(S:HS) (o j:Ky),ak S.h o=some (.cells (cM [.fn 162 [] [.ptr j 0]]) 0 1 o)->ak S.h j=some (.cells (cM x.c) 0 2 j)->R (.call 138 [.psl (x.nx.map yC),.fn 163 [] [.ptr o 0]] S)=.val (.bool (x.nx.any λl=>l.any (mE x.nx.length))) S:=λS o j B p=>by refine aej (by simp[cj,bV]) (.cons (.data (by simp)) (.cons (Vw.fn .nil (.cons (Vw.ptr B rfl (.cons (Vw.fn .nil (.cons (Vw.ptr p rfl (.data (by simp[dX]))) .nil)) .nil)) .nil)) .nil)) (by simp[dX]) rfl d
 have f:=λS=>y S (.z .e) .e
 simp only[Ax.c]at f;by_cases r:0<x.nx.length
 .have q:0<(x.nx.length:Int):=by omega
  by_cases t:x.nx.length=x.fi.length
  .have g:(x.nx.length:Int)=x.fi.length:=by omega
   have C:0<x.fi.length:=by omega
   have D:0<(x.fi.length:Int):=by omega
   simp-implicitDefEqProofs[U.Mi,t,C,f,s0,ai,an,aa]
  have g:¬(x.nx.length:Int)=x.fi.length:=by omega
  simp[U.Mi,r,t,g,s0,ai,an,aa]
 have q:¬0<(x.nx.length:Int):=by omega
 simp[U.Mi,r,s0,ai,an,aa]
def agt(x:Ax)(p:mw x)(s:HS):R (.call 161 [.agg x.c] s)=.val (iV (x.nx.map List.length).sum) s:=by
 refine aeD ?_;have z:=p.n;have q:∀r∈x.nx,r.length<=70368744177664:=λr f=>by obtain⟨i,g⟩:=tO.1 f;have:=p.row g;omega
 simp[U.WE];generalize t:bJ R (.loop U.A5) _ _=o;have u:=jJ t x.nx.length (λ_=>True) (λi=>[(6,.psl (x.nx.map yC)),(2,iV (pn x.nx i)),(7,iV x.nx.length),(8,iV i)]) [(2,iV (pn x.nx x.nx.length))] 0 (λ_ _=>True) (by simp[pn])
  (λi e r g d f=>by
   have j:(i:Int)<x.nx.length:=by omega
   have:=Bh q i (by omega);have:=q _ (cp g);have y:bQ .i64 ((pn x.nx i:Int)+(x.nx[i].length:Int))=(pn x.nx (i+1):Nat):=by rw[sY g,bT (by omega) (by omega)];simp
   simp only[ab,ae]at d;simp[U.A5,d,g,j,y,bo (n:=400) (show i<400 by omega) (by omega)]at f;subst f;exact .inl ⟨trivial,_,rfl,by simp[d]⟩)
  (λe r d f=>by
   simp only[ab,ae]at d;simp[U.A5,d]at f;subst f;exact⟨_,rfl,by simp[d]⟩)
 clear t;rcases u with⟨i,_,_,h,_⟩|⟨_,B,rfl,d⟩
 .exact absurd trivial h
 rw[C5]at d;simp only[ab,ae]at d;simp[d,aa]
def agu(x:Ax)(g:mw x)(s:HS):R (.call 136 [.agg x.c] s)=.val (.bool false) s:=by
 refine aeh ?_;have d:=agt x g;have p:(x.nx.length:Int)<=400:=by have:=g.n;omega
 have q:(x.fi.length:Int)<=400:=by have:=g.f;omega
 have r:(((x.nx.map List.length).sum:Nat):Int)<=6000:=by have:=g.e;omega
 have h:¬(6000:Int)<((x.nx.map List.length).sum:Nat):=by omega
 simp only[Ax.c]at d;have j:¬(400:Int)<max (x.nx.length:Int) x.fi.length:=by omega
 simp[U.Wu,j,d,h,aa]
def Tf(a b:Ei):ql ⟨true,[0,0,0,0,0]⟩ (.agg a.c) (.agg b.c)=some (decide (a=b)):=by rw[vc _ _ _ rfl rfl];simp only[Ei.c];rw[ee _ _ _ _ _ _ (fg ..) (ee _ _ _ _ _ _ (fg ..) (ee _ _ _ _ _ _ (fg ..) (ee _ _ _ _ _ _ (fg ..) (ee _ _ _ _ _ _ (fg ..) u9))))];obtain⟨⟨d,f,g,h⟩,j⟩:=a;obtain⟨⟨p,q,r,t⟩,u⟩:=b;simp[A9]
def agv(l l':cb)(O:l.length<=6000)(s:HS):R (.call 166 [.psl (l.map bC),.psl (l'.map bC)] s)=.val (.bool (decide (l=l'))) s:=by
 refine aeH ?_;by_cases j:l.length=l'.length
 case neg=>
  have u:¬(l.length:Int)=l'.length:=by omega
  have h0:¬l=l':=λh=>j (by rw[h])
  rw[ef h0];simp[U.RA,u,aa]
 simp[U.RA,j];generalize z:bJ R (.loop U.wJ) _ _=o;have D:=jJ z l.length (λi=>∀h:i<l.length,l[i]=l'[i]'(by omega)) (λi=>[(0,.psl (l.map bC)),(1,.psl (l'.map bC)),(12,iV l'.length),(13,iV i)]) [] 0 (λ_ o=>∃p,o=.code .ret p s0/\look p 4=some (.bool false)) (by simp)
  (λi e r q c d=>by
   have E:(i:Int)<l.length:=by omega
   have B:i<l'.length:=by omega
   have f:(i:Int)<l'.length:=by omega
   have H:=bo (n:=6000) (show i<6000 by omega) (by omega);simp only[ab,ae]at c;by_cases t:l[i]=l'[i]
   .simp[U.wJ,c,q,B,f,t,H]at d;subst d;exact .inl ⟨λ_=>t,_,rfl,by simp[c]⟩
   simp[U.wJ,c,q,B,f,t]at d;subst d;exact .inr ⟨λh=>t (h q),by simp,_,rfl,by simp⟩)
  (λe r c d=>by
   simp only[ab,ae]at c;simp[U.wJ,c,j]at d;subst d;exact⟨_,rfl,by simp⟩)
 clear z;rcases D with⟨i,q,_,y,p,rfl,M⟩|⟨g,p,rfl,_⟩
 .have h0:¬l=l':=λh=>y (λ_=>by subst h;rfl)
  simp[M,aa,h0]
 have h0:l=l':=qi j λi C P=>g i C C
 simp[aa,h0]
def agw(l l':ft)(Q:l.length<=6000)(s:HS):R (.call 168 [.psl (l.map Ei.c),.psl (l'.map Ei.c)] s)=.val (.bool (decide (l=l'))) s:=by
 refine aeJ ?_;by_cases q:l.length=l'.length
 case neg=>
  have z:¬(l.length:Int)=l'.length:=by omega
  have h0:¬l=l':=λh=>q (by rw[h])
  rw[ef h0];simp[U.RC,z,aa]
 simp[U.RC,q];generalize C:bJ R (.loop U.wL) _ _=o;have H:=jJ C l.length (λi=>∀h:i<l.length,l[i]=l'[i]'(by omega)) (λi=>[(0,.psl (l.map Ei.c)),(1,.psl (l'.map Ei.c)),(12,iV l'.length),(13,iV i)]) [] 0 (λ_ o=>∃t,o=.code .ret t s0/\look t 4=some (.bool false)) (by simp)
  (λi e r u d f=>by
   have M:(i:Int)<l.length:=by omega
   have D:i<l'.length:=by omega
   have g:(i:Int)<l'.length:=by omega
   have O:=bo (n:=6000) (show i<6000 by omega) (by omega);have j:=Tf l[i] l'[i];simp only[Ei.c]at j;simp only[ab,ae]at d;by_cases y:l[i]=l'[i]
   .rw[ey y]at j;simp[U.wL,d,u,D,g,j,O]at f;subst f;exact .inl ⟨λ_=>y,_,rfl,by simp[d]⟩
   rw[ef y]at j;simp[U.wL,d,u,D,g,j]at f;subst f;exact .inr ⟨λh=>y (h u),by simp,_,rfl,by simp⟩)
  (λe r d f=>by
   simp only[ab,ae]at d;simp[U.wL,d,q]at f;subst f;exact⟨_,rfl,by simp⟩)
 clear C;rcases H with⟨i,u,_,B,t,rfl,P⟩|⟨p,t,rfl,_⟩
 .have h0:¬l=l':=λh=>B (λ_=>by subst h;rfl)
  simp[P,aa,h0]
 have h0:l=l':=qi q λi E T=>p i E E
 simp[aa,h0]
def agx(l l':List ft)(Q:l.length<=6000)(E:∀r∈l,r.length<=6000)(s:HS):R (.call 167 [.psl (l.map yC),.psl (l'.map yC),.fn 168 [] []] s)=.val (.bool (decide (l=l'))) s:=by
 refine aeI ?_ rfl (by simp[dX]);by_cases p:l.length=l'.length
 case neg=>
  have y:¬(l.length:Int)=l'.length:=by omega
  have h0:¬l=l':=λh=>p (by rw[h])
  rw[ef h0];simp[U.RB,y,aa]
 simp[U.RB,p];generalize B:bJ R (.loop U.wK) _ _=o;have H:=jJ B l.length (λi=>∀h:i<l.length,l[i]=l'[i]'(by omega)) (λi=>[(1,.psl (l'.map yC)),(2,.fn 168 [] []),(15,.psl (l.map yC)),(16,iV l'.length),(17,iV i)]) [] 0 (λ_ o=>∃q,o=.code .ret q s0/\look q 6=some (.bool false)) (by simp)
  (λi e r f d c=>by
   have M:(i:Int)<l.length:=by omega
   have C:i<l'.length:=by omega
   have g:(i:Int)<l'.length:=by omega
   have O:=bo (n:=6000) (show i<6000 by omega) (by omega);have t:=agw l[i] l'[i] (E _ (cp f));simp only[ab,ae]at d;by_cases u:l[i]=l'[i]
   .rw[ey u]at t;simp[U.wK,d,f,C,g,t,O]at c;subst c;exact .inl ⟨λ_=>u,_,rfl,by simp[d]⟩
   rw[ef u]at t;simp[U.wK,d,f,C,g,t]at c;subst c;exact .inr ⟨λh=>u (h f),by simp,_,rfl,by simp⟩)
  (λe r d c=>by
   simp only[ab,ae]at d;simp[U.wK,d,p]at c;subst c;exact⟨_,rfl,by simp⟩)
 clear B;rcases H with⟨i,f,_,z,q,rfl,P⟩|⟨j,q,rfl,_⟩
 .have h0:¬l=l':=λh=>z (λ_=>by subst h;rfl)
  simp[P,aa,h0]
 have h0:l=l':=qi p λi D T=>j i D D
 simp[aa,h0]
def agy(x y:Ax)(h:mw x)(s:HS):R (.call 139 [.agg x.c,.agg y.c] s)=.val (.bool (decide (x=y))) s:=by
 refine aek ?_;have d:=agv x.fi y.fi (by have:=h.f;omega);have g:=agx x.nx y.nx (by have:=h.n;omega) (λr p=>by obtain⟨i,q⟩:=tO.1 p;exact h.row q);obtain⟨z,t⟩:=x;obtain⟨B,u⟩:=y;by_cases j:t=u
 .subst j;simp[U.QX,d,g,aa]
 simp only[j,kJ]at d;simp[U.QX,d,j,aa]
def zR{a b:Mv}:ff a b=true↔a.id<b.id∨(a.id=b.id/\(a.arg<b.arg∨(a.arg=b.arg/\(a.kind<b.kind∨(a.kind=b.kind/\a.n<b.n))))):=by
 unfold ff;by_cases c:a.id=b.id
 .by_cases d:a.arg=b.arg
  .by_cases f:a.kind=b.kind<;>simp[c,d,f]
  simp[c,d]
 simp[c]
def Di{a b c:Mv}(d:ff a b=true)(f:ff b c=true):ff a c=true:=by rw[zR]at*;omega
def zS(a:Mv):ff a a=false:=by
 cases h:ff a a
 .rfl
 rw[zR]at h;omega
def uB.lt{l:bq}(h:uB l)(i:Nat):∀j,(d:j<l.length)->(c:i<j)->ff l[i].m l[j].m=true
 |0,_,c=>by omega
 |j+1,d,c=>by
  have f:=h j d;by_cases g:i=j
  .subst g;exact f
  exact Di (uB.lt h i j (by omega) (by omega)) f
def uB.uniq{l:bq}(h:uB l){e e':Eg}(g:e∈l)(d:e'∈l)(f:e.m=e'.m):e=e':=by
 obtain⟨i,p,rfl⟩:=eH.1 g;obtain⟨j,q,rfl⟩:=eH.1 d;rcases DY i j with c|c|c
 .have:=h.lt i j q c;rw[f,zS]at this;cases this
 .subst c;rfl
 have:=h.lt j i p c;rw[f,zS]at this;cases this
def zU:∀(l:bc) (m:Mv),(∀x∈l,ff x m=true)->j3 l m=l++[m]
 |[],m,_=>rfl
 |a::r,m,h=>by rw[j3,ar (h a (by simp)),zU r m (λx c=>h x (by simp[c]))];rfl
def Gk{l:bq}(h:uB l):∀k,k<=l.length->pr (l.take k)=(l.take k).map (·.m)
 |0,_=>by simp[pr]
 |k+1,j=>by
  have c:k<l.length:=by omega
  rw[fC c,rP,Gk h k (by omega),zU,fB]
  .rfl
  intro m d;obtain⟨e,f,rfl⟩:=dt.1 d;obtain⟨i,g,rfl⟩:=eH.1 f;rw[List.getElem_take];simp at g;exact h.lt i k c (by omega)
def Gl(aU:cb)(m:Mv):∀(row:bq) (t:Int),(0<=t∨∃e∈row,gQ aU m e=true)->0<=row.foldl (λt e=>if gQ aU m e then(e.to:Int)else t) t
 |[],t,h=>by
  rcases h with h|⟨_,h,_⟩
  .exact h
  cases h
 |a::r,t,h=>by
  rw[mY];refine Gl aU m r _ ?_;by_cases c:gQ aU m a=true
  .rw[ar c];exact .inl (by omega)
  rw[au c];rcases h with h|⟨e,d,h⟩
  .exact .inl h
  rcases bk.1 d with rfl|d
  .exact(c h).elim
  exact .inr ⟨e,d,h⟩
def Tg{row:bq}(h:uB row){aU:cb}{e:Eg}(d:e∈row)(g:aU.getD e.to false=true):Gi row aU e.m=(e.to:Int):=by
 have h0:0<=Gi row aU e.m:=Gl aU e.m row (-1) (.inr ⟨e,d,by unfold gQ;rw[g];simp⟩);rcases pV row aU e.m with p|⟨q,c,f,j⟩
 .omega
 simp only[gQ,aL,bX]at f;rw[j,h.uniq c d f.1]
def ya{n:Nat}{of:aY}{aU:cb}{row:bq}(f:∀e∈row,e.to<n):∀(ms:bc) (P:ay) (c:bq),∃t,(ms.foldl (yD of aU row) (P,c)).1=P++t/\
  (∀j∈t,aU.getD j false=true)/\(gR n of P->gR n of (ms.foldl (yD of aU row) (P,c)).1)
 |[],P,c=>⟨[],by simp,by simp,id⟩
 |m::ms,P,c=>by
  rw[mY];have iA:∃t d,yD of aU row (P,c) m=(P++t,d)/\(∀j∈t,aU.getD j false=true)/\(gR n of P->gR n of (P++t)):=by
   unfold yD;simp only;by_cases h0:Gi row aU m<0
   .rw[ar h0];exact⟨[],c,by simp⟩
   rw[au h0];rcases pV row aU m with u|⟨e,y,h,p⟩
   .omega
   rw[p,hY];by_cases q:mM of P e.to=P.length
   .rw[ar q];simp only[gQ,aL]at h;exact⟨[e.to],_,rfl,λj g=>by rw[dq.1 g];exact h.2,λr=>r.snoc (f e y) q⟩
   rw[au q];exact⟨[],_,by simp;rfl,by simp⟩
  obtain⟨t,d,u,h,p⟩:=iA;rw[u];obtain⟨z,B,C,D⟩:=ya f ms (P++t) d;refine⟨t++z,by rw[B];simp,λj g=>?_,λr=>D (p r)⟩;rcases cP.1 g with g|g
  .exact h j g
  exact C j g
def zV(c:Nat)(e:Eg):Nat:=if e.to=c then c+1 else c
def fW(c:Nat)(es:bq):Nat:=es.foldl zV c
def tj(c:Nat)(es:bq)(e:Eg):fW c (es++[e])=zV (fW c es) e:=by simp[fW]
structure Dj(x:Fa):Prop where
 live:∀i,i<x.nx.length->Lv x i
 inj:∀B,Bis x (List.replicate x.nx.length true) B->∀a b,B a b->a=b
 bfs:∃c:Nat->Nat,c 0=1/\c x.nx.length=x.nx.length/\∀i,i<x.nx.length->i<c i/\c i<=x.nx.length/\c (i+1)=fW (c i) (x.nx.getD i [])/\∀k e,(x.nx.getD i [])[k]?=some e->e.to<=fW (c i) ((x.nx.getD i []).take k)
section
variable{x:Fa}{of:aY}{aU:cb}
def rT{i:Nat}(h:i<(cD x of aU i).1.length):cD x of aU (i+1)=((mD of aU (x.nx.getD ((cD x of aU i).1.getD i 0) []) (cD x of aU i).1 (pr (x.nx.getD ((cD x of aU i).1.getD i 0) []))).1,
  (cD x of aU i).2.1++[(mD of aU (x.nx.getD ((cD x of aU i).1.getD i 0) []) (cD x of aU i).1 (pr (x.nx.getD ((cD x of aU i).1.getD i 0) []))).2],(cD x of aU i).2.2++[x.fi.getD ((cD x of aU i).1.getD i 0) false]):=by
 rw[cD];simp only[ar h]
def jt(f:cf x)(p:Nat):∀e∈x.nx.getD p [],e.to<x.nx.length:=by
 intro e c;by_cases d:p<x.nx.length
 .rw[getD_at d]at c;exact f.to _ (cp d) e c
 rw[eD,zq (by omega)]at c;simp at c
def BE(d:cf x)(h0:aU.getD 0 false=true):∀i,gR x.nx.length of (cD x of aU i).1/\(∀j∈(cD x of aU i).1,aU.getD j false=true)/\(cD x of aU i).1[0]?=some 0/\(cD x of aU i).2.1.length=(cD x of aU i).2.2.length
 |0=>by refine⟨⟨by intro j c;simp[cD]at c;have:=d.pos;omega,by simp[cD]⟩,by intro j c;simp[cD]at c;subst c;exact h0,by simp[cD]⟩
 |i+1=>by
  obtain⟨f,g,h,p⟩:=BE d h0 i;by_cases r:i<(cD x of aU i).1.length
  .rw[rT r];obtain⟨t,q,u,y⟩:=ya (of:=of) (aU:=aU) (jt d ((cD x of aU i).1.getD i 0)) (pr (x.nx.getD ((cD x of aU i).1.getD i 0) [])) (cD x of aU i).1 [];refine⟨y f,?_,?_,by simp[p]⟩
   .show∀j∈(mD _ _ _ _ _).1,_;unfold mD;rw[q];intro j c;rcases cP.1 c with c|c
    .exact g j c
    exact u j c
   show(mD _ _ _ _ _).1[0]?=_;unfold mD;rw[q,ea (by omega)];exact h
  rw[rS (by omega) 1];exact⟨f,g,h,p⟩
def Gm(c:cf x)(i:Nat):∀d,(cD x of aU i).1<+:(cD x of aU (i+d)).1/\(cD x of aU i).2.1<+:(cD x of aU (i+d)).2.1/\(cD x of aU i).2.2<+:(cD x of aU (i+d)).2.2
 |0=>⟨BF _,BF _,BF _⟩
 |d+1=>by
  obtain⟨f,g,h⟩:=Gm c i d;rw[show i+(d+1)=i+d+1 by omega];by_cases j:i+d<(cD x of aU (i+d)).1.length
  .rw[rT j];obtain⟨t,p,_⟩:=ya (of:=of) (aU:=aU) (jt c ((cD x of aU (i+d)).1.getD (i+d) 0)) (pr (x.nx.getD ((cD x of aU (i+d)).1.getD (i+d) 0) [])) (cD x of aU (i+d)).1 [];refine⟨f.trans ?_,g.trans (BG _ _),h.trans (BG _ _)⟩;show _<+:(mD _ _ _ _ _).1;unfold mD;rw[p];exact BG _ _
  rw[rS (by omega) 1];exact⟨f,g,h⟩
def Dk{M:ay}{row:bq}:∀(es:bq) (P:ay) (d:bq),(∀e∈es,Gi row aU e.m=(e.to:Int))->((es.map (·.m)).foldl (yD of aU row) (P,d)).1<+:M->
  ((es.map (·.m)).foldl (yD of aU row) (P,d)).2=d++es.map (λe=>⟨e.m,mM of M e.to⟩)/\∃c:bq->Nat,c []=P.length/\c es=((es.map (·.m)).foldl (yD of aU row) (P,d)).1.length/\
   ∀k e,es[k]?=some e->(mM of M e.to<=c (es.take k))/\c (es.take (k+1))=if mM of M e.to=c (es.take k)then c (es.take k)+1 else c (es.take k)
 |[],P,d,_,_=>⟨by simp,λ_=>P.length,rfl,rfl,λk e h=>by simp at h⟩
 |e::es,P,d,X,y=>by
  rw[cx,mY]at y ⊢;have h0:=X e (by simp);have iA:yD of aU row (P,d) e.m=(if mM of P e.to=P.length then P++[e.to]else P,d++[⟨e.m,mM of P e.to⟩]):=by unfold yD;simp only[h0,au (show¬(e.to:Int)<0 by omega),hY]
  rw[iA]at y ⊢;generalize f:(if mM of P e.to=P.length then P++[e.to]else P)=u at y ⊢;obtain⟨t,z⟩:∃t,((es.map (·.m)).foldl (yD of aU row) (u,d++[⟨e.m,mM of P e.to⟩])).1=u++t:=by
   clear y iA f;generalize d++[(⟨e.m,mM of P e.to⟩:Eg)]=g;generalize es.map (·.m)=Y
   induction Y generalizing u g with
   |nil=>exact⟨[],by simp⟩
   |cons m Y Z=>
    rw[mY];obtain⟨E,B⟩:∃E B,yD of aU row (u,g) m=(u++E,B):=by
     unfold yD;simp only
     split
     .exact⟨[],g,by simp⟩
     split
     .exact⟨_,_,rfl⟩
     exact⟨[],_,by simp;rfl⟩
    obtain⟨B,hq⟩:=B;rw[hq];obtain⟨t,h⟩:=Z (u++E) B;exact⟨E++t,by rw[h];simp⟩
  have C:u<+:M:=by refine List.IsPrefix.trans ?_ y;rw[z];exact BG _ _
  have q:mM of P e.to=mM of M e.to:=by
   obtain⟨r,hr⟩:=C;unfold mM at f ⊢;rw[<-hr];by_cases O:(P.findIdx λj=>decide (of.getD j 0=of.getD e.to 0))=P.length
   .rw[ar O]at f;rw[<-f,O,Bk,Th,au (by omega)];simp[List.findIdx_cons]
   rw[au O]at f;have Q:(P.findIdx λj=>decide (of.getD j 0=of.getD e.to 0))<P.length:=by have:=Ta (xs:=P) (p:=λj=>decide (of.getD j 0=of.getD e.to 0));omega
   rw[<-f,Th,ar Q]
  obtain⟨h1,c,c0,c1,c2⟩:=Dk es u (d++[⟨e.m,mM of P e.to⟩]) (λT V=>X T (by simp[V])) y;refine⟨by rw[h1,q];simp,λl=>if l=[]then P.length else c l.tail,by simp,by simpa using c1,λk T H=>?_⟩;have D:u.length=if mM of M e.to=P.length then P.length+1 else P.length:=by
   rw[<-f,q]
   split<;>simp
  cases k with|zero=>simp only[xS,bL]at H;subst H;simp only[SM,bj,Bq,Ti,c0,D,reduceCtorEq,bn];exact⟨by rw[<-q];exact S9,trivial⟩|succ k=>simp only[Bp]at H;simp only[Bq,Ti,reduceCtorEq,bn];exact c2 k T H
end
def rV{α β:Type}{p:β->Bool}{q:α->Bool}{f:α->β}:∀{l:List α},(∀e∈l,p (f e)=q e)->(l.map f).find? p=(l.find? q).map f
 |[],_=>rfl
 |a::l,h=>by
  have c:=h a (by simp);have d:=rV (l:=l) (λe g=>h e (by simp[g]));rw[cx,ti,ti,c];cases q a
  .simpa using d
  rfl
def BH{α:Type}{l l':List α}(h:l<+:l'){i:Nat}{v:α}(c:l[i]?=some v):l'[i]?=some v:=by obtain⟨t,rfl⟩:=h;rw[ea (aS.1 c).1];exact c
def gR.inj{n:Nat}{of:aY}{c:ay}(h:gR n of c){a b:Nat}(r:a∈c)(t:b∈c)(g:of.getD a 0=of.getD b 0):a=b:=by
 obtain⟨i,p,rfl⟩:=eH.1 r;obtain⟨j,q,rfl⟩:=eH.1 t;have f:=List.pairwise_iff_getElem.1 h.nd;simp only[bG,Bu]at f;rcases DY i j with d|d|d
 .exact(f i j p q d g).elim
 .subst d;rfl
 exact(f j i q p d g.symm).elim
def gR.nodup{n:Nat}{of:aY}{c:ay}(h:gR n of c):c.Nodup:=List.Pairwise.of_map _ (λa b (d:of.getD a 0≠of.getD b 0) e=>d (by rw[e])) h.nd
def gR.at{n:Nat}{of:aY}{c:ay}(h:gR n of c){t:Nat}(f:t∈c):c[mM of c t]?=some t:=by have d:mM of c t<c.length:=List.findIdx_lt_length_of_exists ⟨t,f,by simp⟩;have g:decide (of.getD c[mM of c t] 0=of.getD t 0)=true:=List.findIdx_getElem (w:=d);rw[aR d,h.inj (cp d) f (by simpa using g)]
def Tj{x:Fa}(D:cf x)(ha:sZ x)(hl:gK x=x):x=lD∨Dj x:=by
 obtain⟨⟨u,hu,h0,h1⟩,_,_⟩:=tX D;rw[hl]at h0 h1;cases Q:u[0]?with
 |none=>have:=BA.1 Q;have:=hu.1;have:=D.pos;omega
 |some b=>
 cases b
 .exact .inl (h0 Q)
 right;obtain⟨of,hs,hq⟩:=h1 Q;clear h0 h1;have hz:=D.pos;have k5:=D.nf;have h6:u.getD 0 false=true:=by rw[eD,Q];rfl
 have hN:(cD x of u x.nx.length).2.1=x.nx:=(cC Fa.nx hq).symm;have hF:(cD x of u x.nx.length).2.2=x.fi:=(cC Fa.fi hq).symm;generalize V:x.nx.length=n at*;have E:∀i,i<n->i<(cD x of u i).1.length:=by intro i y;apply Az;intro hc;have d:=rS (x:=x) (of:=of) (aU:=u) (i:=i) (by omega) (n-i);rw[show i+(n-i)=n by omega]at d;have g:=(Gj D of u i).1;rw[<-d,hN,V]at g;omega
 have hlen:∀i,i<=n->(cD x of u i).2.1.length=i:=by
  intro i
  induction i with|zero=>intro _;rfl|succ i ih=>intro y;rw[rT (E i (by omega))];simp[ih (by omega)]
 obtain⟨H,h7,_,_⟩:=BE (of:=of) D h6 n;rw[V]at H;have z:∀i,i<=n->(cD x of u i).1<+:(cD x of u n).1/\(cD x of u i).2.1<+:(cD x of u n).2.1/\(cD x of u i).2.2<+:(cD x of u n).2.2:=by intro i y;have:=Gm (of:=of) (aU:=u) D i (n-i);rwa[show i+(n-i)=n by omega]at this
 generalize h8:(cD x of u n).1=f at*;have Z:f.length=n:=by have d:=H.len;have g:=E (n-1) (by omega);have P:=(z (n-1) (by omega)).1.length_le;omega
 have h:∀j,j<n->j∈f:=by
  intro j hj;apply Az;intro hc;have:=xW n (j::f) (me.2 ⟨hc,H.nodup⟩) (λk X=>by
   rcases bk.1 X with rfl|X
   .exact hj
   exact H.lt k X)
  simp at this;omega
 have T:∀j,j<n->u.getD j false=true:=λj hj=>h7 j (h j hj)
 have C:∀j,j<n->u[j]?=some true:=by
  intro j hj;have d:=T j hj;rw[eD]at d;cases g:u[j]?with
  |none=>rw[g]at d;cases d
  |some b=>rw[g]at d;simpa using d
 have O:∀i p,i<n->f[i]?=some p->x.nx.getD i []=(x.nx.getD p []).map (λe=>⟨e.m,mM of f e.to⟩)/\x.fi[i]?=x.fi[p]?/\
   ∃c:bq->Nat,c []=(cD x of u i).1.length/\c (x.nx.getD p [])=(cD x of u (i+1)).1.length/\∀k e,(x.nx.getD p [])[k]?=some e->(mM of f e.to<=c ((x.nx.getD p []).take k))/\
    c ((x.nx.getD p []).take (k+1))=if mM of f e.to=c ((x.nx.getD p []).take k)then c ((x.nx.getD p []).take k)+1 else c ((x.nx.getD p []).take k):=by
  intro i p y hp;have ho:=H.lt p (cG hp);have hr:(cD x of u i).1.getD i 0=p:=by have d:=aR (E i y);have g:=BH (z i (by omega)).1 d;rw[hp]at g;rw[eD,d];simp only[Option.getD_some];exact(lz g).symm
  have iA:=rT (of:=of) (aU:=u) (E i y);rw[hr]at iA;have Y:uB (x.nx.getD p []):=by rw[getD_at (by rw[V];exact ho)];exact ha _ (cp _)
  have h9:pr (x.nx.getD p [])=(x.nx.getD p []).map (·.m):=by have:=Gk Y _ (aW _);rwa[my]at this
  have r:=jt D p;rw[V]at r;obtain⟨g1,g2,g3⟩:=z (i+1) (by omega);rw[iA]at g1 g2 g3;unfold mD at g1 g2;rw[h9]at g1 g2;obtain⟨k1,c,k2,k3,k4⟩:=Dk (M:=f) (x.nx.getD p []) (cD x of u i).1 [] (λe he=>Tg Y he (T _ (r e he))) g1;refine⟨?_,?_,c,k2,?_,k4⟩
  .have d:=BH g2 (i:=i) (by rw[iG (by rw[hlen i (by omega)];exact aW _),hlen i (by omega),oz];rfl);rw[hN,k1]at d;rw[eD,d];simp
  .have hd:(cD x of u i).2.2.length=i:=by rw[<-(BE (of:=of) D h6 i).2.2.2,hlen i (by omega)]
   have d:=BH g3 (i:=i) (by rw[iG (by rw[hd];exact aW _),hd,oz];rfl);rw[hF]at d;rw[d,aR (by omega),getD_at (by omega)]
  rw[k3,iA];unfold mD;rw[h9]
 have hid:∀i,i<n->f[i]?=some i:=by
  have hB:Bis x u λa b=>a<n/\f[a]?=some b:=by
   refine⟨λa b ⟨d,g⟩=>?_,λa b ⟨d,g⟩ m=>?_⟩
   .have hb:=H.lt b (cG g);exact⟨by omega,by omega,(O a b d g).2.1,by rw[C a d,C b hb]⟩
   have r:=jt D b;rw[V]at r;rw[(O a b d g).1,rV (q:=gQ u m) (λe he=>by
    simp only[gQ];have P:=H.at (h _ (r e he));rw[T _ (r e he),T _ (by have:=(aS.1 P).1;omega)])]
   cases h5:(x.nx.getD b []).find? (gQ u m)with|none=>trivial|some e=>have P:=H.at (h _ (r e (Bl h5)));exact⟨by have:=(aS.1 P).1;rw[Z]at this;exact this,P⟩
  intro i y;have d:=aR (show i<f.length by omega);have g:=hs.cls.coarse _ hB i _ ⟨y,d⟩;have P:=H.inj (h i y) (cp (show i<f.length by omega)) (lG g 0);rw[d,<-P]
 have hf:∀t,t<n->mM of f t=t:=by intro t ht;have d:=H.at (h t ht);have g:=hid (mM of f t) (by have:=(aS.1 d).1;omega);rw[d]at g;exact(lz g).symm
 refine⟨λi y=>(hu.2 i).1 (C i (by omega)),λB hB a b hg=>?_,λi=>(cD x of u i).1.length,by simp[cD],by rw[V];simp only[h8,Z],λi y=>?_⟩
 .have hy:List.replicate x.nx.length true=u:=by
   have k6:=hu.1;refine qi (by simp;omega) λk d g=>?_
   have P:=C k (by omega);rw[aR g]at P;simp only[List.getElem_replicate];exact(lz P).symm
  rw[hy]at hB;obtain⟨d,g,_⟩:=hB.fi a b hg;exact H.inj (h a (by omega)) (h b (by omega)) (lG (hs.cls.coarse B hB a b hg) 0)
 rw[V]at y ⊢;obtain⟨_,_,c,k2,k3,k4⟩:=O i i y (hid i y);have r:=jt D i;rw[V]at r;have hc:∀k,k<=(x.nx.getD i []).length->c ((x.nx.getD i []).take k)=fW (cD x of u i).1.length ((x.nx.getD i []).take k):=by
  intro k
  induction k with|zero=>intro _;simp[fW,k2]|succ k ih=>intro X;have d:=aR (show k<(x.nx.getD i []).length by omega);have g:=(k4 k _ d).2;rw[hf _ (r _ (cp _))]at g;rw[g,fC (show k<(x.nx.getD i []).length by omega),tj,<-ih (by omega)];rfl
 refine⟨E i y,by have:=(z i (by omega)).1.length_le;rw[Z]at this;exact this,?_,λk e X=>?_⟩
 .have:=hc _ (aW _);rw[my,k3]at this;exact this
 have k0:=(aS.1 X).1;have d:=(k4 k e X).1;rw[hf _ (r e (cG X)),hc k (by omega)]at d;exact d
def Tl(c:List Rs)(o:Out):Bool:=match o with
 |.code (.exit _) _ _=>false
 |.code _ e s=>(match n4 (dN e s c) s with|.val v s'=>uH s' 16 v|_=>false)
 |_=>false
def pz(F:HF)(ih:Task->Out)(args:aj):fL F ih args=Tl F.rs (bJ ih F.c (bb args 0) s0):=by
 unfold fL;cases bJ ih F.c (bb args 0) s0 with
 |val=>rfl
 |bad=>rfl
 |code x e s=>
  cases x with
  |exit=>rfl
  |normal=>show(match leave F e s with|.val v s'=>uH s' 16 v|_=>false)=(match n4 (dN e s F.rs) s with|.val v s'=>uH s' 16 v|_=>false);rw[jH]
  |ret=>show(match leave F e s with|.val v s'=>uH s' 16 v|_=>false)=(match n4 (dN e s F.rs) s with|.val v s'=>uH s' 16 v|_=>false);rw[jH]
def rW{c:List Rs}{e:En}{s s':HS}{v:HV}(h:n4 (dN e s c) s=.val v s')(d:uH s' 16 v=true):Tl c (.code .ret e s)=true:=by show(match n4 (dN e s c) s with|.val v s'=>uH s' 16 v|_=>false)=true;rw[h];exact d
def rX{f:HV->Bool}:∀{l:aj},(∀v∈l,f v=true)->uu f l=true
 |[],_=>rfl
 |a::r,h=>by rw[uu,h a (by simp),rX λv c=>h v (by simp[c])];rfl
section
variable{s:HS}{n:Nat}
def yb{v:HV}(h:eN v=true):uH s (n+1) v=true:=by show(bif eN v then true else _)=true;rw[h];rfl
def Gn{l:aj}(h:∀v∈l,uH s n v=true):uH s (n+1) (.bM l)=true:=rX h
def Nd{l:aj}(h:∀v∈l,uH s n v=true):uH s (n+1) (.agg l)=true:=rX h
def zW{v:HV}{sz:Nat}{F:bU}{aq:aO}(h:ck s v sz F aq)(d:∀c∈aB aq,uH s n c=true):uH s (n+1) v=true:=by
 have f:=h;rcases h.2.2 with⟨rfl,_⟩|⟨o,t,j,g,rest,rfl,_⟩
 .rfl
 show(bif Nat.beq aq.length 0 then true else(match s.bz o 0 (aq.length*sz)with|some l=>uu (uH s n) l|none=>false))=true;rw[ib,f.cells.2];cases Nat.beq aq.length 0
 .exact rX d
 rfl
def pX{v:HV}{sz:Nat}{F:bU}{aq:aO}(h:ck s v sz F aq)(d:∀c∈aB aq,eN c=true):uH s (n+2) v=true:=zW h λc f=>yb (d c f)
def Gp(l:aY):∀c∈aB (l.map iC),eN c=true:=by
 induction l with
 |nil=>intro c d;cases d
 |cons a l f=>
  intro c d;rw[cx,cV]at d;rcases cP.1 d with h|h
  .rw[dq.1 h];rfl
  exact f c h
def Gq(l:cb):∀c∈aB (l.map bC),eN c=true:=by
 induction l with
 |nil=>intro c d;cases d
 |cons a l f=>
  intro c d;rw[cx,cV]at d;rcases cP.1 d with h|h
  .rw[dq.1 h];rfl
  exact f c h
def Kc(l:bq):∀c∈aB (l.map Eg.c),eN c=true:=by
 induction l with
 |nil=>intro c d;cases d
 |cons a l f=>
  intro c d;rw[cx,cV]at d;rcases cP.1 d with h|h
  .simp only[Eg.c,bk,BI,BJ]at h;rcases h with rfl|rfl|rfl|rfl|rfl<;>rfl
  exact f c h
end
@[simp]def YN{s:HS}{neg:Bool}{r:aj}{l:aO}:CZ 0 neg (some (.psl (r::l))) s=.v (.bool (false != neg)) s:=rfl
@[simp]def YO{s:HS}{neg:Bool}:CZ 0 neg (some .ah) s=.v (.bool (true != neg)) s:=rfl
@[simp]def agz{s:HS}{neg:Bool}{o:Ky}{a b c:Nat}:CZ 0 neg (some (.sl o a b c)) s=.v (.bool (false != neg)) s:=rfl
section
variable{s:HS}{av:aZ}{L:cE}{K:dv}
def aG.cut(h:aG s av L K)(i:Nat){v:HV}{sz:Nat}{aq:aO}(r:L[i]?=some (v,sz,aq))(n:Nat)(t:n<=aq.length)(h0:aq≠ []):∃g,v=.sl g 0 aq.length sz/\aG s av (L.set i (.sl g 0 n sz,sz,aq.take n)) K:=by
 obtain⟨g,u,y⟩:=(h.mem.own i v sz aq r).cut n t h0;have p:=(aS.1 r).1;refine⟨g,u,⟨h.mem.bd,λk j z=>by rw[jc];exact h.mem.top k j z,λj w q c d=>?_⟩,h.bD,h.nd⟩;rw[gP]at d;by_cases f:i=j
 .subst f;rw[ar rfl,ar p]at d;cases d;exact y
 rw[au f]at d;exact h.mem.own j w q c d
def YP(h:aG s av L K)(b:Bool)(t:cb)(M:t.length<=100000):∃v s' c,R (.call 176 [.psl ([.bool b]::t.map bC)] s)=.val v s'/\cellsOf v=some [v]/\aG s' c (L++[(v,1,(b::t).map bC)]) K:=by
 obtain⟨y,z⟩:=h.HT 1;generalize j:HS.mk _ _ _ _=O at z;have D:(L++[(HV.sl s.nx 0 0 1,1,([]:aO))])[L.length]?=some (.sl s.nx 0 0 1,1,[]):=by simp
 obtain⟨v,s2,d,p,E,B⟩:=z.vx L.length D (new:=(b::t).map bC) (Sz.map (f:=bC) (λx=>rfl) _) (bw:=140737488355328) (by simp;omega);have g:(L++[(HV.sl s.nx 0 0 1,1,([]:aO))]).set L.length (v,1,[]++(b::t).map bC)=L++[(v,1,(b::t).map bC)]:=by simp
 rw[g]at B;rw[cx]at p;have q:∃u,ev R U.Jv (bb [.psl ([.bool b]::t.map bC)] 0) s=.code .ret u s2/\look u 2=some v:=by generalize C:ev R U.Jv (bb [.psl ([.bool b]::t.map bC)] 0) s=r;simp only[bC]at p;simp[U.Jv,j,p]at C;subst C;exact⟨_,rfl,by simp⟩
 obtain⟨u,q,H⟩:=q;exact⟨v,s2,d,aeV ⟨.ret,_,s2,q,.inr rfl,by simp[H]⟩,E,B⟩
end
def agA(l:ft)(q:l.length<=100000)(s:HS):R (.call 177 [.psl (l.map Ei.c)] s)=.val (.psl (l.map Ei.c)) s:=by cases l with|nil=>exact aeW|cons a t=>refine aeX (by simp[dX]) ?_;have h0:aG s0 (λ_=>none) [] []:=⟨dR.start (by simp),by simp,by simp⟩;obtain⟨av,g⟩:=h0.HT 5;simp only[bA]at g;generalize h:HS.mk _ _ _ _=u at g;obtain⟨y,s1,p,j,z,d⟩:=g.vx 0 rfl (new:=(a::t).map Ei.c) (Sz.map (f:=Ei.c) (λx=>rfl) _) (bw:=3518437208883) (by simp at q ⊢;omega);simp only[aQ,bA]at d;have r:=(d.mem.own 0 _ _ _ rfl).vw (n:=14) (by exact cq (λx=>by simp[dX]) _);rw[cx]at j;simp only[Ei.c]at j;simp[U.RJ,h,j];have:=aH r;simpa using this
end Go.Proofs.YtepamfbheocmhaaGreatDoor.K.Hm.S
