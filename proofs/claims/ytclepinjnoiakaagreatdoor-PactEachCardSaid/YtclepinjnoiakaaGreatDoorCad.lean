/- PactEach returns true, part 4. -/
import Derived.Test.YtclepinjnoiakaaGreatDoorCac
set_option linter.all false
open List renaming length_singleton->dM,cons_append->bB,nil_append->bD,getLast?_map->TD,length_cons->aA,length_nil->aE,getElem_cons_zero->yL,getElem?_cons_zero->yM,find?_cons->ue,length_dropLast->TO,mem_of_getLast?->TQ,mem_of_mem_tail->TT,set_cons_zero->aS,flatten_cons->TU,set_cons_succ->cb,any_map->TV,findIdx_eq_length->TX
open Bool renaming or_true->TF
open Int renaming toNat_natCast->jy,natCast_zero->TN
open Function renaming comp_def->tS
open Nat renaming add_zero->fR
set_option maxRecDepth 10000
noncomputable section
namespace Go.Proofs.YtclepinjnoiakaaGreatDoor.K.Hm.S
open Go
def FJ(x:Wk)(v1 v2 v3 v4:HV):ak:=[.psl (x.a.ids.map Ty.c),.bool x.a.root.cell,.int .i64 x.a.root.n,.bool x.a.jumps,v1,v2,v3,v4,.bool x.lost,.int .i64 x.pT]
def Y5(x:Wk)(v1 v2 v3 v4:HV):cS:=[(v1,4,x.w.map Mv.c),(v2,1,x.op.map nC),(v3,1,x.pt.map iC),(v4,1,x.js.map iC)]
def Eu(s:HS)(o:Ky)(x:Wk):Prop:=∃v1 v2 c d aw,iU s o (FJ x v1 v2 c d) aw (Y5 x v1 v2 c d)
def Eu.VL{n:Nat}{s:HS}{o:Ky}{x:Wk}(h:Eu s o x):Vw s (n+4) (.ptr o 0) (.ax x.c):=by obtain⟨v1,v2,d,f,aw,h⟩:=h;refine Vw.ptr h.bz.1 rfl ?_;exact .cons (.data (by simp)) (.cons (.data (by simp)) (.cons (.data (by simp)) (.cons (.data (by simp)) (.cons ((h.own 0 _ _ _ rfl).vw (by simp)) (.cons ((h.own 1 _ _ _ rfl).vw (by simp)) (.cons ((h.own 2 _ _ _ rfl).vw (by simp)) (.cons ((h.own 3 _ _ _ rfl).vw (by simp)) (.cons (.data (by simp)) (.cons (.data (by simp)) .nil)))))))))
def Eu.vw{s:HS}{o:Ky}{x:Wk}(h:Eu s o x):nz s 16 [.ptr o 0] [.ax x.c]:=.cons h.VL .nil
def bI(x:Wk)(m:Mv):Wk:=
 if cz m then{x with w:=x.w++[m],op:=x.op++[x.w.length],pt:=x.pt++[-1],js:=x.js++[if 0<m.arg then((x.op.getLastD 0:Nat):Int)else if 0<m.id then 0 else-1],pT:=max x.pT (x.op.length+1)}
 else{x with w:=x.w++[m],op:=x.op.dropLast,pt:=x.pt.set (x.op.getLastD 0) x.w.length++[((x.op.getLastD 0:Nat):Int)],js:=x.js++[((x.op.getLastD 0:Nat):Int)],lost:=x.lost||(bQ m&&decide (0<m.id)&&decide (m.arg=0)&& !bk x.w)}
def qo{o:Ky}{k:Nat}{l:ak}:cC (.ptr o k::l)=false:=by rw[cC];simp[cr]
def Y6(x:Wk)(t:iz x)(m:Mv)(Z:cz m=true)(cO:0<m.arg->x.op≠ [])(s:HS)(o:Ky)(h:Eu s o x):
  ∃s',R (.call 129 [.ptr o 0,.agg m.c] s)=.val (.bN []) s'/\Eu s' o (bI x m):=by
 have E:R (.call 65 [.ptr o 0] s)=.val (.bool (bk x.w)) s:=v65 qo h.vw (by simp) rfl (w65 x t);obtain⟨v1,v2,v3,v4,aw,h⟩:=h;have hl:=t.len;have u:=YV m;simp only[Mv.c]at u;have f4:=h.get 4 rfl;have l1:=h.len 0 rfl;obtain⟨H,s1,hb,a1,c1,h1⟩:=h.append 0 rfl (new:=[m.c]) (Sz.cons rfl Sz.nil) (by simp) (bx:=4398046511104) (by simp;omega);obtain⟨s2,b1,f⟩:=h1.field 4 (by simp[FJ]) c1;have g5:=f.get 5 rfl;have l5:=f.len 1 rfl;simp only[Mv.c]at a1;generalize z:(if 0<m.arg then((x.op.getLastD 0:Nat):Int)else if 0<m.id then 0 else-1)=j;have key:∀(e:En) (r:Out),ev R U.tG e s2=r->look e 0=some (.ptr o 0)->look e 3=some (.ax m.c)->look e 6=some (iV (-1))->∃g,r=.code .normal g s2/\look g 6=some (iV j)/\look g 0=some (.ptr o 0)/\look g 4=look e 4:=by
  intro e r d B M e6;by_cases p:0<m.arg
  .obtain⟨k,n,q⟩:∃k n,x.op=k++[n]:=by
    rcases ly x.op with O|⟨k,n,O⟩
    .exact absurd O (cO p)
    exact⟨k,n,by simpa using O⟩
   have hlen:x.op.length=k.length+1:=by rw[q];simp
   obtain⟨o1,i1,i2⟩:=f.at1 1 rfl k.length (by simp[hlen]);have hg:=t.DO;have hw:bR .i64 (k.length:Int)=k.length:=bM (by omega) (by omega);simp[q]at i1 i2 l5;simp[U.tG,B,M,p,g5,l5,hw,i1,i2]at d;subst d;refine⟨_,rfl,?_,by simp[B]⟩;rw[<-z,ar p,q];simp
  by_cases C:0<m.id
  .simp[U.tG,M,p,C]at d;subst d;exact⟨_,rfl,by simp[<-z,p,C,B]⟩
  simp[U.tG,M,p,C]at d;subst d;exact⟨_,rfl,by simp[<-z,p,C,e6,B]⟩
 have p5:=f.get 5 rfl;have p6:=f.get 6 rfl;have p7:=f.get 7 rfl;obtain⟨P,s3,hd,a2,c2,Q⟩:=f.append 1 rfl (new:=[[iV x.w.length]]) (Sz.cons rfl Sz.nil) (by simp) (bx:=17592186044416) (by have:=t.DO;simp;omega);have q6:=Q.get 6 rfl;have q7:=Q.get 7 rfl;obtain⟨T,s4,hf,a3,c3,h4⟩:=Q.append 2 rfl (new:=[[iV (-1)]]) (Sz.cons rfl Sz.nil) (by simp) (bx:=17592186044416) (by have:=t.Tx;simp;omega);have r7:=h4.get 7 rfl;obtain⟨V,s5,y,a4,c4,h5⟩:=h4.append 3 rfl (new:=[[iV j]]) (Sz.cons rfl Sz.nil) (by simp) (bx:=17592186044416) (by have:=t.I7;simp;omega);obtain⟨s6,b2,h6⟩:=h5.field 5 (by simp[FJ]) c2;obtain⟨s7,b3,h7⟩:=h6.field 6 (by simp[FJ]) c3;obtain⟨s8,b4,D⟩:=h7.field 7 (by simp[FJ]) c4;have t9:=D.get 9 rfl;have t5:=D.get 5 rfl;have lt:=D.len 1 rfl;obtain⟨X,b5,h9⟩:=D.field 9 (by simp[FJ]) (x:=.int .i64 (max x.pT (x.op.length+1))) rfl;simp at a2 a3 a4 lt l1;have Y:∃g,ev R U.Fh (bn [.ptr o 0,.agg m.c] 0) s=.code .ret g X:=by generalize d:ev R U.Fh (bn [.ptr o 0,.agg m.c] 0) s=r;simp-implicitDefEqProofs[U.Fh,l1,f4,E,a1,b1,u,Z]at d;generalize hk:ev R U.tG _ s2=r1 at d;obtain⟨e1,k1,k2,k3,k4⟩:=key _ _ hk (by simp) (by simp) (by simp);clear hk;subst k1;simp at k4;simp-implicitDefEqProofs[k2,k3,k4,p5,p6,p7,q6,q7,r7,a2,a3,a4,b2,b3,b4,t9,t5,lt,b5]at d;subst d;exact⟨_,rfl⟩
 obtain⟨g,Y⟩:=Y;refine⟨X,YJ rfl ⟨.ret,_,X,Y,.inr rfl,by simp⟩,H,P,T,V,y,?_⟩;unfold bI;rw[ar Z,z];simpa[FJ,Y5]using h9
def Y7(x:Wk)(u:iz x)(m:Mv)(Z:cz m=false)(cO:x.op≠ [])(s:HS)(o:Ky)(h:Eu s o x):
  ∃s',R (.call 129 [.ptr o 0,.agg m.c] s)=.val (.bN []) s'/\Eu s' o (bI x m):=by
 have hb:R (.call 65 [.ptr o 0] s)=.val (.bool (bk x.w)) s:=v65 qo h.vw (by simp) rfl (w65 x u);obtain⟨v1,v2,v3,v4,aw,h⟩:=h;have hl:=u.len;have hk:=u.DO;have C:=YV m;have j:=Tq m;simp only[Mv.c]at C j;obtain⟨r,n,d⟩:∃k n,x.op=k++[n]:=by
  rcases ly x.op with D|⟨k,n,D⟩
  .exact absurd D cO
  exact⟨k,n,by simpa using D⟩
 have hlen:x.op.length=r.length+1:=by rw[d];simp
 have D:n<x.pt.length:=by rw[u.Tx];exact u.op n (by rw[d];simp)
 have hw:bR .i64 (r.length:Int)=r.length:=bM (by omega) (by omega);have f4:=h.get 4 rfl;have l1:=h.len 0 rfl;obtain⟨E,s1,ho,a1,c1,h1⟩:=h.append 0 rfl (new:=[m.c]) (Sz.cons rfl Sz.nil) (by simp) (bx:=4398046511104) (by simp;omega);obtain⟨s2,b1,Q⟩:=h1.field 4 (by simp[FJ]) c1;have g5:=Q.get 5 rfl;have l5:=Q.len 1 rfl;obtain⟨o1,T,i2⟩:=Q.at1 1 rfl r.length (by simp[hlen]);obtain⟨o2,hd,h3⟩:=Q.cut 1 rfl r.length (by simp[hlen]) (by simp[cO]);obtain⟨s4,b2,h4⟩:=h3.field 5 (x:=.sl o2 0 r.length 1) (by simp[FJ]) rfl;have g6:=h4.get 6 rfl;obtain⟨o3,s5,i3,b3,h5⟩:=h4.jg 2 rfl n (by simpa using D) (x:=iV x.w.length) rfl;have p6:=h5.get 6 rfl;have p7:=h5.get 7 rfl;obtain⟨H,s6,hp,a3,c3,h6⟩:=h5.append 2 rfl (new:=[[iV n]]) (Sz.cons rfl Sz.nil) (by simp) (bx:=17592186044416) (by have:=u.Tx;simp;omega);have q7:=h6.get 7 rfl;obtain⟨M,s7,q,a4,c4,h7⟩:=h6.append 3 rfl (new:=[[iV n]]) (Sz.cons rfl Sz.nil) (by simp) (bx:=17592186044416) (by have:=u.I7;simp;omega);obtain⟨s8,b4,h8⟩:=h7.field 6 (by simp[FJ]) c3;obtain⟨s9,b5,h9⟩:=h8.field 7 (by simp[FJ]) c4;obtain⟨hg,b6,hj⟩:=h9.field 8 (by simp[FJ]) (x:=.bool true) rfl;simp only[Mv.c]at a1;simp only[hU]at b3 i3;simp[d]at T i2 l5 a3 a4 l1;have key:∀(e:En) (r:Out),(ev R U.BL e s9).ch (ev R (.cond (.t 157) U.BM .skip))=r->look e 0=some (.ptr o 0)->look e 3=some (.ax m.c)->look e 5=some (.bool (bk x.w))->
   ∃V s',r=.code .normal V s'/\Eu s' o (bI x m):=by
  intro e r1 g e0 O X;have f:(bQ m&&decide (0<m.id)&&decide (m.arg=0)&& !bk x.w)=false->Eu s9 o (bI x m):=by intro f;refine⟨E,.sl o2 0 r.length 1,H,M,q,?_⟩;unfold bI;rw[Z,f,d];simpa[FJ,Y5,d]using h9
  have P:(bQ m&&decide (0<m.id)&&decide (m.arg=0)&& !bk x.w)=true->Eu hg o (bI x m):=by intro f;refine⟨E,.sl o2 0 r.length 1,H,M,q,?_⟩;unfold bI;rw[Z,f,d];simpa[FJ,Y5,d]using hj
  cases y:bQ m
  .simp[O,j,y]at g;subst g;exact⟨_,_,rfl,f (by simp[y])⟩
  by_cases z:0<m.id
  .by_cases B:m.arg=0
   .have p:=j;rw[B]at p;cases Y:bk x.w
    .rw[Y]at X;simp[e0,O,X,p,y,z,B,b6]at g;subst g;exact⟨_,_,rfl,P (by simp[y,z,B,Y])⟩
    rw[Y]at X;simp[O,X,p,y,z,B]at g;subst g;exact⟨_,_,rfl,f (by simp[Y])⟩
   simp[O,j,y,z,B]at g;subst g;exact⟨_,_,rfl,f (by simp[B])⟩
  simp[O,j,y,z]at g;subst g;exact⟨_,_,rfl,f (by simp[z])⟩
 have hE:∃V s',ev R U.Fh (bn [.ptr o 0,.agg m.c] 0) s=.code .normal V s'/\Eu s' o (bI x m):=by generalize g:ev R U.Fh (bn [.ptr o 0,.agg m.c] 0) s=r1;rw[hd]at g5 T;simp[d]at g5 T;subst T;simp-implicitDefEqProofs[-U.BL,-U.BM,U.Fh,l1,f4,hb,a1,b1,C,Z,g5,hw,i2,b2,g6,i3,b3,p6,p7,q7,a3,a4,b4,b5]at g;exact key _ _ g (by simp) (by simp) (by simp)
 obtain⟨V,s',hE,hW⟩:=hE;exact⟨s',YJ rfl ⟨.normal,_,s',hE,.inl rfl,by simp⟩,hW⟩
def lB{a:Ar}{m:Mv}(h:eO a m=true):∃b e,cI a m.id m.arg=some (b,e):=by unfold eO cw lA at h;cases d:cI a m.id m.arg with|none=>rw[d]at h;simp at h|some c=>exact⟨c.1,c.2,rfl⟩
def IG{a:Ar}{m:Mv}(h:eO a m=true)(h0:m.id=0):m.arg=0:=by
 obtain⟨b,e,c⟩:=lB h;unfold cI at c
 split at c
 .rename_i h;exact h.2
 rw[h0]at c;simp at c
def lC{x:Wk}{m:Mv}(h:fA x m=true):eO x.a m=true:=by unfold fA at h;simp only[aL]at h;exact h.1
def ie{x:Wk}{m:Mv}(c:fA x m=true)(d:x.w≠ []):x.op≠ []:=by
 intro f;unfold fA at c;rw[aq d]at c;have:fZ x=none:=by unfold fZ;rw[f];rfl
 rw[this]at c;simp at c
def et{x:Wk}{m:Mv}(c:fA x m=true)(d:x.w=[]):m.id=0/\cz m=true:=by unfold fA at c;rw[ar d]at c;simp at c;exact c.2
def agB(x:Wk)(j:iz x)(m:Mv)(d:fA x m=true)(s:HS)(o:Ky)(h:Eu s o x):
  ∃s',R (.call 129 [.ptr o 0,.agg m.c] s)=.val (.bN []) s'/\Eu s' o (bI x m):=by
 cases g:cz m with
 |true=>
  refine Y6 x j m g (λp=>?_) s o h;by_cases f:x.w=[]
  .have:=IG (lC d) (et d f).1;omega
  exact ie d f
 |false=>
  refine Y7 x j m g ?_ s o h;by_cases f:x.w=[]
  .have:=(et d f).2;rw[g]at this;cases this
  exact ie d f
def wb(x:Wk)(m:Mv):(bI x m).a=x.a:=by unfold bI;split<;>rfl
def gM(x:Wk)(m:Mv):(bI x m).w=x.w++[m]:=by unfold bI;split<;>rfl
def iz.take{x:Wk}(c:iz x){m:Mv}(g:x.w.length<400)(cO:cz m=false->x.op≠ []):iz (bI x m):=by
 have h:=c.DO;have j:=c.Tx;have p:=c.I7;cases f:cz m with
 |true=>
  unfold bI;rw[ar f];refine⟨c.ok,c.Y4,by simp;omega,λn d=>?_,by simp;omega,by simp;omega,by simp;omega⟩;simp only[cG,dE]at d;simp only[cE,dM];rcases d with d|rfl
  .have:=c.op n d;omega
  omega
 |false=>unfold bI;rw[f];refine⟨c.ok,c.Y4,by simp;omega,λn d=>?_,by simp;omega,by simp;omega,by simp;omega⟩;have:=c.op n ((Cf _).subset d);simp only[cy,bp,cE,dM];omega
def cW(x:Wk):aP->Wk×Nat
 |[]=>(x,0)
 |m::r=>if fA x m then((cW (bI x m) r).1,(cW (bI x m) r).2+1)else(x,0)
def gT(a:Ar):Wk:=⟨a,[],[],[],[],false,0⟩
def iz.zero{a:Ar}(ok:dj a)(c:aB a=0):iz (gT a):=⟨ok,c,by simp[gT],by simp[gT],by simp[gT],by simp[gT],by simp[gT]⟩
def w94(a:Ar)(ok:dj a)(h:aB a=0)(w:aP)(X:w.length<=400)(s:HS):R (.call 94 [.agg a.c,.psl (w.map Mv.c)] s)=.val (.bN [.ax (cW (gT a) w).1.c,iV (cW (gT a) w).2]) s:=by
 refine q94 ?_;simp[U.b94,s0];generalize M:bK R (.loop U.Dz) _ _=o;have C:=aX M w.length
  (λi e s'=>∃x,look e 1=some (.psl (w.map Mv.c))/\look e 6=some (.ptr .e 0)/\look e 7=some (iV i)/\Eu s' .e x/\iz x/\x.w.length=i/\cW (gT a) w=((cW x (w.drop i)).1,(cW x (w.drop i)).2+i))
  (λo=>∃j s',(o=.code .ret j s'∨o=.code (.exit 0) j s')/\((o=.code .ret j s'/\look j 4=some (.ptr .e 0)/\look j 5=some (iV (cW (gT a) w).2))∨(o=.code (.exit 0) j s'/\look j 1=some (.psl (w.map Mv.c))/\look j 6=some (.ptr .e 0)/\(cW (gT a) w).2=w.length))/\Eu s' .e (cW (gT a) w).1)
  0 (by omega) ⟨gT a,by simp,by simp,by simp,by
   exact⟨.ai,.ai,.ai,.ai,_,iU.start ⟨by simp[FJ,gT],by simp,by simp[Ky.toNat]⟩ (by simp[Y5,gT])⟩,iz.zero ok h,rfl,by simp⟩
  (λi e s' r D ⟨x,t,u,B,y,p,z,d⟩ q=>by
   have f:=aeK (args:=[.ptr .e 0,.agg w[i].c]) (l:=[.ax x.c,.agg w[i].c]) (s:=s') (v:=.bool (fA x w[i])) qo (.cons y.VL (.data (by simp))) (by simp) rfl (λs=>agA x p w[i] s);have E:w.drop i=w[i]::w.drop (i+1):=oY D;rw[E]at d;simp only[Mv.c]at f;cases h:fA x w[i]with
   |false=>rw[h]at f;simp only[cW,h,cy,bp]at d;simp[U.Dz,t,u,B,D,f]at q;subst q;refine .inr ⟨by simp,_,_,.inl rfl,.inl ⟨rfl,by simp[d]⟩,by rw[d];exact y⟩
   |true=>
    rw[h]at f;simp only[cW,h,bf]at d;obtain⟨Q,g,H⟩:=agB x p w[i] h s' .e y;simp only[Mv.c]at g;simp[U.Dz,t,u,B,D,f,g,bj (n:=400) (show i<400 by omega) (by omega)]at q;subst q;refine .inl ⟨_,_,rfl,bI x w[i],by simp[t],by simp[u],by simp,H,p.take (by omega) (λC=>?_),by rw[gM];simp[z],?_⟩
    .by_cases O:x.w=[]
     .have:=(et h O).2;rw[C]at this;cases this
     exact ie h O
    rw[d];simp;omega)
  (λe s' r ⟨x,t,u,B,y,p,z,d⟩ q=>by
   rw[By]at d;simp only[cW]at d;simp[U.Dz,t,B]at q;subst q;exact⟨by simp,_,_,.inr rfl,.inr ⟨rfl,by simp[t,u,d]⟩,by rw[d];exact y⟩)
 clear M;obtain⟨j,s',_,E,y⟩:=C;have P:Vw s' 15 (.ptr .e 0) (.ax (cW (gT a) w).1.c):=y.VL;rcases E with⟨rfl,T,V⟩|⟨rfl,t,u,q⟩
 .simp[T,V];exact aC (.bN (.cons P (.cons (.data (by simp)) .nil)))
 simp[t,u];rw[<-q];exact aC (.bN (.cons P (.cons (.data (by simp)) .nil)))
def fp(a:Ar)(w:aP):Int×Int:=if aB a≠0 then(0,aB a)else if 400<w.length then(0,5)else if(cW (gT a) w).2<w.length then((cW (gT a) w).2,13)else(0,0)
def FK(a:Ar)(w:aP):ak:=[if(fp a w).2=0 then .ax (cW (gT a) w).1.c else .dZ,iV (fp a w).1,iV (fp a w).2]
def w63(a:Ar)(ok:dj a)(w:aP)(s:HS):R (.call 63 [.agg a.c,.psl (w.map Mv.c)] s)=.val (.bN (FK a w)) s:=by
 refine q63 ?_;have g:=VH a ok;simp only[Ar.c]at g;unfold FK fp;by_cases h:aB a=0
 .by_cases j:(400:Int)<w.length
  .have d:400<w.length:=by omega
   simp[U.WR,g,h,j,d];exact aC (.bN (.data (by simp)))
  have d:¬400<w.length:=by omega
  have p:=w94 a ok h w (by omega);simp only[Ar.c,iV]at p;by_cases q:((cW (gT a) w).2:Int)<w.length
  .have f:(cW (gT a) w).2<w.length:=by omega
   simp[U.WR,g,h,j,d,p,q,f];exact aC (.bN (.data (by simp)))
  have f:¬(cW (gT a) w).2<w.length:=by omega
  simp[U.WR,g,h,j,d,p,q,f];exact aC (.bN (.data (by simp)))
 simp[U.WR,g,h];exact aC (.bN (.data (by simp)))
def w61(a:Ar)(ok:dj a)(w:aP)(s:HS):R (.call 61 [.agg a.c,.psl (w.map Mv.c)] s)=.val (.bN [iV (fp a w).1,iV (fp a w).2]) s:=by refine q61 ?_;have d:=w63 a ok w;simp only[Ar.c,FK]at d;simp[U.b61,d];exact aC (.bN (.data (by simp)))
def pU(a:Ar)(id:Int)(w:aP):Int:=if aB a≠0 then aB a else if(fp a w).2≠0 then(fp a w).2 else if 1<=id/\id<=a.ids.length then 0 else 7
def dC(w:aP):Nat->Bool
 |0=>false
 |j+1=>match w[j]?with|some m=>bQ m&&decide (0<m.arg)|none=>false
abbrev fY(e:tR):ak:=[e.1]
section
variable{s:HS}{aw:bc}{of:aQ}{az:cS}{v1 v2:HV}{i:Nat}
end
def qN(d:aQ)(id:Int)(w:aP)(c:List Int×List ay)(i:Nat):List Int×List ay:=
 match w[i]?with
 |none=>c
 |some m=>
  if m.id≠id then(c.1++[-1],c.2)
  else if m.arg=0/\m.kind≠3 then(c.1++[(c.2.length:Int)],c.2++[[i]])
  else if m.arg=0/\bQ m=true/\dC w i=false then(c.1++[-1],c.2)
  else(c.1++[((c.1.getD (d.getD i 0).toNat 0).toNat:Int)],c.2.set (c.1.getD (d.getD i 0).toNat 0).toNat ((c.2.getD (c.1.getD (d.getD i 0).toNat 0).toNat [])++[i]))
def eR(c:aQ)(id:Int)(w:aP):Nat->List Int×List ay
 |0=>([],[])
 |i+1=>qN c id w (eR c id w i) i
def oa(c:aQ)(id:Int)(w:aP):Prop:=∀i m,w[i]?=some m->m.id=id->¬(m.arg=0/\m.kind≠3)->¬(m.arg=0/\bQ m=true/\dC w i=false)->
 ∃j k:Nat,c[i]?=some (j:Int)/\(eR c id w i).1[j]?=some (k:Int)/\k<(eR c id w i).2.length
def qp(f:aQ)(id:Int)(w:aP):∀i,i<=w.length->(eR f id w i).1.length=i/\(eR f id w i).2.length<=i/\∀c∈(eR f id w i).2,c.length<=i
 |0,_=>⟨rfl,aY _,λc d=>by cases d⟩
 |i+1,q=>by
  obtain⟨h,r,g⟩:=qp f id w i (by omega);have j:=aO (show i<w.length by omega);rw[eR];unfold qN;rw[j];simp only
  split
  .exact⟨by simp[h],by simp only;omega,λc d=>by have:=g c d;omega⟩
  split
  .refine⟨by simp[h],by simp;omega,λc d=>?_⟩;rcases cG.1 d with d|d
   .have:=g c d;omega
   simp at d;subst d;simp
  split
  .exact⟨by simp[h],by simp only;omega,λc d=>by have:=g c d;omega⟩
  refine⟨by simp[h],by simp;omega,λc d=>?_⟩;rcases qL d with d|rfl
  .have:=g c d;omega
  rw[cE,dM,dF];cases p:(eR f id w i).2[((eR f id w i).1.getD (f.getD i 0).toNat 0).toNat]?with|none=>simp|some c=>have:=g c (cH p);simp;omega
def fq(c:aQ)(id:Int)(w:aP):dH:=(eR c id w w.length).2
def jD(c:ay):ak:=[.psl (c.map nC)]
def IH(l:dH):eu (l.map jD)=true:=cq (λx=>by simp[jD]) l
def od{a:Ar}{id:Int}{w:aP}(h:pU a id w=0):aB a=0/\(fp a w).2=0/\1<=id/\id<=a.ids.length:=by
 unfold pU at h;by_cases c:aB a=0
 .by_cases d:(fp a w).2=0
  .by_cases f:1<=id/\id<=(a.ids.length:Int)
   .exact⟨c,d,f⟩
   simp[c,d,f]at h
  simp[c,d]at h
 simp[c]at h
def tW{a:Ar}{w:aP}(c:aB a=0)(h:(fp a w).2=0):w.length<=400:=by
 unfold fp at h;by_cases d:400<w.length
 .simp[c,d]at h
 omega
def Y8:Prop:=∀(a:Ar) (id:Int) (w:aP),pU a id w=0->oa (cW (gT a) w).1.js id w
def FL(a:Ar)(id:Int)(w:aP):dH:=if pU a id w=0 then fq (cW (gT a) w).1.js id w else []
def aW(w:aP)(c:ay):aP:=c.map λi=>bJ (w.getD i ⟨0,0,0,0⟩)
def l6(w:aP):ak:=[.psl (w.map Mv.c)]
def FM(l:List aP):eu (l.map l6)=true:=cq (λx=>by simp[l6]) l
def tX(g:aQ)(id:Int)(w:aP):∀i,i<=w.length->∀c∈(eR g id w i).2,∀n∈c,n<i
 |0,_=>λc f=>by cases f
 |i+1,q=>by
  have h:=tX g id w i (by omega);have p:=aO (show i<w.length by omega);rw[eR];unfold qN;rw[p];simp only
  split
  .exact λc f n d=>by have:=h c f n d;omega
  split
  .intro c f n d;rcases cG.1 f with f|f
   .have:=h c f n d;omega
   simp at f;subst f;simp at d;omega
  split
  .exact λc f n d=>by have:=h c f n d;omega
  intro c f n d;rcases qL f with f|rfl
  .have:=h c f n d;omega
  rcases cG.1 d with d|d
  .rw[dF]at d;cases j:(eR g id w i).2[((eR g id w i).1.getD (g.getD i 0).toNat 0).toNat]?with|none=>rw[j]at d;simp at d|some c=>rw[j]at d;have:=h c (cH j) n d;omega
  simp at d;omega
structure Sp where
 id:Int
 arg:Int
 b:Bs
 zx:Bool
 deriving DecidableEq
@[simp]def Sp.c(p:Sp):ak:=[.int .i64 p.id,.int .i64 p.arg,.bool p.b.cell,.int .i64 p.b.n,.bool p.zx]
def yE(i:Nat):Nat->pP->List Sp
 |_,[]=>[]
 |j,b::r=>⟨(i:Int)+1,(j:Int)+1,b,true⟩::yE i (j+1) r
def tY(jumps:Bool):Nat->sq->List Sp
 |_,[]=>[]
 |i,t::r=>⟨(i:Int)+1,0,t.res,jumps||decide (0<t.ps.length)⟩::(yE i 0 t.ps++tY jumps (i+1) r)
def su(a:Ar):List Sp:=⟨0,0,a.root,a.jumps⟩::tY a.jumps 0 a.ids
abbrev qA(p:Sp):HV:=.agg p.c
section
variable{l:Ky}{G:cg}{I:ak->HS->Prop}{Fn:HS->Prop}{N:Nat}(hG:∀k,G k->k.toNat<N)(qz:∀x,zS N (I x))(I8:zS N Fn)
 (eC:∀x rest s1,N<=s1.nx.toNat->I (x::rest) s1->∃b s2,R (.round l [x] s1)=.val (.bool b) s2/\di G s1 s2/\(b=true->I rest s2)/\(b=false->Fn s2))
include hG qz eC
theorem Y9(a:Ar)(i:Nat)(ps:pP)(hl:ps.length<4611686018427387904)(hi:i<4611686018427387904)(rest:ak)(e:En)(s:HS)(r:Out)(z:look e 1=some (.jk l))(B:look e 4=some (iV i))(f:look e 45=some (.psl (ps.map Bs.c)))(d:look e 46=some (iV ps.length))(g:look e 47=some (iV 0))
  (C:look e 2=some (.ax a.c))(v20 v21 v22:HV)(p:look e 20=some v20)(q:look e 21=some v21)(t:look e 22=some v22)
  (P:N<=s.nx.toNat)(y:I ((yE i 0 ps).map qA++rest) s)(u:ev R (.loop U.pK) e s=r):
  ∃e' s',di (λk=>G k∨Up N k) s s'/\((r=.code .ret e' s'/\Fn s')∨(r=.code (.exit 2) e' s'/\I rest s'/\look e' 1=some (.jk l)/\look e' 2=some (.ax a.c)/\look e' 20=some v20/\look e' 21=some v21/\look e' 22=some v22)):=by
 refine fG u ps.length
  (λj e s'=>look e 1=some (.jk l)/\look e 4=some (iV i)/\look e 45=some (.psl (ps.map Bs.c))/\look e 46=some (iV ps.length)/\look e 47=some (iV j)/\look e 2=some (.ax a.c)/\look e 20=some v20/\look e 21=some v21/\look e 22=some v22/\
   di (λk=>G k∨Up N k) s s'/\N<=s'.nx.toNat/\I ((yE i j (ps.drop j)).map qA++rest) s')
  (λr=>∃e' s',di (λk=>G k∨Up N k) s s'/\((r=.code .ret e' s'/\Fn s')∨(r=.code (.exit 2) e' s'/\I rest s'/\look e' 1=some (.jk l)/\look e' 2=some (.ax a.c)/\look e' 20=some v20/\look e' 21=some v21/\look e' 22=some v22)))
  0 (by omega) ⟨z,B,f,d,g,C,p,q,t,di.refl,P,y⟩
  (λj e s' r O ⟨z,B,f,d,g,C,p,q,t,Q,P,y⟩ u=>?_) (λe s' r ⟨z,B,f,d,g,C,p,q,t,Q,P,y⟩ u=>?_)
 .rw[oY O]at y;simp only[yE,cL,bB]at y;have D:=di.alloc (s:=s') (.cells (cR ps[j].c) 0 2 s'.nx) [s'.nx];have T:=qz _ _ _ y (D.mono (λ_ h=>h.elim));have V:=Ky.ba s'.nx;obtain⟨b,s2,X,Z,ht,Y⟩:=eC _ _ _ (by simp only;omega) T;have E:di (λk=>G k∨Up N k) s s2:=Q.trans ((D.mono (λ_ h=>h.elim)).trans (Z.mono λk hk=>.inl hk));have H:=bj (n:=4611686018427387904) hi (by omega);have M:=bj O (rz hl);simp only[qA,Sp.c,Bs.c]at X;cases b with|false=>simp[U.pK,z,B,f,d,g,O,H,M,ah,an,aj,X]at u;subst u;exact .inr ⟨by simp,_,_,E,.inl ⟨rfl,Y rfl⟩⟩|true=>simp[U.pK,z,B,f,d,g,O,H,M,ah,an,aj,X]at u;subst u;exact .inl ⟨_,_,rfl,by simp[z],by simp[B],by simp[f],by simp[d],by simp,by simp[C],by simp[p],by simp[q],by simp[t],E,by have:=Z.1;simp only at this;omega,ht rfl⟩
 rw[By]at y;simp[U.pK,d,g]at u;subst u;exact⟨by simp,_,_,Q,.inr ⟨rfl,y,by simp[z,C,p,q,t]⟩⟩
include I8 in
theorem Za(a:Ar)(ok:dj a)(rest:ak)(e:En)(s:HS)(r:Out)(z:look e 1=some (.jk l))(B:look e 2=some (.ax a.c))(j:look e 20=some (.psl (a.ids.map Ty.c)))(d:look e 21=some (iV a.ids.length))(f:look e 22=some (iV 0))
  (X:N<=s.nx.toNat)(D:I ((tY a.jumps 0 a.ids).map qA++rest) s)(g:ev R (.loop U.pL) e s=r):
  ∃e' s',di (λk=>G k∨Up N k) s s'/\((r=.code .ret e' s'/\Fn s')∨(r=.code (.exit 0) e' s'/\I rest s')):=by
 refine fG g a.ids.length
  (λi e s'=>look e 1=some (.jk l)/\look e 2=some (.ax a.c)/\look e 20=some (.psl (a.ids.map Ty.c))/\look e 21=some (iV a.ids.length)/\look e 22=some (iV i)/\
   di (λk=>G k∨Up N k) s s'/\N<=s'.nx.toNat/\I ((tY a.jumps i (a.ids.drop i)).map qA++rest) s')
  (λr=>∃e' s',di (λk=>G k∨Up N k) s s'/\((r=.code .ret e' s'/\Fn s')∨(r=.code (.exit 0) e' s'/\I rest s')))
  0 (by omega) ⟨z,B,j,d,f,di.refl,X,D⟩
  (λi e s' r E ⟨z,B,j,d,f,Y,X,D⟩ g=>?_) (λe s' r ⟨z,B,j,d,f,Y,X,D⟩ g=>?_)
 .have Z:=ok.2 _ (bX E);have hl:=ok.1;rw[oY E]at D;simp only[tY,cL,bB,eD,yG]at D;have P:=di.alloc (s:=s') (.cells (cR a.ids[i].c) 0 3 s'.nx) [s'.nx];have h3:=qz _ _ _ D (P.mono (λ_ h=>h.elim));have h4:=Ky.ba s'.nx;obtain⟨b,s2,u,hf,ht,Q⟩:=eC _ _ _ (by simp only;omega) h3;have H:di (λk=>G k∨Up N k) s s2:=Y.trans ((P.mono (λ_ h=>h.elim)).trans (hf.mono λk hk=>.inl hk));have h5:N<=s2.nx.toNat:=by have:=hf.1;simp only at this;omega
  have M:ao s2.h s'.nx=some (.cells (cR a.ids[i].c) 0 3 s'.nx):=by rw[hf.2.2.1 s'.nx (by simp only;omega) (λh=>by have:=hG _ h;omega)];simp
  have y:=bj E (rz hl);simp only[qA,Sp.c,Ty.c]at u M;cases b with
  |false=>
   cases C:a.jumps<;>rw[C]at u
   .simp at u;simp[U.pL,z,B,j,d,f,E,y,ah,an,aj,C,u]at g;subst g;exact .inr ⟨by simp,_,_,H,.inl ⟨rfl,Q rfl⟩⟩
   simp at u;simp[U.pL,z,B,j,d,f,E,y,ah,an,aj,C,u]at g;subst g;exact .inr ⟨by simp,_,_,H,.inl ⟨rfl,Q rfl⟩⟩
  |true=>
   have fn:∀q O,ev R (.loop U.pK) q s2=O->look q 1=some (.jk l)->look q 2=some (.ax a.c)->look q 4=some (iV i)->look q 20=some (.psl (a.ids.map Ty.c))->look q 21=some (iV a.ids.length)->look q 22=some (iV i)->look q 45=some (.psl (a.ids[i].ps.map Bs.c))->look q 46=some (iV a.ids[i].ps.length)->look q 47=some (iV 0)->
     (gz 1 (gz 2 O)).ch (ev R (.rg [22] [⟨some 62,.bin false .add (.t 22) (.k (.int .i64 1)),none⟩,⟨some 22,.mv (.t 62),none⟩]))=r->(∃e' s',r=.code .normal e' s'/\look e' 1=some (.jk l)/\look e' 2=some (.ax a.c)/\look e' 20=some (.psl (a.ids.map Ty.c))/\look e' 21=some (iV a.ids.length)/\look e' 22=some (iV ((i+1:Nat):Int))/\
   di (λk=>G k∨Up N k) s s'/\N<=s'.nx.toNat/\I ((tY a.jumps (i+1) (a.ids.drop (i+1))).map qA++rest) s')∨(gC r/\∃e' s',di (λk=>G k∨Up N k) s s'/\((r=.code .ret e' s'/\Fn s')∨(r=.code (.exit 0) e' s'/\I rest s'))):=by
    intro q O p g1 g2 g4 h6 h7 h8 h9 ha hg g;obtain⟨e2,s3,T,hd⟩:=Y9 hG qz eC a i a.ids[i].ps Z (by omega) _ q s2 O g1 g4 h9 ha hg g2 _ _ _ h6 h7 h8 h5 (ht rfl) p;clear p;have V:=H.trans (T.mono λk hk=>hk);rcases hd with⟨rfl,ho⟩|⟨rfl,hp,q1,q2,hq,hs,hx⟩
    .simp at g;subst g;exact .inr ⟨by simp,_,_,V,.inl ⟨rfl,ho⟩⟩
    simp[hx,y]at g;subst g;exact .inl ⟨_,_,rfl,by simp[q1],by simp[q2],by simp[hq],by simp[hs],by simp,V,by have:=T.1;omega,hp⟩
   cases C:a.jumps<;>rw[C]at u
   .simp at u;simp[U.pL,z,B,j,d,f,E,y,ah,an,aj,C,u,M]at g;generalize p:ev R (.loop U.pK) _ s2=O at g;rw[C]at fn;exact fn _ _ p (by simp[z]) (by simp[B]) (by simp) (by simp[j]) (by simp[d]) (by simp[f]) (by simp) (by simp) (by simp) g
   simp at u;simp[U.pL,z,B,j,d,f,E,y,ah,an,aj,C,u,M]at g;generalize p:ev R (.loop U.pK) _ s2=O at g;rw[C]at fn;exact fn _ _ p (by simp[z]) (by simp[B]) (by simp) (by simp[j]) (by simp[d]) (by simp[f]) (by simp) (by simp) (by simp) g
 rw[By]at D;simp[U.pL,d,f]at g;subst g;exact⟨by simp,_,_,Y,.inr ⟨rfl,D⟩⟩
end
def agC(a:Ar)(ok:dj a):IE LU U.prog 148 [.agg a.c] [] ((su a).map qA):=by
 intro l G I Fn s hG qz I8 eC rest y;simp only[su,cL,bB]at y;obtain⟨b,s1,g,q,z,t⟩:=eC _ _ s (aY _) y;simp only[qA,Sp.c]at g;have g:R (Task.round l [HV.agg [.int .i64 0,.int .i64 0,.bool a.root.cell,.int .i64 a.root.n,.bool a.jumps]] s)=.val (.bool b) s1:=g;generalize d:ev R U.MD (bn ([.agg a.c]++[.jk l]++[]) 0) s=r;have f:=d;cases b with
 |false=>simp[U.MD,g]at d;subst d;exact⟨s1,To rfl ⟨.ret,_,s1,f,.inr rfl,by simp⟩,q.mono λk u=>.inl u,.inr (t rfl)⟩
 |true=>
  simp[U.MD,g]at d;generalize j:ev R (.loop U.pL) _ s1=B at d;obtain⟨E,s2,C,D⟩:=Za hG qz I8 eC a ok rest _ s1 B (by simp) (by simp) (by simp) (by simp) (by simp) q.1 (z rfl) j;clear j;have p:=(q.mono (G:=λk=>G k∨Up s.nx.toNat k) λk u=>.inl u).trans C;rcases D with⟨rfl,h⟩|⟨rfl,h⟩
  .simp at d;subst d;exact⟨s2,To rfl ⟨.ret,_,s2,f,.inr rfl,by simp⟩,p,.inr h⟩
  simp at d;subst d;exact⟨s2,To rfl ⟨.normal,_,s2,f,.inl rfl,by simp⟩,p,.inl h⟩
def dr(id arg:Int)(p:Sp):Bool:=p.id=id/\p.arg=arg
def iA(a:Ar)(id arg:Int):Option Sp:=(su a).find? (dr id arg)
def Ev:ak:=[.int .i64 0,.int .i64 0,.bool false,.int .i64 0,.bool false]
def GZ(o:Option Sp):ak:=match o with|none=>[.agg Ev,.bool false]|some p=>[.agg p.c,.bool true]
def Tz{l:Ky}{e:En}{s:HS}{p:Sp}(d:look e 11=some (qA p)):ev R U.ez e s=.code .normal (e.qw 8 (.ptr s.nx 0)) {h:=av (some (.cells (cR p.c) 0 5 s.nx)) s.nx s.h,nx:=s.nx.succ,gr:=av (some [s.nx]) s.nx s.gr,ty:=s.ty}:=by simp[d,ah,an]
def agD(id arg:Int)(E:En)(C:look E 4=some (.ax [iV id]))(M:look E 5=some (.ax [iV arg]))(h5:look E 6=some (.ptr .e 0))(h6:look E 7=some (.ptr (.z .e) 0))(l:Ky)(hl:l=.o .e)(p:Sp)(s:HS)
  (B:ao s.h l=uQ 0 none E [11] U.ez U.ec)(Y:2<s.nx.toNat)(h3:gD s .e Ev)(h4:gD s (.z .e) [.bool false]):
  ∃b s',R (.round l [qA p] s)=.val (.bool b) s'/\di (λk=>k.toNat<3) s s'/\b= !dr id arg p/\
   (b=true->ao s'.h l=uQ 0 none E [11] U.ez U.ec/\gD s' .e Ev/\gD s' (.z .e) [.bool false])/\(b=false->ao s'.h l=uQ 1 (some .ret) E [11] U.ez U.ec/\gD s' .e p.c/\gD s' (.z .e) [.bool true]):=by
 have d:l.toNat=2:=by subst hl;rfl
 have ha:=Tz (l:=l) (e:=.cons 11 (qA p) E) (s:=s) (p:=p) (by simp);have t:=di.alloc (s:=s) (.cells (cR p.c) 0 5 s.nx) [s.nx];have O:l≠s.nx:=λe=>by rw[e]at d;omega
 have h7:ao (HS.mk (av (some (.cells (cR p.c) 0 5 s.nx)) s.nx s.h) s.nx.succ (av (some [s.nx]) s.nx s.gr) s.ty).h l=uQ 0 none E [11] U.ez U.ec:=by rw[t.2.2.1 l (by omega) (λh=>h)];exact B
 have P:=(h3.frame t (λh=>h)).frame (di.aK (G:=λk=>k=l) (o:=l) (b:=.loop 2 none E [11] U.ez U.ec) rfl) (λe=>by rw[<-e]at d;simp[Ky.toNat]at d);have Q:=(h4.frame t (λh=>h)).frame (di.aK (G:=λk=>k=l) (o:=l) (b:=.loop 2 none E [11] U.ez U.ec) rfl) (λe=>by rw[<-e]at d;simp[Ky.toNat]at d);have f:di (λk=>k.toNat<3) s ((HS.mk (av (some (.cells (cR p.c) 0 5 s.nx)) s.nx s.h) s.nx.succ (av (some [s.nx]) s.nx s.gr) s.ty).aK l (.loop 2 none E [11] U.ez U.ec)):=
  (t.mono λ_ h=>h.elim).trans (di.aK (by show l.toNat<3;omega))
 have u:ao ((HS.mk (av (some (.cells (cR p.c) 0 5 s.nx)) s.nx s.h) s.nx.succ (av (some [s.nx]) s.nx s.gr) s.ty).aK l (.loop 2 none E [11] U.ez U.ec)).h s.nx=some (.cells (cR p.c) 0 5 s.nx):=by rw[dU,aq (jB O)];simp
 have T:ao ((HS.mk (av (some (.cells (cR p.c) 0 5 s.nx)) s.nx s.h) s.nx.succ (av (some [s.nx]) s.nx s.gr) s.ty).aK l (.loop 2 none E [11] U.ez U.ec)).h l=uQ 2 none E [11] U.ez U.ec:=by rw[dU,ar rfl]
 generalize h8:(HS.mk (av (some (.cells (cR p.c) 0 5 s.nx)) s.nx s.h) s.nx.succ (av (some [s.nx]) s.nx s.gr) s.ty).aK l (.loop 2 none E [11] U.ez U.ec)=s2 at*;obtain⟨s3,y,h9,g,hb⟩:=P.put (new:=p.c) (v:=qA p) rfl rfl;have hd:=Q.frame g (λe=>by cases e);obtain⟨s4,hf,hg,j,hq⟩:=hd.set 0 (by simp) (.bool true) rfl;have V:ao s4.h l=uQ 2 none E [11] U.ez U.ec:=by
  have hj:l.toNat<s2.nx.toNat:=by have:=f.1;omega
  rw[j.2.2.1 l (by have:=ct Ky.toNat hb;omega) (λe=>by rw[e]at d;simp[Ky.toNat]at d),g.2.2.1 l hj (λe=>by rw[e]at d;simp[Ky.toNat]at d)];exact T
 obtain⟨Z,pa,pb,pe⟩:=p;simp only[Sp.c]at u y;have y:qj 5 (some (.ptr .e 0)) (some (.agg [.int .i64 Z,.int .i64 pa,.bool pb.cell,.int .i64 pb.n,.bool pe])) s2=.v .undef s3:=y;generalize D:ev R U.ec ((En.cons 11 (qA ⟨Z,pa,pb,pe⟩) E).qw 8 (.ptr s.nx 0)) s2=r;have eC:=Cb (o:=r) B ha h7 (by rw[h8];exact D);have fin:∀(H:HS) (x:Nat) (X:Option HC),di (λk=>k.toNat<3) s H->di (λk=>k.toNat<3) s (H.aK l (.loop x X E [11] U.ez U.ec)):=λH x X h=>h.trans (di.aK (by show l.toNat<3;omega))
 have cl:∀(H:HS) (o:Ky) (c:ak) (x:Nat) (X:Option HC),o≠l->gD H o c->gD (H.aK l (.loop x X E [11] U.ez U.ec)) o c:=λH o c x X ho h=>h.frame (di.aK (G:=λk=>k=l) rfl) ho
 have n1:Ky.e≠l:=by rw[hl];intro h;cases h
 have n2:Ky.z .e≠l:=by rw[hl];intro h;cases h
 by_cases hm:Z=id/\pa=arg
 .obtain⟨rfl,rfl⟩:=hm;simp[U.ec,C,M,h5,h6,u,aj,y,hf]at D;subst D;obtain⟨_,Y⟩:=eC (λe2 s2 h=>by simp at h;obtain⟨_,rfl⟩:=h;exact V);have q:=Y _ _ rfl;refine⟨false,_,q,fin _ _ _ ((f.trans (g.mono λk hk=>by subst hk;simp[Ky.toNat])).trans (j.mono λk hk=>by subst hk;simp[Ky.toNat])),by simp[dr],by simp,λ_=>⟨by rw[dU,ar rfl],cl _ _ _ _ _ n1 (h9.frame j (λe=>by cases e)),cl _ _ _ _ _ n2 hg⟩⟩
 have hp:∃e2,r=.code .normal e2 s2:=by
  by_cases B:Z=id
  .have Y:¬pa=arg:=λh=>hm ⟨B,h⟩
   subst B;simp[U.ec,C,M,u,Y]at D;subst D;exact⟨_,rfl⟩
  simp[U.ec,C,u,B]at D;subst D;exact⟨_,rfl⟩
 obtain⟨e2,rfl⟩:=hp;obtain⟨B,_⟩:=eC (λe2 s2 h=>by simp at h;obtain⟨_,rfl⟩:=h;exact T);have q:=B _ _ rfl;refine⟨true,_,q,fin _ _ _ f,by simp only[dr];rw[cu hm];rfl,λ_=>⟨by rw[dU,ar rfl],cl _ _ _ _ _ n1 P,cl _ _ _ _ _ n2 Q⟩,by simp⟩
def yH{α:Type}(q:α->Bool):∀(d l:List α),(∀x∈d,q x=false)->(d++l).find? q=l.find? q
 |[],_,_=>rfl
 |x::d,l,h=>by rw[bB,FN (by rw[h x dy];simp)];exact yH q d l λy c=>h y (dh _ c)
def Zb(a:Ar)(ok:dj a)(id arg:Int)(s:HS):R (.call 118 [.agg a.c,iV id,iV arg] s)=.val (.bN (GZ (iA a id arg))) s:=by
 refine aez ?_;simp[-U.ez,U.Xc,U.JW,s0];generalize Q:lK R _ _ _ _ _ _=o;generalize V:(En.cons 0 _ _:En)=E at Q;generalize hS:HS.mk _ _ _ _=S at Q;have h9:look E 4=some (.ax [iV id]):=by subst V;simp
 have ha:look E 5=some (.ax [iV arg]):=by subst V;simp
 have D:look E 6=some (.ptr .e 0):=by subst V;simp
 have H:look E 7=some (.ptr (.z .e) 0):=by subst V;simp
 have X:look E 10=some (.fn 148 [.agg a.c] []):=by subst V;simp
 have f:S.nx=.o .e:=by subst hS;rfl
 have hg:gD S .e Ev:=by subst hS;exact⟨rfl,rfl,by simp[Ky.toNat]⟩
 have hj:gD S (.z .e) [.bool false]:=by subst hS;exact⟨rfl,rfl,by simp[Ky.toNat]⟩
 have q:(LS S E [11] U.ez U.ec).nx.toNat=3:=by show S.nx.succ.toNat=3;rw[f];rfl
 have Y:=di.rf (s:=S) (e:=E) (ps:=[11]) (jl:=U.ez) (body:=U.ec);obtain⟨s2,M,hF,hd⟩:=agC a ok (.o .e) (λk=>k.toNat<3)
  (λhl s'=>2<s'.nx.toNat/\ao s'.h (.o .e)=uQ 0 none E [11] U.ez U.ec/\gD s' .e Ev/\gD s' (.z .e) [.bool false]/\∃d g,hl=g.map qA/\su a=d++g/\∀p∈d,dr id arg p=false)
  (λs'=>2<s'.nx.toNat/\ao s'.h (.o .e)=uQ 1 (some .ret) E [11] U.ez U.ec/\∃p,iA a id arg=some p/\gD s' .e p.c/\gD s' (.z .e) [.bool true])
  (LS S E [11] U.ez U.ec) (λk hk=>by rw[q];exact hk)
  (λx=>by
   rw[q]
   rintro s1 s2 ⟨O,r,u,B,j⟩ C
   exact⟨by have:=C.1;omega,by rw[C.2.2.1 (.o .e) O (by simp[Up,Ky.toNat])];exact r,u.frame C (by simp[Up,Ky.toNat]),B.frame C (by simp[Up,Ky.toNat]),j⟩)
  (by
   rw[q]
   rintro s1 s2 ⟨O,r,p,u,B,j⟩ C
   exact⟨by have:=C.1;omega,by rw[C.2.2.1 (.o .e) O (by simp[Up,Ky.toNat])];exact r,p,u,B.frame C (by simp[Up,Ky.toNat]),j.frame C (by simp[Up,Ky.toNat])⟩)
  (λx rest s1 hN ⟨O,r,u,B,d,g,j,h6,h7⟩=>by
   cases g with
   |nil=>cases j
   |cons p g=>
    simp only[cL,qU]at j;obtain⟨rfl,rfl⟩:=j;obtain⟨b,s2,r1,r2,r3,r4,r5⟩:=agD id arg E h9 ha D H (.o .e) rfl p s1 r O u B;refine⟨b,s2,r1,r2,λZ=>?_,λZ=>?_⟩
    .obtain⟨q1,q2,q3⟩:=r4 Z;refine⟨by have:=r2.1;omega,q1,q2,q3,d++[p],g,rfl,by rw[h6];simp,λy T=>?_⟩;rcases cG.1 T with T|T
     .exact h7 y T
     simp at T;subst T;rw[Z]at r3;simpa using r3
    obtain⟨q1,q2,q3⟩:=r5 Z;refine⟨by have:=r2.1;omega,q1,p,?_,q2,q3⟩;unfold iA;rw[h6,yH _ _ _ h7,List.find?_cons_of_pos];rw[Z]at r3;simpa using r3)
  [] ⟨by rw[q];omega,by show ao (av _ S.nx S.h) (.o .e)=_;rw[f,tQ],hg.frame Y (λh=>h),hj.frame Y (λh=>h),[],su a,by simp,rfl,by simp⟩
 have h8:=Cc (L:=LU) (prog:=U.prog) (x:=.t 10) (s:=S) (e:=E) (ps:=[11]) (jl:=U.ez) (body:=U.ec) (e':=E) (YF:=[11]) (Ko:=U.ez) (DJ:=U.ec) (by rw[Gu];exact X) (by rw[f];exact M);rcases hd with⟨O,r,u,B,d,g,j,h6,h7⟩|⟨O,r,p,u,B,j⟩
 .have hr:=h8.1 (by rw[f];exact r);rw[hr]at Q;subst Q;have hp:iA a id arg=none:=by
   have:g=[]:=by cases g with
    |nil=>rfl
    |cons x y=>cases j
   subst this;unfold iA;rw[h6,yH _ _ _ h7];rfl
  have k1:=u.kill (k:=S.nx) (by rw[f];intro h;cases h);have k2:=B.kill (k:=S.nx) (by rw[f];intro h;cases h);generalize s2.kill S.nx=K at*;obtain⟨K1,P,hq,hs,_⟩:=k1.put (new:=Ev) (v:=.agg Ev) rfl rfl;have ht:=k2.frame hs (λe=>by cases e);obtain⟨K2,hx,hz,k0,_⟩:=ht.set 0 (by simp) (.bool false) rfl;have k3:=hq.frame k0 (λe=>by cases e);have P:qj 5 (some (.ptr .e 0)) (some (.agg [.int .i64 0,.int .i64 0,.bool false,.int .i64 0,.bool false])) K=.v .undef K1:=P;have l1:fU (ao K2.h .e) 0 5=some Ev:=k3.load;have l2:eN (ao K2.h (.z .e)) 0=some (.bool false):=hz.get 0 (by simp);rw[hp];simp[D,H,P,hx,l1,l2];exact aC (.bN (.data (by simp[Ev])))
 have hr:=h8.2 (by rw[f];exact r);rw[hr]at Q;subst Q;rw[u];have k1:=B.kill (k:=S.nx) (by rw[f];intro h;cases h);have k2:=j.kill (k:=S.nx) (by rw[f];intro h;cases h);generalize s2.kill S.nx=K at*;have l1:fU (ao K.h .e) 0 5=some p.c:=k1.load;have l2:eN (ao K.h (.z .e)) 0=some (.bool true):=k2.get 0 (by simp);simp[D,H,l1,l2];exact aC (.bN (.data (by simp)))
abbrev oF(m:Mv):HV:=.agg m.c
def agE(p:Sp)(s:HS):R (.call 229 [qA p] s)=.val (oF ⟨p.id,p.arg,1,0⟩) s:=by refine agc ?_;simp[U.XP,aa,s0,ah,an,aj]
def agF(p:Sp)(n:Int)(s:HS):R (.call 230 [qA p,iV n] s)=.val (oF ⟨p.id,p.arg,2,n⟩) s:=by refine agd ?_;simp[U.XQ,aa,s0,ah,an,aj]
def agG(p:Sp)(n:Int)(s:HS):R (.call 232 [qA p,iV n] s)=.val (oF ⟨p.id,p.arg,3,n⟩) s:=by refine agf ?_;simp[U.XR,aa,s0,ah,an,aj]
def agH(p:Sp)(n:Int)(s:HS):R (.call 223 [qA p,iV n] s)=.val (.fn 231 [] [.ax p.c,.ax [iV n]]) s:=by refine af7 ?_;simp[U.XK,s0];exact aC (Vw.fn .nil (.cons (Vw.ptr rfl rfl (.data (by simp))) (.cons (Vw.ptr rfl rfl (.data (by simp))) .nil)))
def yI(n i:Nat)(h:i<n)(f:Nat->Mv):((List.range n).drop i).map f=f i::((List.range n).drop (i+1)).map f:=by rw[oY (by simpa using h)];simp
def agI(p:Sp)(hp:ef p.b=true):IE LU U.prog 222 [qA p] [] ((dk p.b p.id p.arg).map oF):=by
 intro l G I Fn s hG qz I8 eC rest B;simp only[ef,bL]at hp;simp only[dk,cL,bB]at B;obtain⟨b,s1,t,V,Q,C⟩:=eC _ _ s (aY _) B;have d:=agE p;have g:=agF p;simp only[qA,oF,Mv.c,Sp.c,iV]at t d g;have t:R (Task.round l [HV.agg [.int .i64 p.id,.int .i64 p.arg,.int .u8 1,.int .i64 0]] s)=.val (.bool b) s1:=t;generalize f:ev R U.J7 (bn ([qA p]++[.jk l]++[]) 0) s=r;have u:=f;cases b with
 |false=>simp[U.J7,d,t]at f;subst f;exact⟨s1,Nw rfl ⟨.ret,_,s1,u,.inr rfl,by simp⟩,V.mono λk D=>.inl D,.inr (C rfl)⟩
 |true=>
  cases y:p.b.cell with
  |false=>rw[y]at d;simp[U.J7,d,t,y]at f;subst f;have j:=Q rfl;rw[y]at j;exact⟨s1,Nw rfl ⟨.ret,_,s1,u,.inr rfl,by simp⟩,V.mono λk D=>.inl D,.inl j⟩
  |true=>
   rw[y]at d g;simp[U.J7,d,t,y]at f;generalize H:ev R (.loop U.yi) _ s1=r1 at f;have j:=Q rfl;rw[y,ar rfl]at j;have hq:=fG H p.b.n.toNat
    (λi e s'=>look e 1=some (.jk l)/\look e 2=some (.ax p.c)/\look e 18=some (iV p.b.n)/\look e 19=some (iV i)/\di (λk=>G k∨Up s.nx.toNat k) s s'/\I ((((List.range p.b.n.toNat).drop i).map (Cd p.id p.arg)).map oF++rest) s')
    (λo=>∃X s',di (λk=>G k∨Up s.nx.toNat k) s s'/\((o=.code .ret X s'/\Fn s')∨(o=.code (.exit 0) X s'/\I rest s')))
    0 (by omega) ⟨by simp,by simp[y],by simp,by simp,V.mono λk D=>.inl D,j⟩
    (λi e s' r hi ⟨T,M,q,z,E,B⟩ f=>by
     rw[yI _ _ hi,cL,bB]at B;obtain⟨b,s2,t,Y,Q,C⟩:=eC _ _ s' E.1 B;have O:(i:Int)<p.b.n:=by omega
     simp only[oF,Mv.c,Cd]at t;have P:=E.trans (Y.mono (G:=λk=>G k∨Up s.nx.toNat k) λk D=>.inl D);simp only[Sp.c,y]at M;cases b with
     |false=>simp[U.yi,T,M,q,z,O,g,t]at f;subst f;exact .inr ⟨by simp,_,_,P,.inl ⟨rfl,C rfl⟩⟩
     |true=>
      simp[U.yi,T,M,q,z,O,g,t,bj (n:=64) (show i<64 by omega) (by omega)]at f;subst f;exact .inl ⟨_,_,rfl,by simp[T],by simp[M,y],by simp[q],by simp,P,Q rfl⟩)
    (λe s' r ⟨T,M,q,z,E,B⟩ f=>by
     have Z:¬(max p.b.n 0<p.b.n):=by omega
     rw[Br (by simp)]at B;simp[U.yi,q,z,Z]at f;subst f;exact⟨by simp,_,_,E,.inr ⟨rfl,by simpa using B⟩⟩)
   clear H;obtain⟨X,s',E,⟨rfl,h⟩|⟨rfl,h⟩⟩:=hq
   .simp at f;subst f;exact⟨s',Nw rfl ⟨.ret,_,s',u,.inr rfl,by simp⟩,E,.inr h⟩
   simp at f;subst f;exact⟨s',Nw rfl ⟨.normal,_,s',u,.inl rfl,by simp⟩,E,.inl h⟩
def agJ(p:Sp)(hp:ef p.b=true)(n:Int)(h0:0<=n)(hn:n<=64):IE LU U.prog 231 [] [.ax p.c,.ax [iV n]] (((if p.zx then [(⟨p.id,p.arg,3,-1⟩:Mv)]else [])++(List.range n.toNat).map (oE p.id p.arg)).map oF):=by
 intro l G I Fn s hG qz I8 eC rest q;have d:=agG p;simp only[qA,oF,Mv.c,Sp.c,iV]at d;have main:∀(e:En) (s1:HS) (B r:Out),ev R (.loop U.rr) e s1=B->gz 0 B=r->look e 0=some (.jk l)->look e 1=some (.ax p.c)->look e 14=some (iV n)->look e 15=some (iV 0)->di (λk=>G k∨Up s.nx.toNat k) s s1->I (((List.range n.toNat).map (oE p.id p.arg)).map oF++rest) s1->
   ∃x g s',r=.code x g s'/\(x=.normal∨x=.ret)/\di (λk=>G k∨Up s.nx.toNat k) s s'/\(I rest s'∨Fn s'):=by
  intro e s1 B r j f e0 e1 V X Y Z;have hq:=fG j n.toNat
   (λi e s'=>look e 0=some (.jk l)/\look e 1=some (.ax p.c)/\look e 14=some (iV n)/\look e 15=some (iV i)/\di (λk=>G k∨Up s.nx.toNat k) s s'/\I ((((List.range n.toNat).drop i).map (oE p.id p.arg)).map oF++rest) s')
   (λo=>∃g s',di (λk=>G k∨Up s.nx.toNat k) s s'/\((o=.code .ret g s'/\Fn s')∨(o=.code (.exit 0) g s'/\I rest s')))
   0 (by omega) ⟨e0,e1,V,X,Y,Z⟩
   (λi e s' r hi ⟨Q,T,t,y,u,q⟩ f=>by
    rw[yI _ _ hi,cL,bB]at q;obtain⟨b,s2,C,h3,ht,D⟩:=eC _ _ s' u.1 q;have H:(i:Int)<n:=by omega
    simp only[oF,Mv.c,oE]at C;have M:=u.trans (h3.mono (G:=λk=>G k∨Up s.nx.toNat k) λk hk=>.inl hk);cases b with
    |false=>simp[U.rr,Q,T,t,y,H,d,C]at f;subst f;exact .inr ⟨by simp,_,_,M,.inl ⟨rfl,D rfl⟩⟩
    |true=>
     simp[U.rr,Q,T,t,y,H,d,C,bj (n:=64) (show i<64 by omega) (by omega)]at f;subst f;exact .inl ⟨_,_,rfl,by simp[Q],by simp[T],by simp[t],by simp,M,ht rfl⟩)
   (λe s' r ⟨Q,T,t,y,u,q⟩ f=>by
    have h4:¬(max n 0<n):=by omega
    rw[Br (by simp)]at q;simp[U.rr,t,y,h4]at f;subst f;exact⟨by simp,_,_,u,.inr ⟨rfl,by simpa using q⟩⟩)
  clear j;obtain⟨g,s',u,⟨rfl,h⟩|⟨rfl,h⟩⟩:=hq
  .simp at f;subst f;exact⟨_,_,_,rfl,.inr rfl,u,.inr h⟩
  simp at f;subst f;exact⟨_,_,_,rfl,.inl rfl,u,.inl h⟩
 generalize f:ev R U.J8 (bn ([]++[.jk l]++[.ax p.c,.ax [iV n]]) 0) s=r;have h5:=f;have fin:∀x g s',r=.code x g s'->(x=.normal∨x=.ret)->R (.call 231 ([]++[.jk l]++[.ax p.c,.ax [iV n]]) s)=.val (.bN []) s':=by intro x g s' h O;exact age (args:=[]++[.jk l]++[.ax p.c,.ax [iV n]]) rfl ⟨x,g,s',by rw[h5,h],O,rfl⟩
 cases z:p.zx with
 |false=>rw[z]at q d;simp[U.J8,z]at f;generalize j:ev R (.loop U.rr) _ s=B at f;obtain⟨x,g,s',O,E,u,hd⟩:=main _ s B r j f (by simp) (by simp[z]) (by simp) (by simp) di.refl (by simpa using q);exact⟨s',fin x g s' O E,u,hd⟩
 |true=>
  rw[z,ar rfl]at q;simp only[cL,bB,bD]at q;obtain⟨b,s1,C,hf,ht,D⟩:=eC _ _ s (aY _) q;have P:=hf.mono (G:=λk=>G k∨Up s.nx.toNat k) λk hk=>.inl hk
  simp only[oF,Mv.c]at C;rw[z]at d;cases b with|false=>simp[U.J8,z,d,C]at f;exact⟨s1,fin _ _ s1 f.symm (.inr rfl),P,.inr (D rfl)⟩|true=>simp[U.J8,z,d,C]at f;generalize j:ev R (.loop U.rr) _ s1=B at f;obtain⟨x,g,s',O,E,u,hd⟩:=main _ s1 B r j f (by simp) (by simp[z]) (by simp) (by simp) P (by simpa using ht rfl);exact⟨s',fin x g s' O E,u,hd⟩
@[simp]def VM{l:Ky}:cellsOf (.jk l)=some [.jk l]:=rfl
@[simp]def agK{s:HS}{o:Ky}{bo len c:Nat}{k:IntKind}{sz:Nat}:FD (some (.sl o bo len c)) (some (.int k 1)) sz s=if 1<len then if sz=c then .v (.ptr o (bo+1*sz)) s else .bad else .bad:=Kc (n:=1)
def di.kill{s:HS}{o:Ky}{G:cg}(h:G o):di G s (s.kill o):=
 ⟨aY _,rfl,λp c hG=>by rw[DL,aq λe=>by subst e;exact hG h],λp c hG=>rfl⟩
def TA{e:En}{s:HS}{m:Mv}(d:look e 21=some (oF m)):ev R U.ee e s=.code .normal (e.qw 6 (.ptr s.nx 0)) {h:=av (some (.cells (cR m.c) 0 4 s.nx)) s.nx s.h,nx:=s.nx.succ,gr:=av (some [s.nx]) s.nx s.gr,ty:=s.ty}:=by simp[d,ah,an]
section
variable{l:Ky}{G:cg}{I:ak->HS->Prop}{Fn:HS->Prop}{N:Nat}(hG:∀k,G k->k.toNat<N)(qz:∀x,zS N (I x))(I8:zS N Fn)
 (eC:∀x rest s1,N<=s1.nx.toNat->I (x::rest) s1->∃b s2,R (.round l [x] s1)=.val (.bool b) s2/\di G s1 s2/\(b=true->I rest s2)/\(b=false->Fn s2))
include hG qz I8 eC
theorem agL{f:Nat}{pre post:ak}{ms:aP}(LV:IE LU U.prog f pre post (ms.map oF))(rest:ak)(E:En)(hg:look E 3=some (.ax [.jk l]))(x:X)(hx:bq x E=some (.fn f pre post))(C:∃d,rest=List.map oF d)(s:HS)(T:N<=s.nx.toNat)(hI:I (ms.map oF++rest) s):
  ∃s',di (λk=>G k∨Up N k) s s'/\((lK R x [21] U.ee U.ep E s=.code .normal E s'/\I rest s')∨(lK R x [21] U.ee U.ep E s=.code .ret E s'/\Fn s')):=by
 have D:=Ky.ba s.nx;have Z:=di.rf (s:=s) (e:=E) (ps:=[21]) (jl:=U.ee) (body:=U.ep);have q:(LS s E [21] U.ee U.ep).nx.toNat=s.nx.toNat+1:=D;have t:∀{s1 s2:HS},di (Up (s.nx.toNat+1)) s1 s2->di (Up N) s1 s2:=λh=>h.mono λk g=>by show N<=k.toNat;have:s.nx.toNat+1<=k.toNat:=g;omega
 obtain⟨s2,H,hF,hd⟩:=LV s.nx (λk=>G k∨k=s.nx)
  (λM s'=>s.nx.toNat<s'.nx.toNat/\ao s'.h s.nx=uQ 0 none E [21] U.ee U.ep/\I M s'/\∃d,M=List.map oF d)
  (λs'=>s.nx.toNat<s'.nx.toNat/\ao s'.h s.nx=uQ 1 (some .ret) E [21] U.ee U.ep/\Fn s')
  (LS s E [21] U.ee U.ep) (λk g=>by
   rw[q];rcases g with g|rfl
   .have:=hG k g;omega
   omega)
  (λx=>by
   rw[q]
   rintro s1 s2 ⟨V,u,y,h4⟩ O
   exact⟨by have:=O.1;omega,by rw[O.2.2.1 s.nx V (by show¬(_<=_);omega)];exact u,qz _ _ _ y (t O),h4⟩)
  (by
   rw[q]
   rintro s1 s2 ⟨V,u,y⟩ O
   exact⟨by have:=O.1;omega,by rw[O.2.2.1 s.nx V (by show¬(_<=_);omega)];exact u,I8 _ _ y (t O)⟩)
  (λv M s1 hy ⟨V,u,y,d,h4⟩=>by
   cases d with
   |nil=>cases h4
   |cons m d=>
    simp only[cL,qU]at h4;obtain⟨rfl,rfl⟩:=h4;have ha:=TA (e:=.cons 21 (oF m) E) (s:=s1) (m:=m) (by simp);have P:=di.alloc (s:=s1) (.cells (cR m.c) 0 4 s1.nx) [s1.nx];have h5:s.nx≠s1.nx:=λe=>by rw[e]at V;omega
    have hj:ao (HS.mk (av (some (.cells (cR m.c) 0 4 s1.nx)) s1.nx s1.h) s1.nx.succ (av (some [s1.nx]) s1.nx s1.gr) s1.ty).h s.nx=uQ 0 none E [21] U.ee U.ep:=by rw[P.2.2.1 s.nx V (λh=>h)];exact u
    have h6:=di.aK (s:=HS.mk (av (some (.cells (cR m.c) 0 4 s1.nx)) s1.nx s1.h) s1.nx.succ (av (some [s1.nx]) s1.nx s1.gr) s1.ty) (G:=λk=>k=s.nx) (o:=s.nx) (b:=.loop 2 none E [21] U.ee U.ep) rfl;have h7:ao ((HS.mk (av (some (.cells (cR m.c) 0 4 s1.nx)) s1.nx s1.h) s1.nx.succ (av (some [s1.nx]) s1.nx s1.gr) s1.ty).aK s.nx (.loop 2 none E [21] U.ee U.ep)).h s1.nx=some (.cells (cR m.c) 0 4 s1.nx):=by rw[dU,aq (jB h5)];simp
    have hl:ao ((HS.mk (av (some (.cells (cR m.c) 0 4 s1.nx)) s1.nx s1.h) s1.nx.succ (av (some [s1.nx]) s1.nx s1.gr) s1.ty).aK s.nx (.loop 2 none E [21] U.ee U.ep)).h s.nx=uQ 2 none E [21] U.ee U.ep:=by rw[dU,ar rfl]
    have ho:=qz _ _ _ y ((P.mono (G:=Up N) λ_ h=>h.elim).trans (h6.mono λk g=>by subst g;exact T));have p:di (λk=>G k∨k=s.nx) s1 ((HS.mk (av (some (.cells (cR m.c) 0 4 s1.nx)) s1.nx s1.h) s1.nx.succ (av (some [s1.nx]) s1.nx s1.gr) s1.ty).aK s.nx (.loop 2 none E [21] U.ee U.ep)):=(P.mono λ_ h=>h.elim).trans (h6.mono λk g=>.inr g);generalize hp:(HS.mk (av (some (.cells (cR m.c) 0 4 s1.nx)) s1.nx s1.h) s1.nx.succ (av (some [s1.nx]) s1.nx s1.gr) s1.ty).aK s.nx (.loop 2 none E [21] U.ee U.ep)=s2 at*;obtain⟨b,s3,hb,Q,ht,hq⟩:=eC _ _ s2 (by have:=p.1;omega) ho;have z:ao s3.h s.nx=uQ 2 none E [21] U.ee U.ep:=by rw[Q.2.2.1 s.nx (by have:=p.1;omega) (λh=>by have:=hG _ h;omega)];exact hl
    have h8:s.nx.toNat<s3.nx.toNat:=by have:=p.1;have:=Q.1;omega
    have hs:=p.trans (Q.mono (G:=λk=>G k∨k=s.nx) λk g=>.inl g);generalize Y:ev R U.ep ((En.cons 21 (oF m) E).qw 6 (.ptr s1.nx 0)) s2=r;have j:=Cb (o:=r) u ha hj (by rw[hp];exact Y);obtain⟨mi,ma,mk,mn⟩:=m;simp only[oF,Mv.c]at hb h7;have fin:∀(st:Nat) (pd:Option HC),di (λk=>G k∨k=s.nx) s1 (s3.aK s.nx (.loop st pd E [21] U.ee U.ep)):=λst pd=>hs.trans (di.aK (.inr rfl))
    have B:∀(st:Nat) (pd:Option HC),di (Up N) s3 (s3.aK s.nx (.loop st pd E [21] U.ee U.ep)):=λst pd=>di.aK T
    simp[U.ep,hg,h7,aj,hb]at Y;cases b with
    |true=>simp at Y;subst Y;obtain⟨q1,_⟩:=j (λe2 s2 h=>by simp at h;obtain⟨_,rfl⟩:=h;exact z);exact⟨true,_,q1 _ _ rfl,fin _ _,λ_=>⟨h8,by rw[dU,ar rfl],qz _ _ _ (ht rfl) (B _ _),d,rfl⟩,by simp⟩
    |false=>
     simp at Y;subst Y;obtain⟨_,q1⟩:=j (λe2 s2 h=>by simp at h;obtain⟨_,rfl⟩:=h;exact z);exact⟨false,_,q1 _ _ rfl,fin _ _,by simp,λ_=>⟨h8,by rw[dU,ar rfl],I8 _ _ (hq rfl) (B _ _)⟩⟩)
  rest ⟨by rw[q];omega,by show ao (av _ s.nx s.h) s.nx=_;rw[tQ],qz _ _ _ hI (Z.mono λ_ h=>h.elim),by obtain⟨d,h⟩:=C;exact⟨ms++d,by rw[h,eD]⟩⟩
 have h9:=Cc (L:=LU) (prog:=U.prog) (x:=x) (s:=s) (e:=E) (ps:=[21]) (jl:=U.ee) (body:=U.ep) (e':=E) (YF:=[21]) (Ko:=U.ee) (DJ:=U.ep) hx H;have hK:di (λk=>G k∨Up N k) s (s2.kill s.nx):=by
  refine((Z.mono λ_ h=>h.elim).trans (hF.mono λk g=>?_)).trans (di.kill (.inr T));rcases g with(g|rfl)|g
  .exact .inl g
  .exact .inr T
  rw[q]at g;exact .inr (by show N<=k.toNat;have:s.nx.toNat+1<=k.toNat:=g;omega)
 rcases hd with⟨_,u,y,_⟩|⟨_,u,y⟩
 .exact⟨_,hK,.inl ⟨h9.1 u,qz _ _ _ y (di.kill T)⟩⟩
 exact⟨_,hK,.inr ⟨h9.2 u,I8 _ _ y (di.kill T)⟩⟩
end
def oe(p:Sp):aP:=dk p.b p.id p.arg++lZ p.b p.zx p.id p.arg
def zS.up{N c:Nat}{p:HS->Prop}(h:zS N p)(d:N<=c):zS c p:=λs1 s2 f g=>h s1 s2 f (g.mono λk j=>fh d j)
def agM(p:Sp)(hp:ef p.b=true):IE LU U.prog 208 [qA p] [] ((oe p).map oF):=by
 intro l G I Fn s hG qz I8 eC rest H;have h6:=hp;simp only[ef,bL]at h6;have M:=agH p p.b.n;have Z:∀x,zS s.nx.toNat (λs'=>I (x++rest) s'):=λx=>qz _
 have y:∀x r s1,s.nx.toNat<=s1.nx.toNat->I ((x::r)++rest) s1->∃b s2,R (.round l [x] s1)=.val (.bool b) s2/\di G s1 s2/\(b=true->I (r++rest) s2)/\(b=false->Fn s2):=λx r s1 h1 h2=>eC x _ s1 h1 h2
 generalize d:ev R U.SI (bn ([qA p]++[.jk l]++[]) 0) s=r;have h4:=d;simp only[qA,Sp.c,iV]at M;simp[U.SI,U.J5,M]at d;generalize P:ev R (.loop U.yd) _ _=r1 at d;generalize hS:HS.mk _ _ _ _=S at P;have q:ao S.h s.nx=some (.cells (cR [.fn 222 [qA p] [],.fn 231 [] [.ax p.c,.ax [iV p.b.n]]]) 0 2 s.nx):=by subst hS;simp;rfl
 have O:di (λ_=>False) s S:=by subst hS;exact di.alloc _ _
 have h7:s.nx.toNat<S.nx.toNat:=by have:=Ky.ba s.nx;subst hS;simp only;omega
 have hq:=fG P 2
  (λi e s'=>look e 3=some (.ax [.jk l])/\look e 14=some (.sl s.nx 0 2 1)/\look e 15=some (iV 2)/\look e 16=some (iV i)/\di (λk=>G k∨Up s.nx.toNat k) s s'/\s.nx.toNat<s'.nx.toNat/\
   ao s'.h s.nx=some (.cells (cR [.fn 222 [qA p] [],.fn 231 [] [.ax p.c,.ax [iV p.b.n]]]) 0 2 s.nx)/\
   I ((if i=0 then(oe p).map oF else if i=1 then(lZ p.b p.zx p.id p.arg).map oF else [])++rest) s')
  (λo=>∃e' s',di (λk=>G k∨Up s.nx.toNat k) s s'/\((o=.code .ret e' s'/\Fn s')∨(o=.code (.exit 0) e' s'/\I rest s')))
  0 (by omega) ⟨by simp,by simp,by simp,by simp,O.mono λ_ h=>h.elim,h7,q,by simpa using qz _ _ _ H (O.mono λ_ h=>h.elim)⟩
  (λi e s' r hi ⟨h3,z,u,g,X,hn,q,H⟩ d=>by
   have h8:∀k,G k->k.toNat<s'.nx.toNat:=λk hk=>by have:=hG k hk;omega
   have key:∀(f:Nat) (pre post:ak) (ms B:aP),IE LU U.prog f pre post (ms.map oF)->∀(E:En) (Y:Out),lK R (.t 20) [21] U.ee U.ep E s'=Y->look E 3=some (.ax [.jk l])->look E 20=some (.fn f pre post)->I ((ms.map oF++B.map oF)++rest) s'->
     ∃s2,di (λk=>G k∨Up s.nx.toNat k) s s2/\s.nx.toNat<s2.nx.toNat/\ao s2.h s.nx=some (.cells (cR [.fn 222 [qA p] [],.fn 231 [] [.ax p.c,.ax [iV p.b.n]]]) 0 2 s.nx)/\
      ((Y=.code .normal E s2/\I (B.map oF++rest) s2)∨(Y=.code .ret E s2/\Fn s2)):=by
    intro f pre post ms B LV E Y h9 ha h5 H;subst h9;obtain⟨s2,j,hd⟩:=agL (N:=s'.nx.toNat) (I:=λx s'=>I (x++rest) s') h8 (λx=>(Z x).up (by omega)) (I8.up (by omega)) (λx r s1 h1 h2=>y x r s1 (by omega) h2) LV (B.map oF) E ha (.t 20) (by rw[Gu];exact h5) ⟨B,rfl⟩ s' (aY _) H;refine⟨s2,X.trans (j.mono λk hk=>hk.imp id λh=>by have h:s'.nx.toNat<=k.toNat:=h;show s.nx.toNat<=k.toNat;omega),by have:=j.1;omega,?_,hd⟩;rw[j.2.2.1 s.nx hn (by rintro(h|h);have:=hG _ h;omega;have h:s'.nx.toNat<=s.nx.toNat:=h;omega)];exact q
   match i,hi with
   |0,_=>
    simp only[bf]at H;have Q:I (((dk p.b p.id p.arg).map oF++(lZ p.b p.zx p.id p.arg).map oF)++rest) s':=by rw[<-List.map_append];exact H
    simp at g;simp[-U.ee,U.yd,U.Fw,U.Fv,z,u,g,q,yx]at d;generalize C:lK R (.t 20) [21] U.ee U.ep _ s'=Y at d;obtain⟨s2,j,T,D,hd⟩:=key 222 [qA p] [] _ _ (agI p hp) _ _ C (by simp[h3]) (by simp) Q;clear C;have V:bR .i64 1=1:=bM (by omega) (by omega);rcases hd with⟨rfl,h⟩|⟨rfl,h⟩
    .simp[g,V]at d;subst d;exact .inl ⟨_,_,rfl,by simp[h3],by simp[z],by simp[u],by simp,j,T,D,by simpa using h⟩
    simp at d;subst d;exact .inr ⟨by simp,_,_,j,.inl ⟨rfl,h⟩⟩
   |1,_=>
    simp only[Nat.one_ne_zero,bp,bf]at H;have Q:I (((lZ p.b p.zx p.id p.arg).map oF++([]:aP).map oF)++rest) s':=by simpa using H
    simp at g;simp[-U.ee,U.yd,U.Fw,U.Fv,z,u,g,q,yx]at d;generalize C:lK R (.t 20) [21] U.ee U.ep _ s'=Y at d;obtain⟨s2,j,T,D,hd⟩:=key 231 [] [.ax p.c,.ax [iV p.b.n]] _ _ (agJ p hp p.b.n (by omega) (by omega)) _ _ C (by simp[h3]) (by simp) Q;clear C;have V:bR .i64 2=2:=bM (by omega) (by omega);rcases hd with⟨rfl,h⟩|⟨rfl,h⟩
    .simp[g,V]at d;subst d;exact .inl ⟨_,_,rfl,by simp[h3],by simp[z],by simp[u],by simp,j,T,D,by simpa using h⟩
    simp at d;subst d;exact .inr ⟨by simp,_,_,j,.inl ⟨rfl,h⟩⟩
   |i+2,h=>exact absurd h (by omega))
  (λe s' r ⟨h3,z,u,g,X,hn,q,H⟩ d=>by
   simp at g;simp[U.yd,u,g]at d;subst d;exact⟨by simp,_,_,X,.inr ⟨rfl,by simpa using H⟩⟩)
 clear P;obtain⟨e',s',X,⟨rfl,h⟩|⟨rfl,h⟩⟩:=hq
 .simp at d;subst d;exact⟨s',YO rfl ⟨.ret,_,s',h4,.inr rfl,rfl⟩,X,.inr h⟩
 simp at d;subst d;exact⟨s',YO rfl ⟨.normal,_,s',h4,.inl rfl,rfl⟩,X,.inl h⟩
def AO(i:Nat):∀(ps:pP) (j:Nat),(∀b∈ps,ef b=true)->∀p∈yE i j ps,ef p.b=true
 |[],_,_,p,c=>by cases c
 |b::r,j,h,p,c=>by
  rcases bm.1 c with rfl|c
  .exact h b dy
  exact AO i r (j+1) (λx d=>h x (dh _ d)) p c
def AP(jumps:Bool):∀(ids:sq) (i:Nat),(∀t∈ids,fy t=true)->∀p∈tY jumps i ids,ef p.b=true
 |[],_,_,p,c=>by cases c
 |t::r,i,h,p,c=>by
  have d:=h t dy;simp only[fy,aL,fw]at d;rcases bm.1 c with rfl|c
  .exact d.1.1
  rcases cG.1 c with c|c
  .exact AO i t.ps 0 d.1.2 p c
  exact AP jumps r (i+1) (λx f=>h x (dh _ f)) p c
def FO{a:Ar}(h:aB a=0):∀p∈su a,ef p.b=true:=by
 obtain⟨d,f⟩:=sr h;intro p c;rcases bm.1 c with rfl|c
 .exact d
 exact AP _ _ _ f p c
def FP{a:Ar}{id arg:Int}{p:Sp}(h:iA a id arg=some p):p∈su a:=FQ h
def NB(a:Ar)(m:Mv):ak:=match iA a m.id m.arg with|none=>[.agg Ev,.bool false]|some p=>[.agg p.c,.bool (decide (m∈oe p))]
def TB{e:En}{s:HS}{m:Mv}(d:look e 23=some (oF m)):ev R U.eA e s=.code .normal (e.qw 8 (.ptr s.nx 0)) {h:=av (some (.cells (cR m.c) 0 4 s.nx)) s.nx s.h,nx:=s.nx.succ,gr:=av (some [s.nx]) s.nx s.gr,ty:=s.ty}:=by simp[d,ah,an]
def agN(m:Mv)(q:Sp)(E:En)(u:look E 3=some (.ax m.c))(h5:look E 4=some (.ptr .e 0))(h7:look E 5=some (.ptr (.z .e) 0))(h8:look E 6=some (.ptr (.o .e) 0))(l:Ky)(Y:l=.z (.z .e))(x:Mv)(s:HS)
  (Z:ao s.h l=uQ 0 none E [23] U.eA U.eB)(h2:3<s.nx.toNat)(h3:gD s .e Ev)(h4:gD s (.z .e) [.bool false])(h6:gD s (.o .e) q.c):
  ∃b s',R (.round l [oF x] s)=.val (.bool b) s'/\di (λk=>k.toNat<4) s s'/\b= !decide (x=m)/\
   (b=true->ao s'.h l=uQ 0 none E [23] U.eA U.eB/\gD s' .e Ev/\gD s' (.z .e) [.bool false]/\gD s' (.o .e) q.c)/\(b=false->ao s'.h l=uQ 1 (some .ret) E [23] U.eA U.eB/\gD s' .e q.c/\gD s' (.z .e) [.bool true]):=by
 have h9:l.toNat=3:=by subst Y;rfl
 have n0:Ky.e≠l:=by rw[Y];intro h;cases h
 have n1:Ky.z .e≠l:=by rw[Y];intro h;cases h
 have n2:Ky.o .e≠l:=by rw[Y];intro h;cases h
 have ha:=TB (e:=.cons 23 (oF x) E) (s:=s) (m:=x) (by simp);have d:=di.alloc (s:=s) (.cells (cR x.c) 0 4 s.nx) [s.nx];have D:l≠s.nx:=λe=>by rw[e]at h9;omega
 have hb:ao (HS.mk (av (some (.cells (cR x.c) 0 4 s.nx)) s.nx s.h) s.nx.succ (av (some [s.nx]) s.nx s.gr) s.ty).h l=uQ 0 none E [23] U.eA U.eB:=by rw[d.2.2.1 l (by omega) (λh=>h)];exact Z
 have y:=di.aK (s:=HS.mk (av (some (.cells (cR x.c) 0 4 s.nx)) s.nx s.h) s.nx.succ (av (some [s.nx]) s.nx s.gr) s.ty) (G:=λk=>k=l) (o:=l) (b:=.loop 2 none E [23] U.eA U.eB) rfl;have H:=(h3.frame d (λh=>h)).frame y n0;have M:=(h4.frame d (λh=>h)).frame y n1;have O:=(h6.frame d (λh=>h)).frame y n2;have f:di (λk=>k.toNat<4) s ((HS.mk (av (some (.cells (cR x.c) 0 4 s.nx)) s.nx s.h) s.nx.succ (av (some [s.nx]) s.nx s.gr) s.ty).aK l (.loop 2 none E [23] U.eA U.eB)):=
  (d.mono λ_ h=>h.elim).trans (di.aK (by show l.toNat<4;omega))
 have B:ao ((HS.mk (av (some (.cells (cR x.c) 0 4 s.nx)) s.nx s.h) s.nx.succ (av (some [s.nx]) s.nx s.gr) s.ty).aK l (.loop 2 none E [23] U.eA U.eB)).h s.nx=some (.cells (cR x.c) 0 4 s.nx):=by rw[dU,aq (jB D)];simp
 have P:ao ((HS.mk (av (some (.cells (cR x.c) 0 4 s.nx)) s.nx s.h) s.nx.succ (av (some [s.nx]) s.nx s.gr) s.ty).aK l (.loop 2 none E [23] U.eA U.eB)).h l=uQ 2 none E [23] U.eA U.eB:=by rw[dU,ar rfl]
 generalize hd:(HS.mk (av (some (.cells (cR x.c) 0 4 s.nx)) s.nx s.h) s.nx.succ (av (some [s.nx]) s.nx s.gr) s.ty).aK l (.loop 2 none E [23] U.eA U.eB)=s2 at*;have lq:fU (ao s2.h (.o .e)) 0 5=some q.c:=O.load;obtain⟨s3,p,hf,g,hg⟩:=H.put (new:=q.c) (v:=qA q) rfl rfl;have hj:=M.frame g (λe=>by cases e);obtain⟨s4,ho,hp,j,ht⟩:=hj.set 0 (by simp) (.bool true) rfl;have Q:ao s4.h l=uQ 2 none E [23] U.eA U.eB:=by
  have hq:l.toNat<s2.nx.toNat:=by have:=f.1;omega
  rw[j.2.2.1 l (by have:=ct Ky.toNat hg;omega) (λe=>n1 e.symm),g.2.2.1 l hq (λe=>n0 e.symm)];exact P
 have t:=rC x m;simp only[Sp.c,Mv.c]at B p lq t u;have p:qj 5 (some (.ptr .e 0)) (some (.agg [.int .i64 q.id,.int .i64 q.arg,.bool q.b.cell,.int .i64 q.b.n,.bool q.zx])) s2=.v .undef s3:=p;generalize T:ev R U.eB ((En.cons 23 (oF x) E).qw 8 (.ptr s.nx 0)) s2=r;have eC:=Cb (o:=r) Z ha hb (by rw[hd];exact T);have fin:∀(C:HS) (x:Nat) (V:Option HC),di (λk=>k.toNat<4) s C->di (λk=>k.toNat<4) s (C.aK l (.loop x V E [23] U.eA U.eB)):=λC x V h=>h.trans (di.aK (by show l.toNat<4;omega))
 have X:∀(C:HS) (o:Ky) (c:ak) (x:Nat) (V:Option HC),o≠l->gD C o c->gD (C.aK l (.loop x V E [23] U.eA U.eB)) o c:=λC o c x V hs h=>h.frame (di.aK (G:=λk=>k=l) rfl) hs
 by_cases hm:x=m
 .rw[cV hm]at t;simp[U.eB,u,h5,h7,h8,B,aj,lq,t,p,ho]at T;subst T;obtain⟨_,h2⟩:=eC (λe2 s2 h=>by simp at h;obtain⟨_,rfl⟩:=h;exact Q);refine⟨false,_,h2 _ _ rfl,fin _ _ _ ((f.trans (g.mono λk t=>by subst t;simp[Ky.toNat])).trans (j.mono λk t=>by subst t;simp[Ky.toNat])),by simp[hm],by simp,λ_=>⟨by rw[dU,ar rfl],X _ _ _ _ _ n0 (hf.frame j (λe=>by cases e)),X _ _ _ _ _ n1 hp⟩⟩
 rw[cu hm]at t;simp[U.eB,u,B,aj,t]at T;subst T;obtain⟨Z,_⟩:=eC (λe2 s2 h=>by simp at h;obtain⟨_,rfl⟩:=h;exact P);exact⟨true,_,Z _ _ rfl,fin _ _ _ f,by simp[hm],λ_=>⟨by rw[dU,ar rfl],X _ _ _ _ _ n0 H,X _ _ _ _ _ n1 M,X _ _ _ _ _ n2 O⟩,by simp⟩
def agO(a:Ar)(ok:dj a)(hc:aB a=0)(m:Mv)(s:HS):R (.call 170 [.agg a.c,.agg m.c] s)=.val (.bN (NB a m)) s:=by
 refine afi ?_;have f:=Zb a ok m.id m.arg;simp only[Ar.c,iV]at f;unfold NB;cases hq:iA a m.id m.arg with
 |none=>rw[hq]at f;simp only[GZ,Ev]at f;simp[-U.eA,U.R2,f,s0,ah,an,aj];exact aC (.bN (.data (by simp)))
 |some q=>
 have hg:=FO hc q (FP hq);rw[hq]at f;simp only[GZ,Sp.c]at f;simp[-U.eA,U.R2,U.J1,f,s0,ah,an,aj];generalize X:lK R _ _ _ _ _ _=o;generalize hE:(En.cons 0 _ _:En)=E at X;generalize hS:HS.mk _ _ _ _=S at X;have hj:look E 3=some (.ax m.c):=by subst hE;simp
 have H:look E 4=some (.ptr .e 0):=by subst hE;simp
 have M:look E 5=some (.ptr (.z .e) 0):=by subst hE;simp
 have h8:look E 6=some (.ptr (.o .e) 0):=by subst hE;simp
 have h9:look E 22=some (.fn 208 [qA q] []):=by subst hE;simp
 have g:S.nx=.z (.z .e):=by subst hS;rfl
 have hl:gD S .e Ev:=by subst hS;exact⟨rfl,rfl,by simp[Ky.toNat]⟩
 have hp:gD S (.z .e) [.bool false]:=by subst hS;exact⟨rfl,rfl,by simp[Ky.toNat]⟩
 have hs:gD S (.o .e) q.c:=by subst hS;exact⟨rfl,rfl,by simp[Ky.toNat]⟩
 have r:(LS S E [23] U.eA U.eB).nx.toNat=4:=by show S.nx.succ.toNat=4;rw[g];rfl
 have O:=di.rf (s:=S) (e:=E) (ps:=[23]) (jl:=U.eA) (body:=U.eB);obtain⟨s2,P,hF,hd⟩:=agM q hg (.z (.z .e)) (λk=>k.toNat<4)
  (λht s'=>3<s'.nx.toNat/\ao s'.h (.z (.z .e))=uQ 0 none E [23] U.eA U.eB/\gD s' .e Ev/\gD s' (.z .e) [.bool false]/\gD s' (.o .e) q.c/\∃d u,ht=u.map oF/\oe q=d++u/\m ∉ d)
  (λs'=>3<s'.nx.toNat/\ao s'.h (.z (.z .e))=uQ 1 (some .ret) E [23] U.eA U.eB/\m∈oe q/\gD s' .e q.c/\gD s' (.z .e) [.bool true])
  (LS S E [23] U.eA U.eB) (λk hk=>by rw[r];exact hk)
  (λx=>by
   rw[r]
   rintro s1 s2 ⟨Q,B,C,D,j,Y⟩ p
   exact⟨by have:=p.1;omega,by rw[p.2.2.1 (.z (.z .e)) Q (by simp[Up,Ky.toNat])];exact B,C.frame p (by simp[Up,Ky.toNat]),D.frame p (by simp[Up,Ky.toNat]),j.frame p (by simp[Up,Ky.toNat]),Y⟩)
  (by
   rw[r]
   rintro s1 s2 ⟨Q,B,C,D,j⟩ p
   exact⟨by have:=p.1;omega,by rw[p.2.2.1 (.z (.z .e)) Q (by simp[Up,Ky.toNat])];exact B,C,D.frame p (by simp[Up,Ky.toNat]),j.frame p (by simp[Up,Ky.toNat])⟩)
  (λx rest s1 hN ⟨Q,B,C,D,T,d,u,j,Y,h7⟩=>by
   cases u with
   |nil=>cases j
   |cons y u=>
    simp only[cL,qU]at j;obtain⟨rfl,rfl⟩:=j;obtain⟨b,s2,r1,r2,r3,r4,r5⟩:=agN m q E hj H M h8 (.z (.z .e)) rfl y s1 B Q C D T;refine⟨b,s2,r1,r2,λhb=>?_,λhb=>?_⟩
    .obtain⟨q1,q2,q3,q4⟩:=r4 hb;refine⟨by have:=r2.1;omega,q1,q2,q3,q4,d++[y],u,rfl,by rw[Y];simp,λZ=>?_⟩;rcases cG.1 Z with Z|Z
     .exact h7 Z
     simp at Z;subst Z;rw[hb]at r3;simp at r3
    obtain⟨q1,q2,q3⟩:=r5 hb;refine⟨by have:=r2.1;omega,q1,?_,q2,q3⟩;rw[hb]at r3;have:y=m:=by simpa using r3
    rw[Y,<-this];simp)
  [] ⟨by rw[r];omega,by show ao (av _ S.nx S.h) (.z (.z .e))=_;rw[g,tQ],hl.frame O (λh=>h),hp.frame O (λh=>h),hs.frame O (λh=>h),[],oe q,by simp,rfl,by simp⟩
 have ha:=Cc (L:=LU) (prog:=U.prog) (x:=.t 22) (s:=S) (e:=E) (ps:=[23]) (jl:=U.eA) (body:=U.eB) (e':=E) (YF:=[23]) (Ko:=U.eA) (DJ:=U.eB) (by rw[Gu];exact h9) (by rw[g];exact P);rcases hd with⟨Q,B,C,D,T,d,u,j,Y,h7⟩|⟨Q,B,C,D,j⟩
 .have hr:=ha.1 (by rw[g];exact B);rw[hr]at X;subst X;have hx:m ∉ oe q:=by
   have:u=[]:=by cases u with
    |nil=>rfl
    |cons x y=>cases j
   subst this;rw[Y];simpa using h7
  have k1:=C.kill (k:=S.nx) (by rw[g];intro h;cases h);have k2:=D.kill (k:=S.nx) (by rw[g];intro h;cases h);have k3:=T.kill (k:=S.nx) (by rw[g];intro h;cases h);generalize s2.kill S.nx=K at*;have lq:fU (ao K.h (.o .e)) 0 5=some q.c:=k3.load;obtain⟨K1,V,hz,k0,_⟩:=k1.put (new:=q.c) (v:=qA q) rfl rfl;have k4:=k2.frame k0 (λe=>by cases e);obtain⟨K2,k5,k6,k7,_⟩:=k4.set 0 (by simp) (.bool false) rfl;have k8:=hz.frame k7 (λe=>by cases e);have V:qj 5 (some (.ptr .e 0)) (some (.agg [.int .i64 q.id,.int .i64 q.arg,.bool q.b.cell,.int .i64 q.b.n,.bool q.zx])) K=.v .undef K1:=V;have l1:fU (ao K2.h .e) 0 5=some q.c:=k8.load;have l2:eN (ao K2.h (.z .e)) 0=some (.bool false):=k6.get 0 (by simp);simp only[Sp.c]at lq l1;simp[H,M,h8,lq,V,k5,l1,l2,hx];exact aC (.bN (.data (by simp)))
 have hr:=ha.2 (by rw[g];exact B);rw[hr]at X;subst X;have k1:=D.kill (k:=S.nx) (by rw[g];intro h;cases h);have k2:=j.kill (k:=S.nx) (by rw[g];intro h;cases h);generalize s2.kill S.nx=K at*;have l1:fU (ao K.h .e) 0 5=some q.c:=k1.load;have l2:eN (ao K.h (.z .e)) 0=some (.bool true):=k2.get 0 (by simp);simp only[Sp.c]at l1;simp[H,M,l1,l2,C];exact aC (.bN (.data (by simp)))
def II(a:Ar)(m:Mv):Bool:=match iA a m.id m.arg with|none=>false|some p=>m∈oe p
def NC(a:Ar)(ok:dj a)(m:Mv)(s:HS):R (.call 151 [.agg a.c,.agg m.c] s)=.val (.bN [.bool (decide (aB a=0)&&II a m),iV (aB a)]) s:=by
 refine ae1 ?_;have d:=YX a ok;simp only[Ar.c,iV]at d;by_cases g:aB a=0
 .have f:=agO a ok g m;unfold II;cases h:iA a m.id m.arg with|none=>simp only[NB,h,Ev,Ar.c,Mv.c]at f;simp[U.MG,d,g,f,s0,ah,an,aj];exact aC (.bN (.data (by simp)))|some q=>simp only[NB,h,Ar.c,Mv.c,Sp.c]at f;simp[U.MG,d,g,f,s0,ah,an,aj];exact aC (.bN (.data (by simp)))
 simp[U.MG,d,g,s0,ah,an];exact aC (.bN (.data (by simp)))
def fO(m:Mv):Bool:=decide (m.kind=3)
def wc(m:Mv):Bool:=decide (0<m.id)&&decide (m.arg=0)
def CE(m:Mv):Bool:=decide (0<m.id)&&decide (0<m.arg)
def Ku(m:Mv)(i a:Int):Bool:=decide (m.id=i)&&decide (m.arg=a)
def Zc(m:Mv)(i a:Int)(s:HS):R (.call 174 [.agg m.c,iV i,iV a] s)=.val (.bool (Ku m i a)) s:=by refine afm ?_;by_cases h:m.id=i<;>simp[U.Xv,h,aa,Ku]
def agP(m:Mv)(s:HS):R (.call 172 [.agg m.c] s)=.val (.bool (Ku m 0 0)) s:=by refine afk ?_;have h:=Zc m 0 0;simp only[Mv.c,iV]at h;simp[U.Xt,h,aa]
def ND(m:Mv)(s:HS):R (.call 173 [.agg m.c] s)=.val (.bool (fO m)) s:=by refine afl ?_;simp[U.Xu,aa,fO]
def Kv(m:Mv)(s:HS):R (.call 177 [.agg m.c] s)=.val (.bool (wc m)) s:=by refine afp ?_;by_cases h:0<m.id<;>simp[U.Xw,h,aa,wc]
def NG(m:Mv)(s:HS):R (.call 178 [.agg m.c] s)=.val (.bool (CE m)) s:=by refine afq ?_;by_cases h:0<m.id<;>simp[U.Xx,h,aa,CE]
def TC(m:Mv)(s:HS):R (.call 179 [.agg m.c] s)=.val (.bool (bQ m)) s:=by
 refine afr ?_;have h:=ND m;simp only[Mv.c,fO]at h;by_cases d:m.kind=3
 .rw[d]at h;simp[U.Sd,h,d,aa,bQ]
 simp[U.Sd,h,d,aa,bQ]
structure Tk where
 x:Wk
 fo:ck
 force:Bool
@[simp]def Tk.c(t:Tk):ak:=[.psl (t.x.a.ids.map Ty.c),.bool t.x.a.root.cell,.int .i64 t.x.a.root.n,.bool t.x.a.jumps,.psl (t.x.w.map Mv.c),.psl (t.x.pt.map iC),.psl (t.x.js.map iC),.psl (t.fo.map bC),.psl (t.x.op.map nC),.bool t.force,.bool t.x.lost,.int .i64 t.x.pT]
def tZ(t:Tk):Prop:=iz t.x/\t.fo.length=t.x.w.length
def zU(x:Wk):ak:=match x.op.getLast? with|none=>[iV (-1),.bool false]|some n=>[iV n,.bool true]
def Kw(x:Wk)(c:iz x)(s:HS):R (.call 171 [.agg [.psl (x.op.map nC)]] s)=.val (.bN (zU x)) s:=by have h:=agp (x.op.map (λn:Nat=>(n:Int))) (by have:=c.DO;have:=c.len;simp;omega) s;rw[pc]at h;rw[show(iC∘λn:Nat=>(n:Int))=nC from rfl]at h;rw[h];unfold Ny zU;rw[TD];cases x.op.getLast?<;>rfl
def uR(x:Wk):Bool:=decide (0<x.w.length)&&decide (x.op.length=0)
def agQ(t:Tk)(s:HS):R (.call 209 [.ax t.c] s)=.val (.bool (uR t.x)) s:=by
 refine afW ?_;by_cases h:0<t.x.w.length
 .have g:(0:Int)<t.x.w.length:=by omega
  by_cases f:t.x.op.length=0
  .have d:(t.x.op.length:Int)=0:=by omega
   simp[U.Nf,aa,uR,h,f]
  have d:¬(t.x.op.length:Int)=0:=by omega
  simp[U.Nf,aa,uR,h,f]
 have g:¬(0:Int)<t.x.w.length:=by omega
 simp[U.Nf,aa,uR,h]
def Kx(x:Wk):Int:=if uR x then 3 else match fZ x with|none=>1|some q=>if wc q then 1 else 2
def FR{x:Wk}(f:iz x):(fZ x=none/\x.op=[]/\zU x=[iV (-1),.bool false])∨∃(r:ay) (n:Nat) (q:Mv),x.op=r++[n]/\(∃h:n<x.w.length,x.w[n]=q)/\fZ x=some q/\zU x=[iV n,.bool true]/\n<x.w.length:=by
 rcases ly x.op with c|⟨r,n,c⟩
 .exact .inl ⟨by unfold fZ;rw[c];rfl,c,by unfold zU;rw[c];rfl⟩
 have d:=f.op n (by rw[c];simp);have g:=aO d;refine .inr ⟨r,n,_,by simpa using c,⟨d,rfl⟩,?_,?_,d⟩
 .unfold fZ;rw[c];simpa using g
 unfold zU;rw[c];simp
def agR(t:Tk)(u:tZ t)(s:HS):R (.call 176 [.ax t.c] s)=.val (.int .u8 (Kx t.x)) s:=by
 refine afo ?_;have f:=agQ t;have d:=Kw t.x u.1;simp only[Tk.c]at f;unfold Kx;cases B:uR t.x
 .rw[B]at f;rcases FR u.1 with⟨j,p,h⟩|⟨r,n,q,j,⟨y,p⟩,h,z,C⟩
  .rw[h]at d;simp only[iV]at d;simp[U.J2,f,d,aa,j]
  rw[z]at d;have g:=Kv q;simp only[iV,Mv.c]at d g;cases D:wc q<;>rw[D]at g<;>simp[U.J2,f,d,g,aa,p,h,C,D]
 rw[B]at f;rcases FR u.1 with⟨j,p,h⟩|⟨r,n,q,j,⟨y,p⟩,h,z,C⟩
 .rw[h]at d;simp only[iV]at d;simp[U.J2,f,d,aa]
 rw[z]at d;simp only[iV]at d;simp[U.J2,f,d,aa]
def NH(t:Tk)(q m:Mv):Bool:=if t.force||t.x.lost then bQ m else if bQ m then CE q||(wc q&&t.x.a.jumps)else decide (q.kind=1)||decide (m.n=0)
def agS(t:Tk)(q m:Mv)(s:HS):R (.call 175 [.ax t.c,.agg q.c,.agg m.c] s)=.val (.bool (NH t q m)) s:=by
 refine afn ?_;have d:=TC m;have f:=NG q;have g:=Kv q;obtain⟨x,y,force⟩:=t;obtain⟨a,w,op,z,B,lost,h⟩:=x;simp only[Mv.c]at d f g;unfold NH;cases force
 .cases lost
  .cases j:bQ m
   .rw[j]at d;by_cases p:q.kind=1<;>simp[U.Iv,d,aa,p]
   rw[j]at d;cases r:CE q<;>rw[r]at f
   .cases u:wc q<;>rw[u]at g<;>simp[U.Iv,d,f,g,aa]
   simp[U.Iv,d,f,aa]
  simp[U.Iv,d,aa]
 simp[U.Iv,d,aa]
def zV(t:Tk)(m:Mv):Bool:=match fZ t.x with|none=>decide (t.x.w=[])&&(Ku m 0 0&& !fO m)|some q=>if fO m then Ku m q.id q.arg&&NH t q m else if t.force||t.x.lost then false else if wc q then CE m&&decide (m.id=q.id)else wc m
def agT(t:Tk)(M:tZ t)(m:Mv)(s:HS):R (.call 152 [.ax t.c,.agg m.c] s)=.val (.bool (zV t m)) s:=by
 refine ae2 ?_;have g:=agR t M;have d:=Kw t.x M.1;have p:=agP m;have f:=ND m;have h:=Zc m;have j:=agS t;have y:=Kv m;have u:=NG m;obtain⟨x,Z,force⟩:=t;simp only[Tk.c,Mv.c]at p f h j g y u;unfold zV;rcases FR M.1 with⟨C,z,D⟩|⟨r,n,q,C,⟨T,z⟩,D,V,B⟩
 .rw[D]at d;simp only[iV]at d;simp only at C;rw[C];by_cases Q:x.w=[]
  .cases E:Ku m 0 0<;>rw[E]at p<;>simp[U.B0,d,p,f,aa,Q]
  simp[U.B0,d,aa,Q]
 rw[V]at d;have j:=j q m;simp only[iV]at d j h;simp only at D z B;rw[D];cases X:fO m<;>rw[X]at f
 .have O:uR x=false:=by unfold uR;simp only at C;rw[C];simp
  unfold Kx at g;simp only[O,D]at g;cases force
  .cases H:x.lost
   .cases P:wc q<;>rw[H,P]at g<;>simp only[cy,bp,bf]at g
    .simp[U.B0,P,d,f,g,y,aa,z,B,H,s0,ah,an]
    cases Y:CE m<;>rw[Y]at u<;>simp[U.B0,P,d,f,g,u,aa,z,B,H,s0,ah,an]
   simp[U.B0,d,f,aa,z,B,H,s0,ah,an]
  simp[U.B0,d,f,aa,z,B,s0,ah,an]
 have h:=h q.id q.arg;cases E:Ku m q.id q.arg<;>rw[E]at h
 .simp[U.B0,E,d,f,h,aa,z,B,s0,ah,an]
 simp[U.B0,E,d,f,h,j,aa,z,B,s0,ah,an,aj]
def TE{L:jx}{prog:Nat->Option HF}(f:Nat)(F:HF)(v:HV)(s:HS)(d:prog f=some F)(g:pO L f=true)(j:F.pu=true)(h:ea L prog (.call f [.agg [.psl []]] s0)=.val v s0):
  ea L prog (.call f [.agg [.ai]] s)=.val v s:=by
 have h:=lx h trivial;have h:sQ L f [.agg [.psl []]] s0 (bu prog (ea L prog) f [.agg [.psl []]] s0)=.val v s0:=h;rw[ff g]at h;unfold bu at h;rw[d]at h;have h:(bif F.pu then bW F (ea L prog) [.agg [.psl []]] s0 else dD F (ea L prog) [.agg [.psl []]] s0)=.val v s0:=h;rw[j,cond_true]at h;unfold bW at h;have h:bU (jo F (ea L prog) [.agg [.psl []]]) (λv=>Out.val v s0) (Out.bad 40)=Out.val v s0:=h;have c:jo F (ea L prog) [.agg [.psl []]]=some v:=by
  cases p:jo F (ea L prog) [.agg [.psl []]]with
  |none=>rw[p]at h;cases h
  |some q=>rw[p]at h;cases h;rfl
 refine dB ?_ trivial;show sQ L f [.agg [.ai]] s (bu prog (ea L prog) f [.agg [.ai]] s)=_;rw[ff g];unfold bu;rw[d];show(bif F.pu then bW F (ea L prog) [.agg [.ai]] s else dD F (ea L prog) [.agg [.ai]] s)=_;rw[j,cond_true];unfold bW;show bU (jo F (ea L prog) [.agg [.psl []]]) (λv=>Out.val v s) (Out.bad 40)=_;rw[c];rfl
def gD.Zd{s:HS}{o:Ky}{c:ak}(h:gD s o c)(k:Nat){x:HV}(d:c[k]?=some x):fU (ao s.h o) k 1=some [x]:=by have f:=(aV.1 d).1;rw[h.1,aj (fD _) (by omega) (by omega),List.take_one,List.head?_drop,d];rfl
def wg(t:Tk)(v1 v2 v3 v4 v5:HV):ak:=[.psl (t.x.a.ids.map Ty.c),.bool t.x.a.root.cell,.int .i64 t.x.a.root.n,.bool t.x.a.jumps,v1,v2,v3,v4,v5,.bool t.force,.bool t.x.lost,.int .i64 t.x.pT]
def VN(t:Tk)(v1 v2 v3 v4 v5:HV):cS:=[(v1,4,t.x.w.map Mv.c),(v2,1,t.x.pt.map iC),(v3,1,t.x.js.map iC),(v4,1,t.fo.map bC),(v5,1,t.x.op.map nC)]
def G0(s:HS)(o:Ky)(t:Tk):Prop:=∃v1 v2 c d f aw,iU s o (wg t v1 v2 c d f) aw (VN t v1 v2 c d f)
def G0.VL{n:Nat}{s:HS}{o:Ky}{t:Tk}(h:G0 s o t):Vw s (n+4) (.ptr o 0) (.ax t.c):=by obtain⟨v1,v2,d,f,g,aw,h⟩:=h;refine Vw.ptr h.bz.1 rfl ?_;exact .cons (.data (by simp)) (.cons (.data (by simp)) (.cons (.data (by simp)) (.cons (.data (by simp)) (.cons ((h.own 0 _ _ _ rfl).vw (by simp)) (.cons ((h.own 1 _ _ _ rfl).vw (by simp)) (.cons ((h.own 2 _ _ _ rfl).vw (by simp)) (.cons ((h.own 3 _ _ _ rfl).vw (by simp)) (.cons ((h.own 4 _ _ _ rfl).vw (by simp)) (.cons (.data (by simp)) (.cons (.data (by simp)) (.cons (.data (by simp)) .nil)))))))))))
def Cg(x:Wk):Int:=match x.op.getLast? with|none=> -1|some n=>n
def FT(x:Wk):∃b,zU x=[iV (Cg x),.bool b]:=by unfold zU Cg;cases x.op.getLast? with|none=>exact⟨_,rfl⟩|some n=>exact⟨_,rfl⟩
def Kz{t:Tk}(g:tZ t){s:HS}{F:cg}{v:HV}(h:bY s v 1 F (t.x.op.map nC)):R (.call 171 [.agg [v]] s)=.val (.bN (zU t.x)) s:=by
 have c:=Kw t.x g.1;have d:nz s 16 [.agg [v]] [.agg [.psl (t.x.op.map nC)]]:=.cons (Vw.agg (.cons (h.vw (by simp)) .nil)) .nil;have f:eX (.bN (zU t.x))=true:=by obtain⟨b,j⟩:=FT t.x;rw[j];rfl
 rcases h.2.2 with⟨rfl,p⟩|⟨o,_,_,_,_,rfl,_⟩
 .rw[p]at c;exact TE 171 U.f171 _ s rfl rfl rfl (c s0)
 exact v171 (by rfl) d (by simp) f c
def mZ(t:Tk)(m:Mv):Tk:=
 if fO m then{x:={t.x with w:=t.x.w++[m],op:=t.x.op.dropLast,pt:=t.x.pt.set (t.x.op.getLastD 0) t.x.w.length++[((t.x.op.getLastD 0:Nat):Int)],js:=t.x.js++[((t.x.op.getLastD 0:Nat):Int)],lost:=t.x.lost||(bQ m&&wc m&& !t.force),pT:=max t.x.pT t.x.op.dropLast.length},fo:=t.fo++[t.force],force:=bQ m&&CE m}
 else{x:={t.x with w:=t.x.w++[m],op:=t.x.op++[t.x.w.length],pt:=t.x.pt++[-1],js:=t.x.js++[if wc m then 0 else if CE m then Cg t.x else-1],pT:=max t.x.pT (t.x.op.length+1)},fo:=t.fo++[t.force],force:=false}
def DP{m:Mv}(h:fO m=false):bQ m=false:=by unfold fO at h;unfold bQ;simp at h;simp[h]
def Ze(t:Tk)(D:tZ t)(m:Mv)(P:fO m=false)(s:HS)(o:Ky)(h:G0 s o t):
  ∃s',R (.call 153 [.ptr o 0,.agg m.c] s)=.val (.bN []) s'/\G0 s' o (mZ t m):=by
 obtain⟨v1,v2,v3,v4,v5,aw,h⟩:=h;have hl:=D.1.len;have ka:=D.1.DO;have kb:=D.1.Tx;have kc:=D.1.I7;have kd:=D.2;have p:=Kz D (h.own 4 _ _ _ rfl);obtain⟨bt,Q⟩:=FT t.x;rw[Q]at p;have d:=ND m;have f:=Kv m;have g:=NG m;have q:=TC m;rw[P]at d;rw[DP P]at q;simp only[Mv.c,iV]at d f g q p;have g8:=h.bz.Zd 8 rfl;have g4:=h.get 4 rfl;have l4:=h.len 0 rfl;have g7:=h.get 7 rfl;have g9:=h.get 9 rfl;generalize M:(if wc m then 0 else if CE m then Cg t.x else-1)=j;have key:∀(e:En) (r:Out),ev R U.rm e s=r->look e 0=some (.ptr o 0)->look e 3=some (.ax m.c)->look e 4=some (iV (Cg t.x))->look e 8=some (iV (-1))->look e 7=some (iV (-1))->∃y,r=.code .normal y s/\look y 8=some (iV j)/\look y 7=some (iV (-1))/\look y 0=some (.ptr o 0)/\look y 3=some (.ax m.c)/\look y 6=look e 6:=by
  intro e r u T E e4 e8 V;cases O:wc m<;>rw[O]at f
  .cases X:CE m<;>rw[X]at g
   .simp[U.rm,E,d,f,g]at u;subst u;exact⟨_,rfl,by simp[<-M,O,X,e8,V,T,E]⟩
   simp[U.rm,E,e4,d,f,g]at u;subst u;exact⟨_,rfl,by simp[<-M,O,X,V,T,E]⟩
  simp[U.rm,E,d,f]at u;subst u;exact⟨_,rfl,by simp[<-M,O,V,T,E]⟩
 obtain⟨Y,s1,hz,a1,c1,h1⟩:=h.append 3 rfl (new:=[[.bool t.force]]) (Sz.cons rfl Sz.nil) (by simp) (bx:=140737488355328) (by simp;omega);obtain⟨s2,b1,h2⟩:=h1.field 7 (by simp[wg]) c1;obtain⟨s3,b2,h3⟩:=h2.field 9 (by simp[wg]) (x:=.bool false) rfl;have i4:=h3.get 4 rfl;obtain⟨Z,s4,k0,a4,c4,h4⟩:=h3.append 0 rfl (new:=[m.c]) (Sz.cons rfl Sz.nil) (by simp) (bx:=4398046511104) (by simp;omega);obtain⟨s5,b5,h5⟩:=h4.field 4 (by simp[wg]) c4;have i5:=h5.get 5 rfl;have i6:=h5.get 6 rfl;obtain⟨ha,s6,k7,a6,c6,h6⟩:=h5.append 1 rfl (new:=[[iV (-1)]]) (Sz.cons rfl Sz.nil) (by simp) (bx:=17592186044416) (by simp;omega);have j6:=h6.get 6 rfl;obtain⟨hb,s7,k9,a7,c7,h7⟩:=h6.append 2 rfl (new:=[[iV j]]) (Sz.cons rfl Sz.nil) (by simp) (bx:=17592186044416) (by simp;omega);obtain⟨s8,b8,h8⟩:=h7.field 5 (by simp[wg]) c6;obtain⟨s9,b9,h9⟩:=h8.field 6 (by simp[wg]) c7;have k8:=h9.get 8 rfl;obtain⟨hd,ke,B,H,hf,hg⟩:=h9.append 4 rfl (new:=[[iV t.x.w.length]]) (Sz.cons rfl Sz.nil) (by simp) (bx:=17592186044416) (by simp;omega);obtain⟨kg,ho,z⟩:=hg.field 8 (by simp[wg]) hf;have hs:=z.get 11 rfl;have m8:=z.get 8 rfl;have lm:=z.len 4 rfl;obtain⟨C,hx,hy⟩:=z.field 11 (by simp[wg]) (x:=.int .i64 (max t.x.pT (t.x.op.length+1))) rfl;simp only[Mv.c]at a4;simp at a1 a4 a6 a7 H l4 lm;have hE:∃y,ev R U.Fs (bn [.ptr o 0,.agg m.c] 0) s=.code .normal y C:=by generalize u:ev R U.Fs (bn [.ptr o 0,.agg m.c] 0) s=r;simp-implicitDefEqProofs[U.Fs,g8,p,g4,l4]at u;generalize hk:ev R U.rm _ s=r1 at u;obtain⟨e1,k1,k2,k3,k4,k5,k6⟩:=key _ _ hk (by simp) (by simp) (by simp) (by simp) (by simp);clear hk;subst k1;simp at k6;simp-implicitDefEqProofs[k2,k3,k4,k5,k6,g7,g9,a1,b1,q,d,b2,i4,a4,b5,i5,i6,a6,j6,a7,b8,b9,k8,H,ho,hs,m8,lm,hx]at u;subst u;exact⟨_,rfl⟩
 obtain⟨y,hE⟩:=hE;refine⟨C,YK rfl ⟨.normal,_,C,hE,.inl rfl,by simp⟩,Z,ha,hb,Y,hd,B,?_⟩;unfold mZ;rw[P,M];simpa[wg,VN]using hy
def Zf(t:Tk)(P:tZ t)(m:Mv)(hq:fO m=true)(cO:t.x.op≠ [])(s:HS)(o:Ky)(h:G0 s o t):
  ∃s',R (.call 153 [.ptr o 0,.agg m.c] s)=.val (.bN []) s'/\G0 s' o (mZ t m):=by
 obtain⟨v1,v2,Z,v4,v5,aw,h⟩:=h;have hl:=P.1.len;have kg:=P.1.DO;have hx:=P.1.Tx;have ki:=P.1.I7;have kj:=P.2;have y:=Kz P (h.own 4 _ _ _ rfl);obtain⟨bt,hy⟩:=FT t.x;rw[hy]at y;obtain⟨r,n,j⟩:∃k n,t.x.op=k++[n]:=by
  rcases ly t.x.op with hn|⟨k,n,hn⟩
  .exact absurd hn cO
  exact⟨k,n,by simpa using hn⟩
 have ha:Cg t.x=n:=by unfold Cg;rw[j];simp
 rw[ha]at y;have hlen:t.x.op.length=r.length+1:=by rw[j];simp
 have hn:n<t.x.pt.length:=by rw[hx];exact P.1.op n (by rw[j];simp)
 have hw:bR .i64 (r.length:Int)=r.length:=bM (by omega) (by omega);have f:=ND m;have g:=Kv m;have z:=NG m;have d:=TC m;rw[hq]at f;simp only[Mv.c,iV]at f g z d y;have g8:=h.bz.Zd 8 rfl;have g4:=h.get 4 rfl;have l4:=h.len 0 rfl;have g5:=h.get 5 rfl;obtain⟨o1,s1,i1,b1,h1⟩:=h.jg 1 rfl n (by simpa using hn) (x:=iV t.x.w.length) rfl;have Q:=h1.get 8 rfl;have l8:=h1.len 4 rfl;obtain⟨M,hz,h2⟩:=h1.cut 4 rfl r.length (by simp[hlen]) (by simp[cO]);obtain⟨s3,b3,h3⟩:=h2.field 8 (x:=.sl M 0 r.length 1) (by simp[wg]) rfl;have g7:=h3.get 7 rfl;have g9:=h3.get 9 rfl;obtain⟨p,s4,B,a4,c4,h4⟩:=h3.append 3 rfl (new:=[[.bool t.force]]) (Sz.cons rfl Sz.nil) (by simp) (bx:=140737488355328) (by simp;omega);obtain⟨s5,b5,h5⟩:=h4.field 7 (by simp[wg]) c4;have D:=h5.get 9 rfl;obtain⟨k0,k3,k4⟩:=h5.field 10 (by simp[wg]) (x:=.bool true) rfl;rw[hz]at Q;simp only[hU]at b1 i1;simp[j]at Q l4 l8 a4;generalize C:(t.x.lost||(bQ m&&wc m&& !t.force))=lo;have key:∀(e:En) (r1:Out),(ev R U.vV e s5).ch (ev R (.cond (.t 83) U.B1 .skip))=r1->look e 0=some (.ptr o 0)->look e 3=some (.ax m.c)->
   ∃E s',r1=.code .normal E s'/\(∀k,k<10->look E k=look e k)/\iU s' o (wg {t with x:={t.x with lost:=lo}} v1 v2 Z p (.sl M 0 r.length 1)) B [(v1,4,t.x.w.map Mv.c),(v2,1,(t.x.pt.set n t.x.w.length).map iC),(Z,1,t.x.js.map iC),(p,1,(t.fo++[t.force]).map bC),(.sl M 0 r.length 1,1,r.map nC)]:=by
  intro e r1 q e0 O;have u:(bQ m&&wc m&& !t.force)=false->iU s5 o (wg {t with x:={t.x with lost:=lo}} v1 v2 Z p (.sl M 0 r.length 1)) B [(v1,4,t.x.w.map Mv.c),(v2,1,(t.x.pt.set n t.x.w.length).map iC),(Z,1,t.x.js.map iC),(p,1,(t.fo++[t.force]).map bC),(.sl M 0 r.length 1,1,r.map nC)]:=by intro u;rw[u,FU]at C;subst C;simpa[wg,VN,j]using h5
  have hb:(bQ m&&wc m&& !t.force)=true->iU k0 o (wg {t with x:={t.x with lost:=lo}} v1 v2 Z p (.sl M 0 r.length 1)) B [(v1,4,t.x.w.map Mv.c),(v2,1,(t.x.pt.set n t.x.w.length).map iC),(Z,1,t.x.js.map iC),(p,1,(t.fo++[t.force]).map bC),(.sl M 0 r.length 1,1,r.map nC)]:=by intro u;rw[u,TF]at C;subst C;simpa[wg,VN,j]using k4
  cases he:bQ m<;>rw[he]at d
  .simp[O,d]at q;subst q;exact⟨_,_,rfl,λk hk=>by simp;omega,u (by simp[he])⟩
  cases hi:wc m<;>rw[hi]at g
  .simp[O,d,g]at q;subst q;exact⟨_,_,rfl,λk hk=>by simp;omega,u (by simp[hi])⟩
  rcases Bool.eq_false_or_eq_true t.force with hf|hf
  .rw[hf]at D;simp[e0,O,d,g,D]at q;subst q;exact⟨_,_,rfl,λk hk=>by simp;omega,u (by simp[hf])⟩
  rw[hf]at D;simp[e0,O,d,g,D,k3]at q;subst q;exact⟨_,_,rfl,λk hk=>by simp;omega,hb (by simp[he,hi,hf])⟩
 have hE:∃E s',ev R U.Fs (bn [.ptr o 0,.agg m.c] 0) s=.code .normal E s'/\G0 s' o (mZ t m):=by
  generalize q:ev R U.Fs (bn [.ptr o 0,.agg m.c] 0) s=r1;simp-implicitDefEqProofs[-U.vV,-U.B1,U.Fs,U.rm,g8,y,g4,l4,f,g5,i1,b1,Q,hw,b3,g7,g9,a4,b5]at q;generalize hk:(ev R U.vV _ s5).ch _=r2 at q;obtain⟨e1,s6,k1,k2,h6⟩:=key _ _ hk (by simp) (by simp);clear hk;subst k1;have e0:=k2 0 (by omega);have O:=k2 3 (by omega);have e6:=k2 6 (by omega);have e7:=k2 7 (by omega);have e8:=k2 8 (by omega);simp at e0 O e6 e7 e8;obtain⟨s7,b7,h7⟩:=h6.field 9 (by simp[wg]) (x:=.bool (bQ m&&CE m)) rfl;have f4:=h7.get 4 rfl;obtain⟨k5,s8,ke,a8,c8,h8⟩:=h7.append 0 rfl (new:=[m.c]) (Sz.cons rfl Sz.nil) (by simp) (bx:=4398046511104) (by simp;omega);obtain⟨s9,b9,h9⟩:=h8.field 4 (by simp[wg]) c8;have f5:=h9.get 5 rfl;have hd:=h9.get 6 rfl;obtain⟨k6,kk,k7,T,k8,hg⟩:=h9.append 1 rfl (new:=[[iV n]]) (Sz.cons rfl Sz.nil) (by simp) (bx:=17592186044416) (by simp;omega);have f6:=hg.get 6 rfl;obtain⟨k9,kl,V,X,ka,kb⟩:=hg.append 2 rfl (new:=[[iV n]]) (Sz.cons rfl Sz.nil) (by simp) (bx:=17592186044416) (by simp;omega);obtain⟨km,hj,kc⟩:=kb.field 5 (by simp[wg]) k8;obtain⟨kn,Wt,H⟩:=kc.field 6 (by simp[wg]) ka;have ho:=H.get 11 rfl;have f8:=H.get 8 rfl;have l8:=H.len 4 rfl;obtain⟨hs,OE,kd⟩:=H.field 11 (by simp[wg]) (x:=.int .i64 (max t.x.pT r.length)) rfl;simp only[Mv.c]at a8;simp at a8 T X l8;have Y:∃E,r1=.code .normal E hs:=by
   cases he:bQ m<;>rw[he]at d b7<;>simp only[yJ,iI]at b7
   .simp-implicitDefEqProofs[e0,O,e7,e8,d,f,b7,f4,a8,b9,f5,hd,T,f6,X,hj,Wt,ho,f8,OE]at q;subst q;exact⟨_,rfl⟩
   cases hp:CE m<;>rw[hp]at z b7<;>simp-implicitDefEqProofs[-jf,e0,O,e7,e8,d,z,f,b7,f4,a8,b9,f5,hd,T,f6,X,hj,Wt,ho,f8,OE]at q<;>subst q<;>exact⟨_,rfl⟩
  obtain⟨E,Y⟩:=Y;refine⟨E,hs,Y,k5,k6,k9,p,.sl M 0 r.length 1,V,?_⟩;unfold mZ;rw[hq,C];simpa[wg,VN,j]using kd
 obtain⟨E,s',hE,hW⟩:=hE;exact⟨s',YK rfl ⟨.normal,_,s',hE,.inl rfl,by simp⟩,hW⟩
def NI{t:Tk}{m:Mv}(c:zV t m=true)(d:fO m=true):t.x.op≠ []:=by
 intro f;unfold zV at c;have:fZ t.x=none:=by unfold fZ;rw[f];rfl
 rw[this,d]at c;simp at c
def agU(t:Tk)(f:tZ t)(m:Mv)(g:zV t m=true)(s:HS)(o:Ky)(h:G0 s o t):
  ∃s',R (.call 153 [.ptr o 0,.agg m.c] s)=.val (.bN []) s'/\G0 s' o (mZ t m):=by
 cases d:fO m with|true=>exact Zf t f m d (NI g d) s o h|false=>exact Ze t f m d s o h
def KA(t:Tk)(m:Mv):(mZ t m).x.w=t.x.w++[m]:=by unfold mZ;split<;>rfl
def tZ.say{t:Tk}(c:tZ t){m:Mv}(g:t.x.w.length<400):tZ (mZ t m):=by
 have h:=c.1.DO;have j:=c.1.Tx;have p:=c.1.I7;have q:=c.2;cases f:fO m with
 |false=>
  unfold mZ;rw[f];refine⟨⟨c.1.ok,c.1.Y4,by simp;omega,λn d=>?_,by simp;omega,by simp;omega,by simp;omega⟩,by simp;omega⟩;simp only[cy,bp,cG,dE]at d;simp only[cy,bp,cE,dM];rcases d with d|rfl
  .have:=c.1.op n d;omega
  omega
 |true=>unfold mZ;rw[f];refine⟨⟨c.1.ok,c.1.Y4,by simp;omega,λn d=>?_,by simp;omega,by simp;omega,by simp;omega⟩,by simp;omega⟩;have:=c.1.op n ((Cf _).subset d);simp only[bf,cE,dM];omega
def dm(t:Tk):aP->Tk
 |[]=>t
 |m::r=>if II t.x.a m&&zV t m then dm (mZ t m) r else t
def nA(a:Ar):Tk:=⟨gT a,[],false⟩
def tZ.zero{a:Ar}(ok:dj a)(c:aB a=0):tZ (nA a):=⟨iz.zero ok c,rfl⟩
def iU.frame{s s':HS}{o:Ky}{cells:ak}{aw:bc}{L:cS}(h:iU s o cells aw L)(d:di (λ_=>False) s s'):iU s' o cells aw L:=
 ⟨h.bz.frame d (λh=>h),h.co,λi v f c g=>(h.own i v f c g).frame d (λ_ _ h=>h)⟩
def G0.frame{s s':HS}{o:Ky}{t:Tk}(h:G0 s o t)(c:di (λ_=>False) s s'):G0 s' o t:=by obtain⟨v1,v2,d,f,g,aw,h⟩:=h;exact⟨v1,v2,d,f,g,aw,h.frame c⟩
def TG(t:Tk)(m:Mv):(mZ t m).x.a=t.x.a:=by unfold mZ;split<;>rfl
def agV(a:Ar)(ok:dj a)(hc:aB a=0)(w:aP)(hl:w.length<=400)(s:HS):R (.call 125 [.agg a.c,.psl (w.map Mv.c)] s)=.val (.ax (dm (nA a) w).c) s:=by
 refine aeG ?_;simp[U.Xf,s0];generalize ho:bK R (.loop U.tF) _ _=o;have hq:=aX ho w.length
  (λi e s'=>∃t,look e 2=some (.ax a.c)/\look e 5=some (.ptr .e 0)/\look e 13=some (.psl (w.map Mv.c))/\look e 14=some (iV w.length)/\look e 15=some (iV i)/\G0 s' .e t/\tZ t/\t.x.a=a/\t.x.w.length=i/\dm (nA a) w=dm t (w.drop i))
  (λo=>∃Y s',o=.code (.exit 0) Y s'/\look Y 5=some (.ptr .e 0)/\G0 s' .e (dm (nA a) w))
  0 (by omega) ⟨nA a,by simp,by simp,by simp,by simp,by simp,by
   exact⟨.ai,.ai,.ai,.ai,.ai,_,iU.start ⟨by simp[wg,nA,gT],by simp,by simp[Ky.toNat]⟩ (by simp[VN,nA,gT])⟩,tZ.zero ok hc,rfl,rfl,by simp⟩
  (λi e s' r X ⟨t,O,B,p,j,q,P,C,u,Q,d⟩ D=>by
   have hd:w.drop i=w[i]::w.drop (i+1):=oY X;rw[hd]at d;have Z:=di.alloc (s:=s') (.cells (cR w[i].c) 0 4 s'.nx) [s'.nx];have E:=P.frame (Z.mono λ_ h=>h);generalize T:HS.mk (av (some (.cells (cR w[i].c) 0 4 s'.nx)) s'.nx s'.h) s'.nx.succ (av (some [s'.nx]) s'.nx s'.gr) s'.ty=S at*;have f:=NC a ok w[i];rw[hc]at f;have g:=ae3 (args:=[.ptr .e 0,.agg w[i].c]) (l:=[.ax t.c,.agg w[i].c]) (s:=S) (v:=.bool (zV t w[i])) qo (.cons E.VL (.data (by simp))) (by simp) rfl (λs=>agT t C w[i] s);have H:ao S.h s'.nx=some (.cells (cR w[i].c) 0 4 s'.nx):=by rw[<-T];simp
   simp only[Mv.c,Ar.c,iV,eV,iI]at f g T H;have M:(i:Int)<w.length:=by omega
   cases V:II a w[i]with
   |false=>rw[V]at f;simp only[dm,u,V,yJ,cy,bp]at d;simp[U.tF,O,p,j,q,X,M,f,ah,an,aj,T,H]at D;subst D;exact .inr ⟨by simp,_,_,rfl,by simp[B],by rw[d];exact E⟩
   |true=>
    rw[V]at f;cases y:zV t w[i]with
    |false=>rw[y]at g;simp only[dm,u,V,y,yK,cy,bp]at d;simp[U.tF,O,B,p,j,q,X,M,f,g,ah,an,aj,T,H]at D;subst D;exact .inr ⟨by simp,_,_,rfl,by simp[B],by rw[d];exact E⟩
    |true=>
     rw[y]at g;simp only[dm,u,V,y,jS,bf]at d;obtain⟨h3,z,h1⟩:=agU t C w[i] y S .e E;simp only[Mv.c]at z;simp[U.tF,O,B,p,j,q,X,M,f,g,z,ah,an,aj,T,H,bj (n:=400) (show i<400 by omega) (by omega)]at D;subst D;exact .inl ⟨_,_,rfl,mZ t w[i],by simp[O],by simp[B],by simp[p],by simp[j],by simp,h1,C.say (by omega),by rw[TG];exact u,by rw[KA];simp[Q],d⟩)
  (λe s' r ⟨t,O,B,p,j,q,P,C,u,Q,d⟩ D=>by
   rw[By]at d;simp only[dm]at d;simp[U.tF,j,q]at D;subst D;exact⟨by simp,_,_,rfl,by simp[B],by rw[d];exact P⟩)
 clear ho;obtain⟨Y,s',rfl,B,P⟩:=hq;have hv:Vw s' 16 (.ptr .e 0) (.ax (dm (nA a) w).c):=P.VL;simp[B];exact aC hv
def AQ:∀(w:aP) (t:Tk),(dm t w).x.w.length<=t.x.w.length+w.length
 |[],t=>by simp[dm]
 |m::r,t=>by
  simp only[dm]
  split
  .have:=AQ r (mZ t m);rw[KA]at this;simp at this ⊢;omega
  simp
def w86(a:Ar)(ok:dj a)(w:aP)(s:HS):R (.call 86 [.agg a.c,.psl (w.map Mv.c)] s)=.val (.bN (if aB a=0 then(if w.length<=400 then [.ax (dm (nA a) w).c,iV 0]else [.dZ,iV 5])else [.dZ,iV (aB a)])) s:=by
 refine q86 ?_;have d:=w82 a ok;simp only[Ar.c,iV]at d;by_cases h:aB a=0
 .rw[h]at d;by_cases j:w.length<=400
  .have g:¬(400:Int)<w.length:=by omega
   have f:=agV a ok h w j;simp only[Ar.c]at f;have p:du (dm (nA a) w).c=true:=by simp
   generalize(dm (nA a) w).c=q at f p;simp[U.b86,d,g,f,h,j];exact aC (.bN (.data (by simp[p])))
  have g:(400:Int)<w.length:=by omega
  simp[U.b86,d,g,h,j];exact aC (.bN (.data (by simp)))
 simp[U.b86,d,h];exact aC (.bN (.data (by simp)))
def iP(a:Ar)(w:aP):Int:=if aB a=0 then(if w.length<=400 then(if(dm (nA a) w).x.w.length<w.length then 13 else 0)else 5)else aB a
def OP(a:Ar)(w:aP):Int:=if aB a=0/\w.length<=400/\(dm (nA a) w).x.w.length<w.length then(dm (nA a) w).x.w.length else 0
def w45(a:Ar)(ok:dj a)(w:aP)(s:HS):R (.call 45 [.agg a.c,.psl (w.map Mv.c)] s)=.val (.bN [iV (OP a w),iV (iP a w)]) s:=by
 refine q45 ?_;have d:=w86 a ok w;simp only[Ar.c,iV]at d;unfold OP iP;by_cases f:aB a=0
 .by_cases h:w.length<=400
  .simp only[f,h,bf,Tk.c]at d;by_cases j:(dm (nA a) w).x.w.length<w.length
   .have g:((dm (nA a) w).x.w.length:Int)<w.length:=by omega
    simp[U.Wy,d,f,h,j,g];exact aC (.bN (.data (by simp)))
   have g:¬((dm (nA a) w).x.w.length:Int)<w.length:=by omega
   simp[U.Wy,d,f,h,j,g];exact aC (.bN (.data (by simp)))
  simp only[f,h,bf,bp]at d;simp[U.Wy,d,f,h];exact aC (.bN (.data (by simp)))
 simp only[f,bp]at d;simp[U.Wy,d,f];exact aC (.bN (.data (by simp)))
def na(a:Ar)(id:Int)(w:aP):Int:=if iP a w=0 then(if id<1∨a.ids.length<id then 7 else 0)else iP a w
def w56(a:Ar)(ok:dj a)(id:Int)(w:aP)(s:HS):R (.call 56 [.agg a.c,iV id,.psl (w.map Mv.c)] s)=.val (iV (na a id w)) s:=by
 refine q56 ?_;have d:=w45 a ok w;simp only[Ar.c,iV]at d;unfold na;by_cases f:iP a w=0
 .rw[f]at d;by_cases g:id<1
  .simp[U.b56,d,f,g,aa]
  by_cases h:(a.ids.length:Int)<id<;>simp[U.b56,d,f,g,h,aa]
 simp[U.b56,d,f,aa]
def gE{a:Ar}{w:aP}(h:iP a w=0):aB a=0/\w.length<=400/\(dm (nA a) w).x.w.length=w.length:=by
 unfold iP at h
 split at h
 .rename_i c
  split at h
  .rename_i d
   split at h
   .cases h
   have:=AQ w (nA a);rw[show(nA a).x.w.length=0 from rfl]at this;exact⟨c,d,by omega⟩
  cases h
 rename_i c;exact absurd h c
def agW(t:Tk)(s:HS):R (.call 127 [.ax t.c] s)=.val (.bN [.psl (t.x.js.map iC),iV 0]) s:=by refine aeI ?_;simp[U.Xh];exact aC (.bN (.data (by simp)))
def agX(a:Ar)(ok:dj a)(w:aP)(h:iP a w=0)(s:HS):R (.call 126 [.agg a.c,.psl (w.map Mv.c),.fn 127 [] []] s)=.val (.bN [.psl ((dm (nA a) w).x.js.map iC),iV 0]) s:=by
 refine aeH ?_;obtain⟨j,p,q⟩:=gE h;have f:=w86 a ok w;have d:=agW (dm (nA a) w);simp only[j,p,bf,Tk.c,Ar.c,iV]at f d;have g:¬((dm (nA a) w).x.w.length:Int)<w.length:=by omega
 simp[U.Xg,f,d,g];exact aC (.bN (.data (by simp)))
def w87(a:Ar)(ok:dj a)(w:aP)(f:iP a w=0)(s:HS):R (.call 87 [.agg a.c,.psl (w.map Mv.c)] s)=.val (.bN [.psl ((dm (nA a) w).x.js.map iC),iV 0]) s:=by refine q87 ?_;have d:=agX a ok w f;simp only[Ar.c,iV]at d;simp[U.b87,d];exact aC (.bN (.data (by simp)))
def w89(w:aP)(r:w.length<=400)(i:Nat)(t:i<w.length)(s:HS):R (.call 89 [.psl (w.map Mv.c),iV i] s)=.val (.bool (dC w i)) s:=by
 refine q89 ?_;cases i with
 |zero=>simp[U.b89,aa,dC]
 |succ i=>
  have d:=w88;have h:w[i]?=some w[i]:=aO (by omega);unfold dC;simp only[h];have j:(0:Int)<(i:Int)+1:=by omega
  have p:bR .i64 (i:Int)=i:=bM (by omega) (by omega);have f:i<w.length:=by omega
  have d:=d w[i];generalize g:w[i]=m at*;simp only[Mv.c]at d;cases q:bQ m<;>rw[q]at d<;>simp[U.b89,aa,j,p,f,d,g]
abbrev KI:Kd:=⟨false,[0]⟩
def l7(a b:Int):qB KI (iV a) (iV b)=some (decide (a=b)):=by show(bif ds [0] [iV a]&&ds [0] [iV b]then(iV a).zB (iV b)else none)=_;have c:ds [0] [iV a]=true:=rfl;have d:ds [0] [iV b]=true:=rfl;rw[c,d];show(iV a).zB (iV b)=_;exact fm _ _ _
def jE:aQ->Nat->List (HV×HV)
 |[],_=>[]
 |k::r,i=>if k<0 then jE r (i+1)else(iV i,iV k)::jE r (i+1)
def ua(k:Int):∀(l:aQ) (i:Nat),jE (l++[k]) i=jE l i++(if k<0 then []else [(iV (i+l.length:Nat),iV k)])
 |[],i=>by simp[jE]
 |x::r,i=>by
  have h:=ua k r (i+1);simp only[bB,jE,aA];rw[h];have e:i+1+r.length=i+(r.length+1):=by omega
  rw[e]
  split<;>rfl
def ll:∀(l:aQ) (i j n:Nat),i+l.length<=j->∃m,de KI (jE l i) (iV j) n=some (m,none)
 |[],i,j,n,_=>⟨n,by rw[jE,de]⟩
 |x::r,i,j,n,h=>by
  simp only[aA]at h;rw[jE]
  split
  .exact ll r (i+1) j n (by omega)
  rw[de,l7,cu (by omega)];exact ll r (i+1) j (n+1) (by omega)
def rD:∀(l:aQ) (i j n:Nat) (k:Int),l[j]?=some k->0<=k->∃m,de KI (jE l i) (iV (i+j:Nat)) n=some (m,some (iV k))
 |[],i,j,n,k,h,_=>by cases h
 |x::r,i,0,n,k,h,c=>by simp at h;subst h;rw[jE,aq (by omega),de,l7,cV (by simp)];exact⟨n,rfl⟩
 |x::r,i,j+1,n,k,h,c=>by
  have e:i+(j+1)=i+1+j:=by omega
  rw[e,jE]
  split
  .exact rD r (i+1) j n k (by simpa using h) c
  rw[de,l7,cu (by omega)];exact rD r (i+1) j (n+1) k (by simpa using h) c
section
variable{e:En}{s:HS}
def VO(K:Kd)(m k:bV)(z:HV)(ok:Bool)(s:HS):da:=match m,k with
  |some .fV,some key=>bif qC K key then .v (bif ok then .bN [z,.bool false]else z) s else .bad
  |some (.mp o),some key=>bif qC K key then(match ao s.h o with
   |some (.mp es)=>(match de K es key 0 with
    |some (_,some v)=>.v (bif ok then .bN [v,.bool true]else v) s
    |some (_,none)=>.v (bif ok then .bN [z,.bool false]else z) s
    |none=>.bad)
   |_=>.bad)else .bad
  |_,_=>.bad
def OQ(K:Kd)(m k v:bV)(s:HS):da:=match m,k,v with
  |some (.mp o),some key,some v=>bif qC K key then(match ao s.h o with
   |some (.mp es)=>(match de K es key 0 with
    |some (i,some _)=>.v .undef (s.aK o (.mp (lJ es i v)))
    |some (_,none)=>.v .undef (s.aK o (.mp (es++[(key,v)])))
    |none=>.bad)
   |_=>.bad)else .bad
  |_,_,_=>.bad
@[simp]def abp:cO .mkm e s=.v (.mp s.nx) {h:=av (some (.mp [])) s.nx s.h,nx:=s.nx.succ,gr:=s.gr,ty:=s.ty}:=rfl
@[simp]def abq{K:Kd}{m k:X}{z:HV}{ok:Bool}:cO (.lkp K m k z ok) e s=VO K (bq m e) (bq k e) z ok s:=rfl
@[simp]def abr{K:Kd}{m k v:X}:cO (.mup K m k v) e s=OQ K (bq m e) (bq k e) (bq v e) s:=rfl
def KB{o:Ky}{l:aQ}{j:Nat}{k:Int}(h:ao s.h o=some (.mp (jE l 0)))(d:l[j]?=some k)(f:0<=k):VO KI (some (.mp o)) (some (iV j)) (iV 0) false s=.v (iV k) s:=by
 obtain⟨m,c⟩:=rD l 0 j 0 k d f;rw[bw]at c;show(match ao s.h o with
   |some (.mp es)=>(match de KI es (iV j) 0 with
    |some (_,some v)=>da.v (bif false then .bN [v,.bool true]else v) s
    |some (_,none)=>.v (bif false then .bN [iV 0,.bool false]else iV 0) s
    |none=>.bad)
   |_=>.bad)=_
 rw[h];simp only[c];rfl
def OR{o:Ky}{l:aQ}{k:Int}(h:ao s.h o=some (.mp (jE l 0)))(d:0<=k):OQ KI (some (.mp o)) (some (iV l.length)) (some (iV k)) s=.v .undef (s.aK o (.mp (jE (l++[k]) 0))):=by
 obtain⟨m,c⟩:=ll l 0 l.length 0 (by omega);show(match ao s.h o with
   |some (.mp es)=>(match de KI es (iV l.length) 0 with
    |some (i,some _)=>da.v .undef (s.aK o (.mp (lJ es i (iV k))))
    |some (_,none)=>.v .undef (s.aK o (.mp (es++[(iV l.length,iV k)])))
    |none=>.bad)
   |_=>.bad)=_
 rw[h];simp only[c];rw[ua,aq (by omega),bw]
end
structure nb(s:HS)(o:Ky)(es:List (HV×HV))(aw:bc)(L:cS):Prop where
 mp:ao s.h o=some (.mp es)
 lt:o.toNat<s.nx.toNat
 co:aw o=none
 mem:dT s aw L
section
variable{s:HS}{o:Ky}{es:List (HV×HV)}{aw:bc}{L:cS}
def nb.append(h:nb s o es aw L)(i:Nat){v:HV}{sz:Nat}{au:aR}(E:L[i]?=some (v,sz,au)){new:aR}(M:Sz sz new)(h0:new≠ []){bx:Nat}(O:au.length+new.length<=bx):
  ∃p s' q,mW sz bx none (some v) (some (.psl new)) s=.v p s'/\cellsOf p=some [p]/\nb s' o es q (L.set i (p,sz,au++new)):=by
 have r:=(aV.1 E).1;obtain⟨p,s',P,t,u,d⟩:=(h.mem.own i v sz au E).append M h0 O;have B:=Ky.ba s.nx;have C:=h.lt;refine⟨p,s',λk=>if k=s.nx then some i else aw k,P,t.one,?_,by rw[d];omega,?_,λk j c=>?_,λk j c=>?_,λj w D y z=>?_⟩
 .rw[u.2.2.1 o C (by show¬aw o=some i;rw[h.co];simp)];exact h.mp
 .show(if o=s.nx then some i else aw o)=none;rw[aq λe=>by subst e;omega];exact h.co
 .rw[d]
  split at c
  .rename_i e;subst e;omega
  have:=h.mem.bd k j c;omega
 .rw[iM]
  split at c
  .cases c;exact r
  exact h.mem.top k j c
 rw[gS]at z;by_cases f:i=j
 .subst f;rw[ar rfl,ar r]at z;cases z;refine t.mono (λk c=>?_) (λk c=>?_)
  .rcases c with c|rfl
   .show(if k=s.nx then some i else aw k)=some i
    split
    .rfl
    exact c
   show(if s.nx=s.nx then some i else aw s.nx)=some i;rw[ar rfl]
  have c:(if k=s.nx then some i else aw k)=some i:=c;rw[d]
  split at c
  .rename_i e;subst e;omega
  have:=h.mem.bd k i c;omega
 rw[aq f]at z;have H:=h.mem.own j w D y z;refine(H.frame u (λk c g=>by have g:aw k=some i:=g;have c:aw k=some j:=c;rw[c]at g;cases g;exact f rfl)).mono (λk c=>?_) (λk c=>?_)
 .have Q:=H.2.1 k c;show(if k=s.nx then some i else aw k)=some j;rw[aq λe=>by subst e;omega];exact c
 have c:(if k=s.nx then some i else aw k)=some j:=c;rw[d]
 split at c
 .cases c;exact absurd rfl f
 have:=h.mem.bd k j c;omega
def nb.jg(h:nb s o es aw L)(i:Nat){v:HV}{au:aR}(y:L[i]?=some (v,1,au))(j:Nat)(C:j<au.length){x:HV}(D:cellsOf x=some [x]):
  ∃q s',FD (some v) (some (.int .i64 (j:Int))) 1 s=.v (.ptr q (j*1)) s/\qj 1 (some (.ptr q (j*1))) (some x) s=.v .undef s'/\nb s' o es aw (L.set i (v,1,au.set j [x])):=by
 have r:=(aV.1 y).1;obtain⟨q,s',E,H,M,z,B⟩:=(h.mem.own i v 1 au y).jg j C x D;refine⟨q,s',E,H,?_,by rw[B];exact h.lt,h.co,λk i c=>by rw[B];exact h.mem.bd k i c,λk i c=>by rw[iM];exact h.mem.top k i c,λk w t g c=>?_⟩
 .rw[z.2.2.1 o h.lt (by show¬aw o=some i;rw[h.co];simp)];exact h.mp
 rw[gS]at c;by_cases f:i=k
 .subst f;rw[ar rfl,ar r]at c;cases c;exact M
 rw[aq f]at c;exact(h.mem.own k w t g c).frame z (λp u d=>by have d:aw p=some i:=d;have u:aw p=some k:=u;rw[u]at d;cases d;exact f rfl)
def nb.frame{s':HS}(h:nb s o es aw L)(c:di (λ_=>False) s s'):nb s' o es aw L:=
 ⟨(c.2.2.1 o h.lt (λh=>h)).trans h.mp,ej h.lt c.1,h.co,h.mem.frame c⟩
def nb.put(h:nb s o es aw L)(c:List (HV×HV)):nb (s.aK o (.mp c)) o c aw L:=by have f:di (λk=>k=o) s (s.aK o (.mp c)):=di.aK rfl;refine⟨by rw[dU,ar rfl],ej h.lt f.1,h.co,λk i d=>ej (h.mem.bd k i d) f.1,h.mem.top,λi v j g p=>(h.mem.own i v j g p).frame f (λk d e=>?_)⟩;have d:aw k=some i:=d;subst e;rw[h.co]at d;cases d
def nb.one(h:nb s o es aw L)(x:HV):∃c,nb (HS.mk (av (some (.cells (cR [x]) 0 1 s.nx)) s.nx s.h) s.nx.succ (av (some [s.nx]) s.nx s.gr) s.ty) o es c (L++[(.sl s.nx 0 1 1,1,[[x]])]):=by
 have d:=Ky.ba s.nx;have f:=di.alloc (s:=s) (.cells (cR [x]) 0 1 s.nx) [s.nx];have q:bY (HS.mk (av (some (.cells (cR [x]) 0 1 s.nx)) s.nx s.h) s.nx.succ (av (some [s.nx]) s.nx s.gr) s.ty) (.sl s.nx 0 1 1) 1 (λk=>k=s.nx) [[x]]:=by refine⟨Sz.cons rfl Sz.nil,λk g=>by subst g;simp only;omega,.inr ⟨s.nx,cR [x],1,s.nx,[],rfl,by simp,by simp,λj p=>?_,by simp,by simp,by simp,rfl⟩⟩;simp at p;subst p;rfl
 refine⟨_,(f.2.2.1 o h.lt (λh=>h)).trans h.mp,ej h.lt f.1,?_,h.mem.join f q (λk g=>by subst g;exact aY _)⟩;have:=h.lt;rw[aq λe=>by subst e;omega];exact h.co
end
def AR(l:aQ):jE (l++[-1]) 0=jE l 0:=by rw[ua];simp
def TH{s:HS}{l:aQ}{aw:bc}{v2:HV}{az:cS}{i:Nat}(h:nb s .e (jE l 0) aw ((v2,1,az.map fY)::az)){k:Nat}(z:l[i]?=some (k:Int))(c:k<az.length)(Q:az.length<=400)
  {B:HV}{f:aR}(d:az[k]?=some (B,1,f))(T:f.length<=400):
  ∃s' j g,(∀e,look e 9=some (.mp .e)->look e 6=some v2->look e 10=some (iV i)->bK R U.tC e s=.code .normal e s')/\nb s' .e (jE l 0) j ((v2,1,(az.set k (g,1,f++[[iV i]])).map fY)::az.set k (g,1,f++[[iV i]])):=by
 have p:=h.mem.own 0 _ _ _ rfl;obtain⟨ob,rfl⟩:=p.fY (by intro C;simp at C;subst C;simp at c);have t:az[k]=(B,1,f):=by rw[aO c]at d;exact kH d
 have D:=p.cell k (by simpa using c);have E:=KB h.mp z (by omega);obtain⟨g,s1,q,H,V,M⟩:=h.append (k+1) (by simpa using d) (new:=[[iV i]]) (Sz.cons rfl Sz.nil) (by simp) (bx:=17592186044416) (by simp;omega);have O:=KB M.mp z (by omega);obtain⟨X,s2,u,P,Y⟩:=M.jg 0 rfl k (by simpa using c) V;simp[t]at D H;simp only[hU]at u P;simp[c]at u;obtain rfl:=u;simp only[iV]at E O;refine⟨s2,q,g,?_,?_⟩
 .intro e Z h6 y;simp[Z,h6,y,E,O,D,H,c,P]
 have r:(az.set k (g,1,f++[[iV i]])).map fY=(az.map fY).set k [g]:=by rw[kI]
 rw[r];simpa using Y
def c47(q:aQ)(id:Int)(w:aP)(hl:w.length<=400)(hc:oa q id w)(i:Nat)(m:Mv)(hm:w[i]?=some m)(e:En)(s:HS)(r:Out)(v:HV)(az:cS)(aw:bc)
  (P:look e 1=some (iV id))(h2:look e 2=some (.psl (w.map Mv.c)))(X:look e 7=some (.psl (q.map iC)))(V:look e 9=some (.mp .e))(Y:look e 6=some v)(d:look e 20=some (.psl (w.map Mv.c)))(f:look e 21=some (iV w.length))(D:look e 22=some (iV i))
  (hM:nb s .e (jE (eR q id w i).1 0) aw ((v,1,az.map fY)::az))(T:az.map (·.2)=(eR q id w i).2.map (λc=>(1,c.map nC)))(Q:bK R U.pH e s=r):
  ∃e' s' v' t hd,r=.code .normal e' s'/\look e' 1=some (iV id)/\look e' 2=some (.psl (w.map Mv.c))/\look e' 7=some (.psl (q.map iC))/\look e' 9=some (.mp .e)/\look e' 6=some v'/\look e' 20=some (.psl (w.map Mv.c))/\look e' 21=some (iV w.length)/\look e' 22=some (iV (i+1:Nat))/\
   nb s' .e (jE (eR q id w (i+1)).1 0) hd ((v',1,t.map fY)::t)/\t.map (·.2)=(eR q id w (i+1)).2.map (λc=>(1,c.map nC)):=by
 have hi:i<w.length:=(aV.1 hm).1;obtain⟨k1,k2,k3⟩:=qp q id w i (by omega);have ha:az.length=(eR q id w i).2.length:=by have:=ct List.length T;simpa using this
 have E:=bj (n:=w.length) hi (by omega);have H:=w88 m;have Z:=w89 w hl i hi;have u:=hM.frame (di.alloc (.cells (cR m.c) 0 4 s.nx) [s.nx]);obtain⟨y,ma,mk,mn⟩:=m;have M:w[i]=⟨y,ma,mk,mn⟩:=by rw[aO hi]at hm;exact kH hm
 rw[eR];unfold qN;rw[hm];have z:ao (HS.mk (av (some (.cells (cR (Mv.mk y ma mk mn).c) 0 4 s.nx)) s.nx s.h) s.nx.succ (av (some [s.nx]) s.nx s.gr) s.ty).h s.nx=some (.cells (cR (Mv.mk y ma mk mn).c) 0 4 s.nx):=by simp
 generalize C:HS.mk (av (some (.cells (cR (Mv.mk y ma mk mn).c) 0 4 s.nx)) s.nx s.h) s.nx.succ (av (some [s.nx]) s.nx s.gr) s.ty=S1 at u z;simp only[Mv.c,iV]at H Z z C
 dsimp only
 have O:(i:Int)<w.length:=by omega
 by_cases hid:y=id
 case neg=>
  simp[U.pH,U.uO,U.uN,P,d,f,D,hi,O,M,ah,an,C,z,hid,E]at Q;subst Q;refine⟨_,_,v,az,aw,rfl,by simp[P],by simp[h2],by simp[X],by simp[V],by simp[Y],by simp[d],by simp[f],by simp,?_,?_⟩
  .rw[ar hid,AR];exact u
  rw[ar hid];exact T
 subst hid;have hk:=hc i _ hm rfl;simp only at hk;by_cases hq:ma=0/\mk≠3
 .obtain⟨rfl,B⟩:=hq;rw[aq (by simp),ar ⟨rfl,B⟩];have l2:=u.mem.len 0 rfl;have g:=OR (l:=(eR q y w i).1) (k:=az.length) u.mp (by omega);rw[k1]at g;have h3:=u.put (jE ((eR q y w i).1++[(az.length:Int)]) 0);generalize hy:S1.aK .e (.mp (jE ((eR q y w i).1++[(az.length:Int)]) 0))=S2 at h3 g;obtain⟨kb,ho⟩:=h3.one (iV i);generalize hp:HS.mk (av (some (.cells (cR [iV i]) 0 1 S2.nx)) S2.nx S2.h) S2.nx.succ (av (some [S2.nx]) S2.nx S2.gr) S2.ty=S3 at ho;obtain⟨v',s4,hs,a4,c4,hz⟩:=ho.append 0 rfl (new:=[[HV.sl S2.nx 0 1 1]]) (Sz.cons rfl Sz.nil) (by simp) (bx:=5864062014805) (by simp;omega);simp only[iV]at l2 a4 g hp;simp at l2;simp[U.pH,U.uO,U.uN,P,Y,V,d,f,D,hi,O,M,ah,an,C,z,E,B,l2,g,hp,a4]at Q;subst Q;refine⟨_,_,v',az++[(HV.sl S2.nx 0 1 1,1,[[iV i]])],hs,rfl,by simp[P],by simp[h2],by simp[X],by simp[V],by simp,by simp[d],by simp[f],by simp,by rw[<-ha];simpa using hz,?_⟩;simp[T]
 rw[aq (by simp),aq hq];by_cases p:ma=0/\bQ ⟨y,ma,mk,mn⟩=true/\dC w i=false
 .rw[ar p,AR];obtain⟨rfl,he,hf⟩:=p;have B:mk=3:=by by_cases h:mk=3;exact h;exact absurd ⟨rfl,h⟩ hq
  subst B;rw[he]at H;rw[hf]at Z;simp[U.pH,U.uO,U.uN,P,h2,d,f,D,hi,O,M,ah,an,aj,C,z,E,H,Z]at Q;subst Q;exact⟨_,_,v,az,aw,rfl,by simp[P],by simp[h2],by simp[X],by simp[V],by simp[Y],by simp[d],by simp[f],by simp,u,T⟩
 rw[aq p];obtain⟨j,k,hj,ht,hb⟩:=hk hq p;have h4:=KB u.mp ht (by omega);have g:=OR (l:=(eR q y w i).1) (k:=k) u.mp (by omega);rw[k1]at g;have h3:=u.put (jE ((eR q y w i).1++[(k:Int)]) 0);generalize hy:S1.aK .e (.mp (jE ((eR q y w i).1++[(k:Int)]) 0))=S2 at h3 g;have h5:k<az.length:=by omega
 have k0:az[k]?=some (az[k].1,1,((eR q y w i).2[k]).map nC):=by rw[aO h5];have:=ct (λl=>l[k]?) T;simp[h5,hb]at this;rw[<-this]
 obtain⟨s6,hx,v',hg,k4⟩:=TH h3 (i:=i) (k:=k) (by simp[k1]) h5 (by omega) k0 (by have:=k3 _ (bX hb);simp;omega);have k5:q.getD i 0=(j:Int):=by rw[dF,hj];rfl
 have k6:((eR q y w i).1.getD j 0)=(k:Int):=by rw[dF,ht];rfl
 have k7:(eR q y w i).2.getD k []=(eR q y w i).2[k]:=by rw[dF,aO hb];rfl
 simp only[iV]at h4 g;have key:∃e',r=.code .normal e' s6/\look e' 1=some (iV y)/\look e' 2=some (.psl (w.map Mv.c))/\look e' 7=some (.psl (q.map iC))/\look e' 9=some (.mp .e)/\look e' 6=some v/\look e' 20=some (.psl (w.map Mv.c))/\look e' 21=some (iV w.length)/\look e' 22=some (iV (i+1:Nat)):=by
  by_cases h8:ma=0
  .have B:mk=3:=by by_cases h:mk=3;exact h;exact absurd ⟨h8,h⟩ hq
   subst h8;subst B;cases he:bQ ⟨y,0,3,mn⟩
   .rw[he]at H;simp[-U.tC,U.pH,U.uO,U.uN,P,Y,X,V,d,f,D,hi,O,M,ah,an,aj,C,z,E,H,hj,h4,g,hg]at Q;subst Q;exact⟨_,rfl,by simp[P,h2,X,V,Y,d,f]⟩
   rw[he]at H;have hf:dC w i=true:=by cases h:dC w i;exact absurd ⟨rfl,he,h⟩ p;rfl
   rw[hf]at Z;simp[-U.tC,U.pH,U.uO,U.uN,P,h2,Y,X,V,d,f,D,hi,O,M,ah,an,aj,C,z,E,H,Z,hj,h4,g,hg]at Q;subst Q;exact⟨_,rfl,by simp[P,h2,X,V,Y,d,f]⟩
  by_cases B:mk=3
  .subst B;simp[-U.tC,U.pH,U.uO,U.uN,P,Y,X,V,d,f,D,hi,O,M,ah,an,C,z,E,h8,hj,h4,g,hg]at Q;subst Q;exact⟨_,rfl,by simp[P,h2,X,V,Y,d,f]⟩
  simp[-U.tC,U.pH,U.uO,U.uN,P,Y,X,V,d,f,D,hi,O,M,ah,an,C,z,E,h8,B,hj,h4,g,hg]at Q;subst Q;exact⟨_,rfl,by simp[P,h2,X,V,Y,d,f]⟩
 obtain⟨e',rfl,e1,e2,e7,e9,e6,k8,k9,ka⟩:=key;rw[k5,jy,k6,jy,k7];refine⟨_,_,v,az.set k (v',1,List.map nC (eR q y w i).2[k]++[[iV i]]),hx,rfl,e1,e2,e7,e9,e6,k8,k9,ka,k4,?_⟩;rw[kI,kI,T];simp
def w47(a:Ar)(ok:dj a)(id:Int)(w:aP)(X:iP a w=0)(hc:oa (dm (nA a) w).x.js id w)(s:HS):
  R (.call 47 [.agg a.c,iV id,.psl (w.map Mv.c)] s)=.val (.psl ((fq (dm (nA a) w).x.js id w).map jD)) s:=by
 refine q47 ?_;have z:=w87 a ok w X;have hl:=(gE X).2.1;simp only[Ar.c,iV]at z;generalize(dm (nA a) w).x.js=js at*;simp[U.b47,U.OG,z,s0];generalize Y:bK R (.loop U.pH) _ _=o;have hq:=aX Y w.length
  (λi e s=>∃v az aw,look e 1=some (iV id)/\look e 2=some (.psl (w.map Mv.c))/\look e 7=some (.psl (js.map iC))/\look e 9=some (.mp .e)/\look e 6=some v/\look e 20=some (.psl (w.map Mv.c))/\look e 21=some (iV w.length)/\look e 22=some (iV i)/\
   nb s .e (jE (eR js id w i).1 0) aw ((v,1,az.map fY)::az)/\az.map (·.2)=(eR js id w i).2.map (λc=>(1,c.map nC)))
  (λo=>∃e s v az aw,o=.code (.exit 0) e s/\look e 6=some v/\dT s aw ((v,1,az.map fY)::az)/\az.map (·.2)=(eR js id w w.length).2.map (λc=>(1,c.map nC)))
  0 (by omega) ⟨.ai,[],_,by simp,by simp,by simp,by simp,by simp,by simp,by simp,by simp,⟨by simp[eR,jE],by simp[Ky.toNat],rfl,dT.start (by simp)⟩,rfl⟩
  (λi e s r hi ⟨v,az,aw,Z,u,h7,h9,B,C,q,t,y,d⟩ O=>by
   obtain⟨e',s',v',j,D,rfl,g1,g2,g7,g9,g6,P,Q,T,V,E⟩:=c47 js id w hl hc i w[i] (aO hi) e s r v az aw Z u h7 h9 B C q t y d O;exact .inl ⟨_,_,rfl,v',j,D,g1,g2,g7,g9,g6,P,Q,T,V,E⟩)
  (λe s r ⟨v,az,aw,Z,u,h7,h9,B,C,q,t,y,d⟩ O=>by
   simp[U.pH,q,t]at O;subst O;exact⟨by simp,_,_,v,az,aw,rfl,by simp[B],y.mem,d⟩)
 clear Y;obtain⟨e,s,v,az,aw,rfl,B,y,d⟩:=hq;simp[B];refine aC ?_;have hv:=(y.own 0 _ _ _ rfl).YE (f:=λe:tR=>e.1) (g:=λe:tR=>HV.psl e.2.2) (n:=15) (λx hx=>?_)
 .have:az.map (λx=>[HV.psl x.2.2])=(fq js id w).map jD:=by
   have h:=ct (List.map λ(p:Nat×List ak)=>[HV.psl p.2]) d;have H:jD=λx:ay=>[HV.psl (List.map nC x)]:=rfl
   rw[H];simpa[fq,tS]using h
  rw[<-this];exact hv
 obtain⟨k,hk,rfl⟩:=eH.1 hx;have u:=ct (λl=>l[k]?) d;simp[hk]at u;obtain⟨h3,h4⟩:∃h:k<(eR js id w w.length).2.length,az[k].2=(1,((eR js id w w.length).2[k]).map nC):=by
  have hlen:az.length=(eR js id w w.length).2.length:=by have:=ct List.length d;simpa using this
  refine⟨by omega,?_⟩;simp[show k<(eR js id w w.length).2.length by omega]at u;exact u.symm▸rfl
 have M:=y.own (k+1) az[k].1 1 (((eR js id w w.length).2[k]).map nC) (by simp[hk];rw[<-h4]);rw[h4];exact M.vw (by simp)
def w49(w:aP)(c:ay)(p:∀n∈c,n<w.length)(M:c.length<=400)(s:HS):R (.call 49 [.psl (c.map nC),.psl (w.map Mv.c)] s)=.val (.psl ((aW w c).map Mv.c)) s:=by
 refine q49 ?_;simp[U.b49,s0];generalize D:bK R (.loop U.GO) _ _=o;have O:=aX D c.length
  (λk e s'=>∃v F,look e 1=some (.psl (w.map Mv.c))/\look e 7=some (.psl (c.map nC))/\look e 8=some (iV c.length)/\look e 9=some (iV k)/\look e 4=some v/\bY s' v 4 F ((aW w (c.take k)).map Mv.c))
  (λr=>∃q s' v F,r=.code (.exit 0) q s'/\look q 4=some v/\bY s' v 4 F ((aW w c).map Mv.c))
  0 (by omega) ⟨.ai,_,by simp,by simp,by simp,by simp,by simp,bY.ai⟩
  (λk e s' r t ⟨v,F,u,y,j,z,f,d⟩ g=>by
   have E:c[k]<w.length:=p _ (bX t);have h:=w91 w[c[k]];simp only[Mv.c]at h;have B:(k:Int)<c.length:=by omega
   obtain⟨P,Q,H,C,T,V⟩:=d.append (bx:=4398046511104) (new:=[(bJ w[c[k]]).c]) (Sz.cons rfl Sz.nil) (by simp) (by simp[aW];omega);simp only[Mv.c]at H;simp[U.GO,u,y,j,z,f,t,B,E,h,H,bj (n:=400) (show k<400 by omega) (by omega)]at g;subst g;refine .inl ⟨_,_,rfl,P,λx=>F x∨x=s'.nx,by simp[u],by simp[y],by simp[j],by simp,by simp,?_⟩;have:aW w (c.take (k+1))=aW w (c.take k)++[bJ w[c[k]]]:=by unfold aW;rw[eW t,eD];simp[E]
   rw[this,eD];exact C)
  (λe s' r ⟨v,F,u,y,j,z,f,d⟩ g=>by
   simp[U.GO,j,z]at g;subst g;rw[j0]at d;exact⟨by simp,_,_,v,F,rfl,by simp[f],d⟩)
 clear D;obtain⟨q,s',v,F,rfl,f,d⟩:=O;simp[f];exact aC (d.vw (by simp))
def j4{a:Ar}{id:Int}{w:aP}(h:na a id w=0):iP a w=0:=by
 unfold na at h;by_cases c:iP a w=0
 .exact c
 rw[aq c]at h;exact absurd h c
def FV:Prop:=∀(a:Ar) (id:Int) (w:aP),na a id w=0->oa (dm (nA a) w).x.js id w
def ub(a:Ar)(id:Int)(w:aP):dH:=if na a id w=0 then fq (dm (nA a) w).x.js id w else []
def jI(d:aQ)(id:Int)(w:aP)(j:w.length<=400):(fq d id w).length<=400/\(∀c∈fq d id w,c.length<=400)/\∀c∈fq d id w,∀n∈c,n<w.length:=by obtain⟨_,g,f⟩:=qp d id w w.length (aY _);exact⟨fh g j,λc h=>fh (f c h) j,λc h n p=>tX d id w _ (aY _) c h n p⟩
def w17(g:FV)(a:Ar)(ok:dj a)(id:Int)(w:aP)(s:HS):R (.call 17 [.agg a.c,iV id,.psl (w.map Mv.c)] s)=.val (.bN [.psl ((ub a id w).map jD),iV (na a id w)]) s:=by
 refine q17 ?_;have d:=w56 a ok id w;simp only[Ar.c,iV]at d;unfold ub;by_cases h:na a id w=0
 case neg=>simp[U.Va,d,h];exact aC (.bN (.cons .ai (.data (by simp))))
 rw[h]at d;have D:=j4 h;have j:=w47 a ok id w D (g a id w h);obtain⟨X,Y,Z⟩:=jI (dm (nA a) w).x.js id w (gE D).2.1;generalize fq (dm (nA a) w).x.js id w=l at*;simp only[Ar.c,iV]at j;simp[U.Va,d,h,j,s0];generalize E:bK R (.loop U.GK) _ _=o;have O:=aX E l.length
  (λk e s'=>∃v F,look e 21=some (.psl (l.map jD))/\look e 22=some (iV l.length)/\look e 23=some (iV k)/\look e 6=some v/\bY s' v 1 F ((l.take k).map jD))
  (λr=>∃u s' v F,r=.code (.exit 0) u s'/\look u 6=some v/\bY s' v 1 F (l.map jD))
  0 (by omega) ⟨.ai,_,by simp,by simp,by simp,by simp,bY.ai⟩
  (λk e s' r H ⟨v,F,y,t,z,p,f⟩ q=>by
   have B:(k:Int)<l.length:=by omega
   obtain⟨P,Q,M,C,T,V⟩:=f.append (bx:=5864062014805) (new:=[jD l[k]]) (Sz.cons rfl Sz.nil) (by simp) (by simp;omega);simp only[jD]at M;simp[U.GK,y,t,z,p,H,B,jD,M,bj (n:=400) (show k<400 by omega) (by omega)]at q;subst q;refine .inl ⟨_,_,rfl,P,λx=>F x∨x=s'.nx,by simp[y],by simp[t],by simp,by simp,?_⟩;rw[eW H,eD];exact C)
  (λe s' r ⟨v,F,y,t,z,p,f⟩ q=>by
   simp[U.GK,t,z]at q;subst q;rw[j0]at f;exact⟨by simp,_,_,v,F,rfl,by simp[p],f⟩)
 clear E;obtain⟨u,s',v,F,rfl,p,f⟩:=O;simp[p];exact aC (.bN (.cons (f.vw (IH l)) (.data (by simp))))
def w19(g:FV)(a:Ar)(ok:dj a)(id:Int)(w:aP)(s:HS):R (.call 19 [.agg a.c,iV id,.psl (w.map Mv.c)] s)=.val (.bN [.psl (((ub a id w).map (aW w)).map l6),iV (na a id w)]) s:=by
 refine q19 ?_;have d:=w56 a ok id w;simp only[Ar.c,iV]at d;unfold ub;by_cases h:na a id w=0
 case neg=>simp[U.b19,d,h];exact aC (.bN (.cons .ai (.data (by simp))))
 rw[h]at d;have H:=j4 h;have j:=w47 a ok id w H (g a id w h);obtain⟨b1,P,Q⟩:=jI (dm (nA a) w).x.js id w (gE H).2.1;generalize fq (dm (nA a) w).x.js id w=l at*;simp only[Ar.c,iV]at j;simp[U.b19,d,h,j,s0];generalize M:bK R (.loop U.GM) _ _=o;have T:=aX M l.length
  (λk e s'=>∃v F,look e 2=some (.psl (w.map Mv.c))/\look e 21=some (.psl (l.map jD))/\look e 22=some (iV l.length)/\look e 23=some (iV k)/\look e 6=some v/\bY s' v 1 F (((l.take k).map (aW w)).map l6))
  (λr=>∃y s' v F,r=.code (.exit 0) y s'/\look y 6=some v/\bY s' v 1 F ((l.map (aW w)).map l6))
  0 (by omega) ⟨.ai,_,by simp,by simp,by simp,by simp,by simp,bY.ai⟩
  (λk e s' r t ⟨v,F,h0,z,u,B,p,f⟩ q=>by
   have C:(k:Int)<l.length:=by omega
   have D:=w49 w l[k] (Q _ (bX t)) (P _ (bX t));obtain⟨V,X,O,E,Y,Z⟩:=f.append (bx:=5864062014805) (new:=[l6 (aW w l[k])]) (Sz.cons rfl Sz.nil) (by simp) (by simp;omega);simp only[l6]at O;simp[U.GM,h0,z,u,B,p,t,C,jD,D,O,bj (n:=400) (show k<400 by omega) (by omega)]at q;subst q;refine .inl ⟨_,_,rfl,V,λx=>F x∨x=s'.nx,by simp[h0],by simp[z],by simp[u],by simp,by simp,?_⟩;rw[eW t,eD,eD];exact E)
  (λe s' r ⟨v,F,h0,z,u,B,p,f⟩ q=>by
   simp[U.GM,u,B]at q;subst q;rw[j0]at f;exact⟨by simp,_,_,v,F,rfl,by simp[p],f⟩)
 clear M;obtain⟨y,s',v,F,rfl,p,f⟩:=T;simp[p];have hv:=f.vw (n:=13) (FM (l.map (aW w)));exact aC (.bN (.cons (by simpa using hv) (.data (by simp))))
def LW(n:Int):Prop:=n<=8∨64<n
def G1(t:Ty):Prop:=t.ps.length<=6/\LW t.res.n/\∀p∈t.ps,LW p.n
def w9a(a:Ar)(i:Nat)(t:Ty)(H:a.ids[i]?=some t)(O:t.ps.length<=6)(e:En)(r:Out)
  (f:look e 1=some (.ax a.c))(g:look e 3=some (iV i))(q:look e 5=some (iV 0))(d:bK R (.loop U.BH) e s0=r):
  (∃e',r=.code .ret e' s0/\look e' 2=some (.bool false))∨∃e',r=.code (.exit 2) e' s0/\(look e' 1=some (.ax a.c)/\look e' 3=some (iV i))/\∀p∈t.ps,LW p.n:=by
 obtain⟨j,LV⟩:=aV.1 H;refine aX d t.ps.length
  (λk e s'=>s'=s0/\look e 1=some (.ax a.c)/\look e 3=some (iV i)/\look e 5=some (iV k)/\∀p∈t.ps.take k,LW p.n)
  (λr=>(∃e',r=.code .ret e' s0/\look e' 2=some (.bool false))∨∃e',r=.code (.exit 2) e' s0/\(look e' 1=some (.ax a.c)/\look e' 3=some (iV i))/\∀p∈t.ps,LW p.n)
  0 (by omega) ⟨rfl,f,g,q,by simp⟩
  (λk e s' r B ⟨D,f,g,q,C⟩ d=>by
   have y:LW t.ps[k].n->∀p∈t.ps.take (k+1),LW p.n:=by
    rw[eW B];simp only[cG,dE]
    rintro h p (M|rfl)
    .exact C p M
    exact h
   subst D;have u:(k:Int)<t.ps.length:=by omega
   by_cases E:8<t.ps[k].n
   .by_cases z:t.ps[k].n<=64
    .simp[U.BH,f,g,q,j,LV,B,u,E,z]at d;subst d;exact .inr ⟨by simp,.inl ⟨_,rfl,by simp⟩⟩
    simp[U.BH,f,g,q,j,LV,B,u,E,z,bj (n:=6) (show k<6 by omega) (by omega)]at d;subst d;exact .inl ⟨_,_,rfl,rfl,by simp[f],by simp[g],by simp,y (.inr (by omega))⟩
   simp[U.BH,f,g,q,j,LV,B,u,E,bj (n:=6) (show k<6 by omega) (by omega)]at d;subst d;exact .inl ⟨_,_,rfl,rfl,by simp[f],by simp[g],by simp,y (.inl (by omega))⟩)
  (λe s' r ⟨D,f,g,q,C⟩ d=>by
   subst D;simp[U.BH,f,g,q,j,LV]at d;subst d;rw[iZ (aY _)]at C;exact⟨by simp,.inr ⟨_,rfl,⟨by simp[f],by simp[g]⟩,C⟩⟩)
def w9b(a:Ar)(hl:a.ids.length<=9)(e:En)(o:Out)(p:look e 1=some (.ax a.c))(q:look e 3=some (iV 0))(Y:bK R (.loop U.zP) e s0=o):
  (∃e',o=.code .ret e' s0/\look e' 2=some (.bool false))∨∃e',o=.code (.exit 0) e' s0/\∀t∈a.ids,G1 t:=
 aX Y a.ids.length
  (λi e s'=>s'=s0/\look e 1=some (.ax a.c)/\look e 3=some (iV i)/\∀j (z:j<a.ids.length),j<i->G1 a.ids[j])
  (λo=>(∃e',o=.code .ret e' s0/\look e' 2=some (.bool false))∨∃e',o=.code (.exit 0) e' s0/\∀t∈a.ids,G1 t)
  0 (by omega) ⟨rfl,p,q,by simp⟩
  (λi e s' r C ⟨H,p,q,E⟩ d=>by
   subst H;have u:(i:Int)<a.ids.length:=by omega
   have y:∀(e:En) (r:Out),look e 1=some (.ax a.c)->look e 3=some (iV i)->look e 5=some (iV 0)->a.ids[i].ps.length<=6->bK R (.loop U.BH) e s0=r->_:=λe r p q Z M d=>w9a a i a.ids[i] (aO C) M e r p q Z d
   by_cases D:8<a.ids[i].res.n
   .by_cases B:a.ids[i].res.n<=64
    .simp[U.zP,p,q,C,u,D,B]at d;subst d;exact .inr ⟨by simp,.inl ⟨_,rfl,by simp⟩⟩
    by_cases M:6<a.ids[i].ps.length
    .have f:(6:Int)<a.ids[i].ps.length:=by omega
     simp[U.zP,p,q,C,u,D,B,f]at d;subst d;exact .inr ⟨by simp,.inl ⟨_,rfl,by simp⟩⟩
    have f:¬(6:Int)<a.ids[i].ps.length:=by omega
    simp-implicitDefEqProofs[U.zP,p,q,C,u,D,B,f]at d;generalize g:bK R (.loop U.BH) _ _=r1 at d;rcases y _ _ (by simp[p]) (by simp[q]) (by simp) (by omega) g with⟨O,rfl,P⟩|⟨O,rfl,⟨Q,T⟩,V⟩
    .clear g;simp at d;subst d;exact .inr ⟨by simp,.inl ⟨_,rfl,by simp[P]⟩⟩
    clear g;simp[T,bj (n:=9) (show i<9 by omega) (by omega)]at d;subst d;refine .inl ⟨_,_,rfl,rfl,by simp[Q],by simp,λj z X=>?_⟩;by_cases h:j=i
    .subst h;exact⟨by omega,.inr (by omega),V⟩
    exact E j z (by omega)
   by_cases M:6<a.ids[i].ps.length
   .have f:(6:Int)<a.ids[i].ps.length:=by omega
    simp[U.zP,p,q,C,u,D,f]at d;subst d;exact .inr ⟨by simp,.inl ⟨_,rfl,by simp⟩⟩
   have f:¬(6:Int)<a.ids[i].ps.length:=by omega
   simp-implicitDefEqProofs[U.zP,p,q,C,u,D,f]at d;generalize g:bK R (.loop U.BH) _ _=r1 at d;rcases y _ _ (by simp[p]) (by simp[q]) (by simp) (by omega) g with⟨O,rfl,P⟩|⟨O,rfl,⟨Q,T⟩,V⟩
   .clear g;simp at d;subst d;exact .inr ⟨by simp,.inl ⟨_,rfl,by simp[P]⟩⟩
   clear g;simp[T,bj (n:=9) (show i<9 by omega) (by omega)]at d;subst d;refine .inl ⟨_,_,rfl,rfl,by simp[Q],by simp,λj z X=>?_⟩;by_cases h:j=i
   .subst h;exact⟨by omega,.inl (by omega),V⟩
   exact E j z (by omega))
  (λe s' r ⟨H,p,q,E⟩ d=>by
   subst H;simp[U.zP,p,q]at d;subst d;refine⟨by simp,.inr ⟨_,rfl,λt ht=>?_⟩⟩;obtain⟨j,z,rfl⟩:=eH.1 ht;exact E j z z)
def nc(a:Ar):Prop:=a.ids.length<=9/\LW a.root.n/\∀t∈a.ids,G1 t
def w9(a:Ar):∃b,(∀s,R (.call 9 [.agg a.c] s)=.val (.bool b) s)/\(b=true->nc a):=by
 suffices h:∃b,pN [.tmp 2] (bK R U.b9 (bn [.agg a.c] 0) s0)=some (.bool b)/\(b=true->nc a) by obtain⟨b,r,p⟩:=h;exact⟨b,λs=>q9 r,p⟩
 by_cases B:9<a.ids.length
 .have g:(9:Int)<a.ids.length:=by omega
  by_cases q:8<a.root.n
  .by_cases j:a.root.n<=64
   .exact⟨false,by simp[U.b9,q,j,aa]⟩
   exact⟨false,by simp[U.b9,q,j,g,aa]⟩
  exact⟨false,by simp[U.b9,q,g,aa]⟩
 have g:¬(9:Int)<a.ids.length:=by omega
 have aZ:∀(e:En),look e 1=some (.ax a.c)->look e 3=some (iV 0)->∃b,(b=true->LW a.root.n->nc a)/\((∃f,bK R (.loop U.zP) e s0=.code .ret f s0/\look f 2=some (.bool false)/\b=false)∨(∃f,bK R (.loop U.zP) e s0=.code (.exit 0) f s0/\b=true)):=by
  intro e r u;rcases w9b a (by omega) e _ r u rfl with⟨f,d,p⟩|⟨f,d,y⟩
  .exact⟨false,by simp,.inl ⟨f,d,p,rfl⟩⟩
  exact⟨true,λ_ z=>⟨by omega,z,y⟩,.inr ⟨f,d,rfl⟩⟩
 by_cases q:8<a.root.n
 .by_cases j:a.root.n<=64
  .exact⟨false,by simp[U.b9,q,j,aa]⟩
  simp[U.b9,q,j,g];generalize d:(En.cons 0 _ _:En)=e;obtain⟨b,t,h⟩:=aZ e (by subst d;simp) (by subst d;simp);rcases h with⟨f,d,p,rfl⟩|⟨f,d,rfl⟩
  .exact .inl (by rw[d];simp[p,aa])
  exact .inr ⟨by rw[d];simp[aa],t rfl (.inr (by omega))⟩
 simp[U.b9,q,g];generalize d:(En.cons 0 _ _:En)=e;obtain⟨b,t,h⟩:=aZ e (by subst d;simp) (by subst d;simp);rcases h with⟨f,d,p,rfl⟩|⟨f,d,rfl⟩
 .exact .inl (by rw[d];simp[p,aa])
 exact .inr ⟨by rw[d];simp[aa],t rfl (.inl (by omega))⟩
def bY.copy{S:HS}{v:HV}{sz bx:Nat}{F:cg}(h:bY S v sz F []){au:aR}(p:Sz sz au)(q:au.length<=bx):
  ∃c s' j,mW sz bx none (some v) (some (.psl au)) S=.v c s'/\bY s' c sz j au/\di F S s'/\cellsOf c=some [c]/\∀k,j k->F k∨k=S.nx:=by
 by_cases h0:au=[]
 .subst h0;exact⟨v,S,F,qn h.iS,h,⟨aY _,rfl,λ_ _ _=>rfl,λ_ _ _=>rfl⟩,h.one,λk f=>.inl f⟩
 obtain⟨c,s',r,d,g,t⟩:=h.append p h0 (bx:=bx) (by simpa using q);exact⟨c,s',_,r,by simpa using d,g,d.one,λk f=>f⟩
abbrev S57:HS:={h:=.nd (some (.cells (cR [.ai,.bool false,.int .i64 0]) 0 3 .e)) (.nd (some (.cells (cR []) 0 0 (.z .e))) .lf .lf) .lf,nx:=.o .e,gr:=.nd (some [.e]) (.nd (some [.z .e]) .lf .lf) .lf,ty:=.lf}
abbrev S15:HS:={h:=.nd (some (.cells (cR []) 0 0 .e)) .lf .lf,nx:=.z .e,gr:=.nd (some [.e]) .lf .lf,ty:=.lf}
def Zg:bY S57 (.sl (.z .e) 0 0 2) 2 (λk=>k=.z .e) []:=by refine⟨Sz.nil,λk c=>by subst c;decide,.inr ⟨.z .e,cR [],0,.z .e,[],rfl,rfl,by simp,λj d=>by simp at d,rfl,by simp,by simp,rfl⟩⟩
def OS:bY S15 (.sl .e 0 0 4) 4 (λk=>k=.e) []:=by refine⟨Sz.nil,λk c=>by subst c;decide,.inr ⟨.e,cR [],0,.e,[],rfl,rfl,by simp,λj d=>by simp at d,rfl,by simp,by simp,rfl⟩⟩
def w57(t:Ty)(E:t.ps.length<=400)(s:HS):R (.call 57 [.agg t.c] s)=.val (.agg t.c) s:=by refine q57 ?_;obtain⟨z,s',H,B,r,u,C,D⟩:=Zg.copy (au:=t.ps.map Bs.c) (Sz.map (f:=Bs.c) (λx=>rfl) _) (bx:=8796093022208) (by simp;omega);have g:gD S57 .e [.ai,.bool false,.int .i64 0]:=⟨rfl,rfl,by decide⟩;obtain⟨s2,y,d,h,_⟩:=(g.frame u (λe=>by cases e)).put (v:=.agg [z,.bool t.res.cell,.int .i64 t.res.n]) rfl rfl;have j:=d.load;have p:=r.frame h (λk q e=>by subst e;rcases D _ q with q|q<;>cases q);have y:qj 3 (some (.ptr .e 0)) (some (.agg [z,.bool t.res.cell,.int .i64 t.res.n])) s'=.v .undef s2:=y;simp only[aA,aE]at j;simp[U.b57,s0,B,C,-jf,y,j];exact aC (.agg (.cons (p.vw (by simp)) (.data (by simp))))
def w15(w:aP)(j:w.length<=4000)(s:HS):R (.call 15 [.psl (w.map Mv.c)] s)=.val (.psl (w.map Mv.c)) s:=by refine q15 ?_;obtain⟨p,s',q,g,d,h,r,t⟩:=OS.copy (au:=w.map Mv.c) (Sz.map (f:=Mv.c) (λx=>rfl) _) (bx:=4398046511104) (by simp;omega);simp[U.b15,s0,g];exact aC (d.vw (by simp))
def w18(a:Ar)(hl:a.ids.length<=9)(hp:∀t∈a.ids,t.ps.length<=6)(s:HS):R (.call 18 [.agg a.c] s)=.val (.agg a.c) s:=by
 refine q18 ?_;simp[U.b18,s0,ah,an];generalize ho:bK R (.loop U.GL) _ _=o;have hq:=aX ho a.ids.length
  (λi e s=>∃v F,look e 1=some (.ax a.c)/\look e 2=some (.ptr .e 0)/\look e 3=some (.ptr (.z .e) 0)/\look e 4=some (iV i)/\gD s .e [.ai,.bool false,.int .i64 0,.bool false]/\gD s (.z .e) [v,.bool a.root.cell,.int .i64 a.root.n,.bool a.jumps]/\bY s v 3 F ((a.ids.take i).map Ty.c)/\∀k,F k->2<=k.toNat)
  (λo=>∃e s v F,o=.code (.exit 0) e s/\look e 2=some (.ptr .e 0)/\look e 3=some (.ptr (.z .e) 0)/\gD s .e [.ai,.bool false,.int .i64 0,.bool false]/\gD s (.z .e) [v,.bool a.root.cell,.int .i64 a.root.n,.bool a.jumps]/\bY s v 3 F (a.ids.map Ty.c)/\∀k,F k->2<=k.toNat)
  0 (by omega) ⟨.ai,_,by simp,by simp,by simp,by simp,⟨by simp,by simp,by simp[Ky.toNat]⟩,⟨by simp,by simp,by simp[Ky.toNat]⟩,bY.ai,λk p=>p.elim⟩
  (λi e s r Z ⟨v,F,Y,D,B,h4,g,d,C,q⟩ E=>by
   have h5:(i:Int)<a.ids.length:=by omega
   have H:=w57 a.ids[i] (by have:=hp _ (bX Z);omega);have g0:=d.get 0 (by simp);obtain⟨v',s1,ha,M,O,h8⟩:=C.append (bx:=3518437208883) (new:=[a.ids[i].c]) (Sz.cons rfl Sz.nil) (by simp) (by simp;omega);have P:=g.frame O (λh=>by have:=q _ h;simp[Ky.toNat]at this);have Q:=d.frame O (λh=>by have:=q _ h;simp[Ky.toNat]at this);obtain⟨s2,b2,u,f,h9⟩:=Q.set 0 (by simp) v' M.one;have h6:=d.2.2;have T:∀k,(F k∨k=s.nx)->2<=k.toNat:=by
    rintro k (p|rfl)
    .exact q k p
    have:(Ky.z Ky.e).toNat<s.nx.toNat:=h6;simp[Ky.toNat]at this;omega
   have V:=M.frame f (λk p e=>by subst e;have:=T _ p;simp[Ky.toNat]at this);have y:=P.frame f (λe=>by cases e);simp only[Ty.c]at H ha;simp at g0;simp[U.GL,Y,B,h4,Z,h5,H,g0,ha,b2,bj (n:=9) (show i<9 by omega) (by omega)]at E;subst E;refine .inl ⟨_,_,rfl,v',λk=>F k∨k=s.nx,by simp[Y],by simp[D],by simp[B],by simp,y,by simpa using u,?_,T⟩;rw[eW Z,eD];exact V)
  (λe s r ⟨v,F,Y,D,B,h4,g,d,C,q⟩ E=>by
   simp[U.GL,Y,h4]at E;subst E;rw[j0]at C;exact⟨by simp,_,_,v,F,rfl,by simp[D],by simp[B],g,d,C,q⟩)
 clear ho;obtain⟨e,s,v,F,rfl,D,B,g,d,C,q⟩:=hq;have X:=d.load;obtain⟨s2,st,u,f,_⟩:=g.put (v:=.agg [v,.bool a.root.cell,.int .i64 a.root.n,.bool a.jumps]) rfl rfl;have j:=u.load;have h7:=C.frame f (λk p e=>by subst e;have:=q _ p;simp[Ky.toNat]at this);have st:qj 4 (some (.ptr .e 0)) (some (.agg [v,.bool a.root.cell,.int .i64 a.root.n,.bool a.jumps])) s=.v .undef s2:=st;simp only[aA,aE]at X j;simp[D,B,X,-jf,st,j];exact aC (.agg (.cons (h7.vw (by simp)) (.data (by simp))))
inductive Lv(x:Fa):aG
 |fin {i:Nat} (h:x.fi[i]?=some true):Lv x i
 |KC {i:Nat} {l:bA} {e:Eg} (h:x.nx[i]?=some l) (he:e∈l) (h':Lv x e.to):Lv x i
structure Us(x:Fa)(u:ck):Prop where
 len:u.length=x.nx.length
 snd:∀i:Nat,u[i]?=some true->Lv x i
 fin:∀i:Nat,x.fi[i]?=some true->u[i]?=some true
def ng(x:Fa)(u:ck):Prop:=u.length=x.nx.length/\∀i:Nat,u[i]?=some true↔Lv x i
structure Rd(x:Fa)(u0 u:ck)(b:Bool)(i k:Nat):Prop where
 us:Us x u
 t:b=true->u0.count true<u.count true
 f:b=false->u=u0/\∀(i' k':Nat),(i'<i∨i'=i/\k'<k)->∀l,x.nx[i']?=some l->∀e:Eg,l[k']?=some e->u[e.to]?=some true->u[i']?=some true
def Rd.LV{x:Fa}{u0 u:ck}{b:Bool}{i k:Nat}(h:Rd x u0 u b i k){l:bA}{e:Eg}(p:x.nx[i]?=some l)(q:l[k]?=some e)(r:u[i]?=some false)(y:u[e.to]?=some true):Rd x u0 (u.set i true) true i (k+1):=by
 obtain⟨z,g⟩:=aV.1 r;refine⟨⟨by simp[h.us.len],λj d=>?_,λj d=>?_⟩,λ_=>?_,λh=>by cases h⟩
 .rw[gS]at d
  split at d
  .rename_i c;subst c;exact .KC p (cH q) (h.us.snd _ y)
  exact h.us.snd j d
 .rw[gS]
  split
  .rename_i c;subst c;simp
  exact h.us.fin j d
 have B:(u.set i true).count true=u.count true+1:=by rw[List.count_set z];simp[g]
 rw[B];cases b
 .rw[(h.f rfl).1];omega
 have:=h.t rfl;omega
def Rd.Zh{x:Fa}{u0 u:ck}{b:Bool}{i k:Nat}(h:Rd x u0 u b i k){l:bA}{e:Eg}(q:x.nx[i]?=some l)(r:l[k]?=some e)(y:u[e.to]?=some true->u[i]?=some true):Rd x u0 u b i (k+1):=by
 refine⟨h.us,h.t,λg=>⟨(h.f g).1,λj p z B c C d=>?_⟩⟩;by_cases D:j=i/\p=k
 .obtain⟨rfl,rfl⟩:=D;rw[q]at c;cases c;rw[r]at d;cases d;exact y
 exact(h.f g).2 j p (by omega) B c C d
def Rd.row{x:Fa}{u0 u:ck}{b:Bool}{i:Nat}{l:bA}(p:x.nx[i]?=some l)(h:Rd x u0 u b i l.length):Rd x u0 u b (i+1) 0:=by
 refine⟨h.us,h.t,λg=>⟨(h.f g).1,λj q y z c r d=>?_⟩⟩;by_cases B:j=i
 .subst B;rw[p]at c;cases c;exact(h.f g).2 j q (.inr ⟨rfl,(aV.1 d).1⟩) l p r d
 exact(h.f g).2 j q (by omega) z c r d
def Rd.done{x:Fa}{u0 u:ck}(h:Rd x u0 u false x.nx.length 0):ng x u:=by
 refine⟨h.us.len,λi=>⟨h.us.snd i,λc=>?_⟩⟩
 induction c with|fin d=>exact h.us.fin _ d|KC c g _ j=>obtain⟨k,p⟩:=uK.1 g;exact(h.f rfl).2 _ k (.inl (aV.1 c).1) _ c _ p j
def lD{s:HS}{o:Ky}{F:cg}{u:ck}{n:Nat}(h:bY s (.sl o 0 n 1) 1 F (u.map bC)){i:Nat}{b:Bool}(c:u[i]?=some b):eN (ao s.h o) i=some (.bool b):=by obtain⟨d,f⟩:=aV.1 c;rw[h.cell i (by simpa using d)];simp[f]
section
variable{x:Fa}{v:HV}{F:cg}{u0:ck}
def Zi(Q:cJ x){i:Nat}(y:i<x.nx.length){e:En}{s:HS}{u:ck}{b:Bool}{o:Out}(d:bO e [(1,.ax x.c),(3,v),(4,.bool b),(5,iV i),(6,iV 0)])(g:bY s v 1 F (u.map bC))(q:Rd x u0 u b i 0)(Y:bK R (.loop U.rk) e s=o):
  ∃e' s' C D,o=.code (.exit 4) e' s'/\bO e' [(1,.ax x.c),(3,v),(4,.bool D),(5,iV i)]/\bY s' v 1 F (C.map bC)/\Rd x u0 C D (i+1) 0:=by
 have j:=aO y;refine aX Y x.nx[i].length
  (λk e s=>∃u b,bO e [(1,.ax x.c),(3,v),(4,.bool b),(5,iV i),(6,iV k)]/\bY s v 1 F (u.map bC)/\Rd x u0 u b i k)
  (λo=>∃e' s' C D,o=.code (.exit 4) e' s'/\bO e' [(1,.ax x.c),(3,v),(4,.bool D),(5,iV i)]/\bY s' v 1 F (C.map bC)/\Rd x u0 C D (i+1) 0)
  0 (by omega) ⟨u,b,d,g,q⟩
  (λk e s r E ⟨u,b,d,g,q⟩ p=>by
   have z:(k:Int)<x.nx[i].length:=by omega
   have B:=aO E;have Z:=Q.row y;have h3:=Q.to _ (bX y) _ (bX E);have h4:=q.us.len;obtain⟨ob,rfl⟩:=g.fY (by intro h0;have:=ct List.length h0;rw[bH]at this;simp only[aE]at this;omega);obtain⟨c1,H⟩:∃c,u[i]?=some c:=⟨_,aO (show i<u.length by omega)⟩;obtain⟨c2,M⟩:∃c,u[(x.nx[i][k]).to]?=some c:=⟨_,aO (show(x.nx[i][k]).to<u.length by omega)⟩;have O:=lD g H;have T:=lD g M;have f:i<u.length:=by omega
   have t:(x.nx[i][k]).to<u.length:=by omega
   have P:=bj (n:=6000) (show k<6000 by omega) (by omega);simp only[ab,ae,bH]at d;cases c1
   .cases c2
    .simp[U.rk,d,y,E,z,f,t,O,T,P]at p;subst p;exact .inl ⟨_,_,rfl,u,b,by simp[d],g,q.Zh j B (λh=>by rw[M]at h;cases h)⟩
    obtain⟨o',s',V,X,a3,a4,a5⟩:=g.jg i (by simpa using f) (.bool true) rfl;simp[f]at V;obtain rfl:=V;simp only[hU]at X;simp[U.rk,d,y,E,z,f,t,O,T,P,X]at p;subst p;refine .inl ⟨_,_,rfl,u.set i true,true,by simp[d],?_,q.LV j B H M⟩;rw[kI];exact a3
   simp[U.rk,d,y,z,f,O,P]at p;subst p;exact .inl ⟨_,_,rfl,u,b,by simp[d],g,q.Zh j B (λ_=>H)⟩)
  (λe s r ⟨u,b,d,g,q⟩ p=>by
   simp only[ab,ae]at d;simp[U.rk,d,y]at p;subst p;exact⟨by simp,_,_,u,b,rfl,by simp[d],g,q.row j⟩)
def Zj(D:cJ x){e:En}{s:HS}{o:Out}(d:bO e [(1,.ax x.c),(3,v),(4,.bool false),(5,iV 0)])(q:bY s v 1 F (u0.map bC))(E:Us x u0)(t:bK R (.loop U.xL) e s=o):
  ∃e' s' f g,o=.code (.exit 2) e' s'/\bO e' [(1,.ax x.c),(3,v),(4,.bool g)]/\bY s' v 1 F (f.map bC)/\Rd x u0 f g x.nx.length 0:=by
 have M:=D.n;refine aX t x.nx.length
  (λi e s=>∃u b,bO e [(1,.ax x.c),(3,v),(4,.bool b),(5,iV i)]/\bY s v 1 F (u.map bC)/\Rd x u0 u b i 0)
  (λo=>∃e' s' f g,o=.code (.exit 2) e' s'/\bO e' [(1,.ax x.c),(3,v),(4,.bool g)]/\bY s' v 1 F (f.map bC)/\Rd x u0 f g x.nx.length 0)
  0 (by omega) ⟨u0,false,d,q,⟨E,λh=>(by cases h),λ_=>⟨rfl,λO P h=>(by omega)⟩⟩⟩
  (λi e s r H ⟨u,b,d,q,y⟩ j=>by
   have z:(i:Int)<x.nx.length:=by omega
   simp only[ab,ae]at d;simp[U.xL,d,z]at j;generalize t:bK R (.loop U.rk) _ _=o at j;obtain⟨e',s',f,g,rfl,p,B,C⟩:=Zi D H (by simp[d]) q y t;clear t;simp only[ab,ae]at p;simp[p,bj (n:=400) (show i<400 by omega) (by omega)]at j;subst j;exact .inl ⟨_,_,rfl,f,g,by simp[p],B,C⟩)
  (λe s r ⟨u,b,d,q,y⟩ j=>by
   simp only[ab,ae]at d;simp[U.xL,d]at j;subst j;exact⟨by simp,_,_,u,b,rfl,by simp[d],q,y⟩)
end
def TI:bY S15 (.sl .e 0 0 1) 1 (λk=>k=.e) []:=by refine⟨Sz.nil,λk c=>by subst c;decide,.inr ⟨.e,cR [],0,.e,[],rfl,rfl,by simp,λj d=>by simp at d,rfl,by simp,by simp,rfl⟩⟩
def agY(x:Fa)(C:cJ x):∃u,ng x u/\∀s,R (.call 140 [.agg x.c] s)=.val (.psl (u.map bC)) s:=by
 have T:x.fi.length<=400:=by have:=C.ok.f;simpa[Fa.i]using this
 obtain⟨v,s',F,V,D,X,hc,hF⟩:=TI.copy (au:=x.fi.map bC) (Sz.map (f:=bC) (λx=>rfl) _) (bx:=140737488355328) (by simp;omega)
 suffices h:∃u,ng x u/\pN [.tmp 2] (bK R U.Re (bn [.agg x.c] 0) s0)=some (.psl (u.map bC)) by obtain⟨u,P,Q⟩:=h;exact⟨u,P,λs=>aeT Q⟩
 simp[U.Re,s0,V];generalize p:bK R (.loop U.BO) _ _=o;have Y:=aX p (x.nx.length+2)
  (λi e s=>∃u b,bO e [(1,.ax x.c),(3,v),(4,.bool b)]/\bY s v 1 F (u.map bC)/\Us x u/\(b=true->i<=u.count true)/\(b=false->i<=u.count true+1/\ng x u))
  (λo=>∃z s' u,o=.code (.exit 0) z s'/\look z 3=some v/\bY s' v 1 F (u.map bC)/\ng x u)
  0 (by omega) ⟨x.fi,true,by simp,D,⟨C.nf.symm,λi h=>.fin h,λi h=>h⟩,λ_=>fD _,λh=>by cases h⟩
  (λi e s r hi ⟨u,b,j,q,E,B,H⟩ g=>by
   simp only[ab,ae]at j;cases b
   .simp[U.BO,j]at g;subst g;exact .inr ⟨by simp,_,_,u,rfl,by simp[j],q,(H rfl).2⟩
   simp[U.BO,j]at g;generalize p:bK R (.loop U.xL) _ _=o at g;obtain⟨z,s',Z,b',rfl,y,M,d⟩:=Zj (u0:=u) C (by simp[j]) q E p;clear p;simp only[ab,ae]at y;simp at g;subst g;refine .inl ⟨_,_,rfl,Z,b',by simp[y],M,d.us,λO=>?_,λO=>?_⟩
   .have:=d.t O;have:=B rfl;omega
   subst O;have:=B rfl;have he:=(d.f rfl).1;exact⟨by rw[he];omega,d.done⟩)
  (λe s r ⟨u,b,j,q,E,B,H⟩ g=>by
   have P:=List.count_le_length (a:=true) (l:=u);have Q:=E.len;cases b
   .have:=(H rfl).1;omega
   have:=B rfl;omega)
 clear p;obtain⟨z,s',u,rfl,h3,q,hl⟩:=Y;refine⟨u,hl,?_⟩;simp[h3];exact aC (q.vw (by simp))
def OT{c:HC}{e:En}{s:HS}{o:Out}(B:bK R (.loop c) e s=o)(J:HS->Prop)(C:J s)(n:Nat)(P:aG)(L:Nat->List (Nat×HV))(M:List (Nat×HV))(x:Nat)(Q:Nat->Out->Prop)(D:bO e (L 0))
  (round:∀i e s r,i<n->J s->bO e (L i)->bK R c e s=r->(P i/\∃e' s',r=.code .normal e' s'/\J s'/\bO e' (L (i+1)))∨(¬P i/\gC r/\Q i r))
  (last:∀e s r,J s->bO e (L n)->bK R c e s=r->∃e' s',r=.code (.exit x) e' s'/\J s'/\bO e' M):
  (∃i,i<n/\(∀j,j<i->P j)/\¬P i/\Q i o)∨((∀i,i<n->P i)/\∃e' s',o=.code (.exit x) e' s'/\J s'/\bO e' M):=by
 refine aX B n (λi e s=>J s/\bO e (L i)/\∀j,j<i->P j) (λo=>(∃i,i<n/\(∀j,j<i->P j)/\¬P i/\Q i o)∨((∀i,i<n->P i)/\∃e' s',o=.code (.exit x) e' s'/\J s'/\bO e' M)) 0 (by omega) ⟨C,D,λj d=>by omega⟩ ?_ ?_
 .rintro i e s r z ⟨p,q,d⟩ t
  rcases round i e s r z p q t with⟨u,e',s',f,y,g⟩|⟨u,f,g⟩
  .refine .inl ⟨e',s',f,y,g,λj E=>?_⟩;by_cases h:j=i
   .subst h;exact u
   exact d j (by omega)
  exact .inr ⟨f,.inl ⟨i,z,d,u,g⟩⟩
 rintro e s r ⟨p,q,d⟩ t
 obtain⟨e',s',f,y,g⟩:=last e s r p q t;subst f;exact⟨by simp,.inr ⟨d,e',s',rfl,y,g⟩⟩
def bY.app{S:HS}{v:HV}{sz bx:Nat}{F:cg}{au new:aR}(h:bY S v sz F au)(p:Sz sz new)(q:au.length+new.length<=bx):
  ∃c s' j,mW sz bx none (some v) (some (.psl new)) S=.v c s'/\bY s' c sz j (au++new)/\di F S s'/\(∀k,j k->F k∨k=S.nx):=by
 by_cases h0:new=[]
 .subst h0;exact⟨v,S,F,qn h.iS,by simpa using h,di.refl,λk d=>.inl d⟩
 obtain⟨c,s',r,f,g,t⟩:=h.append p h0 (bx:=bx) q;exact⟨c,s',_,r,f,g,λk d=>d⟩
def kP:aP->Mv->aP
 |[],m=>[m]
 |a::r,m=>if fz a m then a::kP r m else if a=m then a::r else m::a::r
def G2:∀(l:aP) (m:Mv) (i:Nat),i<=l.length->(∀j,(h:j<l.length)->j<i->fz l[j] m=true)->(∀h:i<l.length,fz l[i] m=false)->
  kP l m=if l[i]?=some m then l else l.take i++m::l.drop i
 |[],m,i,c,_,_=>by simp at c;subst c;simp[kP]
 |a::r,m,0,_,_,h=>by have:=h (by simp);simp only[yL]at this;simp only[kP,this,cy,bp,yM,bT,List.take_zero,List.drop_zero,bD]
 |a::r,m,i+1,c,d,f=>by
  have h0:=d 0 (by simp) (by omega);simp only[yL]at h0;have g:=G2 r m i (by simpa using c) (λj h p=>by have:=d (j+1) (by simpa using h) (by omega);simpa using this) (λh=>by have:=f (by simpa using h);simpa using this);simp only[kP,h0,bf,g,List.getElem?_cons_succ,List.take_succ_cons,List.drop_succ_cons,bB]
  split<;>rfl
def Zk(l:aP)(hl:l.length<=100000)(m:Mv)(s:HS):R (.call 157 [.psl (l.map Mv.c),.agg m.c] s)=.val (.psl ((kP l m).map Mv.c)) s:=by
 refine ae7 ?_;simp-implicitDefEqProofs[U.Xo];generalize ho:bK R (.loop U.xP) _ _=o;have hq:=jh ho l.length (λi=>∀h:i<l.length,fz l[i] m=true) (λi=>[(0,.psl (l.map Mv.c)),(3,.ax m.c),(5,iV i)]) [(0,.psl (l.map Mv.c)),(3,.ax m.c),(5,iV l.length)] 0 (λi o=>∃t,o=.code (.exit 0) t s0/\bO t [(0,.psl (l.map Mv.c)),(3,.ax m.c),(5,iV i)]) (by simp)
  (λi e r y g B=>by
   have D:(i:Int)<l.length:=by omega
   have d:=Y3 l[i] m;simp only[ab,ae]at g;cases C:fz l[i] m
   .rw[C]at d;simp only[Mv.c]at d;simp[U.xP,g,y,D,d]at B;subst B;exact .inr ⟨λh=>(by rw[h y]at C;cases C),by simp,_,rfl,by simp[g]⟩
   rw[C]at d;simp only[Mv.c]at d;simp[U.xP,g,y,D,d,bj (n:=100000) (show i<100000 by omega) (by omega)]at B;subst B;exact .inl ⟨λ_=>C,_,rfl,by simp[g]⟩)
  (λe r g B=>by
   simp only[ab,ae]at g;simp[U.xP,g]at B;subst B;exact⟨_,rfl,by simp[g]⟩)
 clear ho;have P:∃i t,i<=l.length/\(∀j,(h:j<l.length)->j<i->fz l[j] m=true)/\(∀h:i<l.length,fz l[i] m=false)/\o=.code (.exit 0) t s0/\bO t [(0,.psl (l.map Mv.c)),(3,.ax m.c),(5,iV i)]:=by
  rcases hq with⟨i,y,Q,T,t,V,X⟩|⟨E,t,V,X⟩
  .refine⟨i,t,by omega,λj h hj=>Q j hj h,λh=>?_,V,X⟩;cases C:fz l[i] m
   .rfl
   exact absurd (λ_=>C) T
  exact⟨l.length,t,aY _,λj h _=>E j h h,λh=>by omega,V,X⟩
 obtain⟨i,t,y,Q,T,rfl,g⟩:=P;rw[G2 l m i y Q T];simp only[ab,ae]at g;obtain⟨v1,s1,F1,Y,o1,f1,n1⟩:=OS.app (new:=(l.take i).map Mv.c) (Sz.map (f:=Mv.c) (λx=>rfl) _) (bx:=4398046511104) (by simp;omega);obtain⟨v2,s2,F2,Z,o2,f2,n2⟩:=o1.app (new:=[m.c]) (Sz.cons rfl Sz.nil) (bx:=4398046511104) (by simp;omega);obtain⟨v3,s3,F3,a3,o3,f3,n3⟩:=o2.app (new:=(l.drop i).map Mv.c) (Sz.map (f:=Mv.c) (λx=>rfl) _) (bx:=4398046511104) (by simp;omega);have z:bY s3 v3 4 F3 ((l.take i++m::l.drop i).map Mv.c):=by simpa using o3
 have H:List.take (l.length-i) (List.drop i (List.map Mv.c l))=List.drop i (List.map Mv.c l):=iZ (by simp);have M:=ql (Sz.mv l);simp only[Mv.c]at Z;rw[EK]at Y;rw[List.map_drop]at a3;by_cases u:i<l.length
 .have p:(i:Int)<l.length:=by omega
  have q:=rC l[i] m;by_cases O:l[i]=m
  .rw[cV O]at q;simp only[Mv.c]at q;rw[ar (by rw[aO u,O])];simp[g,u,p,q,aa]
  rw[cu O]at q;simp only[Mv.c]at q;rw[aq (by rw[aO u];simpa using O)];simp[g,u,p,q,y,s0,M,H,Y,Z,a3];simpa using aC (z.vw (n:=14) (qk _))
 have p:¬(i:Int)<l.length:=by omega
 rw[aq (by rw[Av (by omega)];simp)];simp[g,p,y,s0,M,H,Y,Z,a3];simpa using aC (z.vw (n:=14) (qk _))
mutual
def NJ:∀(v:HV),eh v=true->nn v=v
 |.fn _ _ _,_=>rfl
 |.agg l,h=>by simp only[eh]at h;simp only[nn,nh l h]
 |.bN l,h=>by simp only[eh]at h;simp only[nn,nh l h]
 |.ax l,h=>by simp only[eh]at h;simp only[nn,nh l h]
 |.psl l,h=>by simp only[eh]at h;simp only[nn,iQ l h]
 |.ai,h=>by simp[eh]at h
 |.int _ _,_=>rfl
 |.bool _,_=>rfl
 |.str _,_=>rfl
 |.dZ,_=>rfl
 |.gU,_=>rfl
 |.fV,_=>rfl
 |.gj,_=>rfl
 |.undef,_=>rfl
 |.ptr _ _,_=>rfl
 |.sl _ _ _ _,_=>rfl
 |.mp _,_=>rfl
 |.jk _,_=>rfl
def nh:∀(l:ak),du l=true->oN l=l
 |[],_=>rfl
 |v::r,h=>by simp only[du,aL]at h;simp only[oN,NJ v h.1,nh r h.2]
def iQ:∀(l:aR),eu l=true->qy l=l
 |[],_=>rfl
 |v::r,h=>by simp only[eu,aL]at h;simp only[qy,nh v h.1,iQ r h.2]
end
def yN(f:Nat)(F:HF)(args l:ak)(v:HV)(s:HS)(g:U.prog f=some F)(j:pO LU f=true)(p:F.pu=true)(r:cC args=true)(t:du args=false)(u:oN args=l)(c:du l=true)(h:R (.call f l s0)=.val v s0):R (.call f args s)=.val v s:=by
 have h:=lx h trivial;have h:sQ LU f l s0 (bu U.prog R f l s0)=.val v s0:=h;rw[ff j]at h;unfold bu at h;rw[g]at h;have h:(bif F.pu then bW F R l s0 else dD F R l s0)=.val v s0:=h;rw[p,cond_true]at h;unfold bW at h;rw[dS l c,cond_true,c,cond_true]at h;have d:jo F R l=some v:=by
  cases q:jo F R l with
  |none=>rw[q]at h;cases h
  |some y=>rw[q]at h;cases h;rfl
 refine dB ?_ trivial;show sQ LU f args s (bu U.prog R f args s)=_;rw[ff j];unfold bu;rw[g];show(bif F.pu then bW F R args s else dD F R args s)=_;rw[p,cond_true];unfold bW;rw[r,cond_true,t,cond_false,u,d];rfl
def Ja(l:aP):HV:=if l=[]then .ai else .psl (l.map Mv.c)
def Zl(l:aP)(d:l.length<=100000)(m:Mv)(s:HS):R (.call 157 [Ja l,.agg m.c] s)=.val (.psl ((kP l m).map Mv.c)) s:=by
 unfold Ja
 split
 .rename_i h;subst h;exact yN 157 U.f157 _ [.psl [],.agg m.c] _ s rfl rfl rfl rfl rfl rfl (by simp) (Zk [] (by simp) m s0)
 exact Zk l d m s
def NK(l:aP)(m:Mv):kP l m≠ []:=by cases l with|nil=>simp[kP]|cons a r=>simp only[kP];split<;>(try split)<;>simp
def NL(l:aP)(m:Mv):Ja (kP l m)=.psl ((kP l m).map Mv.c):=by unfold Ja;rw[aq (NK l m)]
def DQ:∀(l:aP) (m:Mv),(kP l m).length<=l.length+1
 |[],m=>by simp[kP]
 |a::r,m=>by
  simp only[kP]
  split
  .have:=DQ r m;simp;omega
  split<;>simp
def DR:∀(l:aP) (m x:Mv),x∈kP l m↔x=m∨x∈l
 |[],m,x=>by simp[kP]
 |a::r,m,x=>by
  simp only[kP]
  split
  .simp only[bm,DR r m x];constructor
   .rintro(h|h|h)<;>simp[h]
   rintro(h|h|h)<;>simp[h]
  split
  .rename_i h;subst h;simp
  simp
def pV(es:bA):aP:=es.foldl (λo e=>kP o e.m) []
def sv(es:bA)(e:Eg):pV (es++[e])=kP (pV es) e.m:=by simp[pV]
def sw(es:bA):(pV es).length<=es.length:=by
 rcases ly es with h|⟨r,e,h⟩
 .subst h;simp[pV]
 rw[h,yD,sv];have c:=sw r;have d:=DQ (pV r) e.m;simp;omega
termination_by es.length
decreasing_by subst h;simp
def G3(es:bA)(m:Mv):m∈pV es↔∃e∈es,e.m=m:=by
 rcases ly es with h|⟨r,e,h⟩
 .subst h;simp[pV]
 rw[h,yD,sv,DR,G3 r m];simp only[cG,dE];constructor
 .rintro(h|⟨d,f,c⟩)
  .exact⟨e,.inr rfl,h.symm⟩
  exact⟨d,.inl f,c⟩
 rintro⟨d,f|rfl,c⟩
 .exact .inr ⟨d,f,c⟩
 exact .inl c.symm
termination_by es.length
decreasing_by subst h;simp
def ga(nx:List bA)(l:ay):bA:=l.flatMap λi=>nx.getD i []
def FX{nx:List bA}{l:ay}{i:Nat}(c:i<l.length)(d:l[i]<nx.length):ga nx (l.take (i+1))=ga nx (l.take i)++nx[l[i]]:=by unfold ga;rw[eW c,uc];simp[dF,d]
def ud{nx:List bA}(c:∀r∈nx,r.length<=6000):∀(l:ay),(ga nx l).length<=l.length*6000
 |[]=>by simp[ga]
 |i::r=>by
  have d:=ud c r;have:(nx.getD i []).length<=6000:=by rw[dF];cases h:nx[i]?with|none=>simp|some x=>simpa using c x (cH h)
  unfold ga at d ⊢;simp only[ni,cE,aA];omega
def Zm(nx:List bA)(C:∀r∈nx,r.length<=6000)(l:ay)(O:l.length<=2)(E:∀i∈l,i<nx.length)(s:HS):
  R (.call 142 [.agg [.psl (nx.map oM),.psl [],.psl []],.psl (l.map nC)] s)=.val (.psl ((pV (ga nx l)).map Mv.c)) s:=by
 refine aeV ?_;simp[U.Xj];generalize q:bK R (.loop U.BQ) _ _=o;have y:=jh q l.length (λ_=>True) (λi=>[(1,.psl (l.map nC)),(2,.ax [.psl (nx.map oM),.psl [],.psl []]),(5,Ja (pV (ga nx (l.take i)))),(6,iV i)]) [(5,Ja (pV (ga nx l)))] 0 (λ_ _=>False) (by simp[ga,pV,Ja])
  (λi e r u f d=>by
   have z:(i:Int)<l.length:=by omega
   have g:=E _ (bX u);have H:=C _ (bX g);have p:=ud C (l.take i);rw[oX]at p;simp only[ab,ae]at f;simp[U.BQ,f,z]at d;generalize q:bK R (.loop U.BP) _ _=o at d;have y:=jh q nx[l[i]].length (λ_=>True) (λk=>[(1,.psl (l.map nC)),(2,.ax [.psl (nx.map oM),.psl [],.psl []]),(5,Ja (pV (ga nx (l.take i)++nx[l[i]].take k))),(6,iV i),(7,iV k)]) [(1,.psl (l.map nC)),(2,.ax [.psl (nx.map oM),.psl [],.psl []]),(5,Ja (pV (ga nx (l.take (i+1))))),(6,iV i)] 2 (λ_ _=>False) (by simp[f])
    (λk e r D f d=>by
     have B:(k:Int)<nx[l[i]].length:=by omega
     have j:=Zl (pV (ga nx (l.take i)++nx[l[i]].take k)) (by
      have:=sw (ga nx (l.take i)++nx[l[i]].take k);rw[cE,oX]at this;omega) nx[l[i]][k].m
     have t:Ja (pV (ga nx (l.take i)++nx[l[i]].take (k+1)))=.psl ((kP (pV (ga nx (l.take i)++nx[l[i]].take k)) nx[l[i]][k].m).map Mv.c):=by rw[eW D,<-List.append_assoc,sv,NL]
     simp only[ab,ae]at f;simp only[Mv.c]at j;generalize Ja (pV (ga nx (l.take i)++nx[l[i]].take k))=P at*;generalize kP (pV (ga nx (l.take i)++nx[l[i]].take k)) nx[l[i]][k].m=Q at*;simp[U.BP,f,u,g,D,B,j,bj (n:=6000) (show k<6000 by omega) (by omega)]at d;subst d;exact .inl ⟨trivial,_,rfl,by simp[f,t]⟩)
    (λe r f d=>by
     simp only[ab,ae]at f;simp[U.BP,f,u,g]at d;subst d;rw[FX u g];exact⟨_,rfl,by simp[f]⟩)
   clear q;rcases y with⟨_,_,_,_,h⟩|⟨_,M,rfl,f⟩
   .exact h.elim
   simp only[ab,ae]at f;simp[f,bj (n:=400) (show i<400 by omega) (by omega)]at d;subst d;exact .inl ⟨trivial,_,rfl,by simp[f]⟩)
  (λe r f d=>by
   simp only[ab,ae]at f;simp[U.BQ,f]at d;subst d;rw[j0]at f;exact⟨_,rfl,by simp[f]⟩)
 clear q;rcases y with⟨_,_,_,_,h⟩|⟨_,M,rfl,f⟩
 .exact h.elim
 simp only[ab,ae]at f;simp[f];unfold Ja
 split
 .rename_i h;rw[h];exact aC .ai
 simp[aa]
def hX(aZ:ck)(m:Mv)(e:Eg):Bool:=decide (e.m=m)&&aZ.getD e.to false
def nj(row:bA)(of:aQ)(aZ:ck)(m:Mv):Int:=match row.find? (hX aZ m)with|some e=>of.getD e.to 0|none=> -1
def G4{α:Type}{p:α->Bool}:∀{l:List α} {i:Nat} (c:i<l.length),(∀j,(h:j<i)->p (l[j]'(by omega))=false)->p l[i]=true->l.find? p=some l[i]
 |[],i,c,_,_=>by simp at c
 |a::r,0,_,_,h=>by simp at h;simp[h]
 |a::r,i+1,c,d,f=>by have h0:=d 0 (by omega);simp only[yL]at h0;have g:=G4 (l:=r) (i:=i) (by simpa using c) (λj h=>by have:=d (j+1) (by omega);simpa using this) (by simpa using f);simp[h0,g]
def IJ{α:Type}{p:α->Bool}{l:List α}(h:∀i,(c:i<l.length)->p l[i]=false):l.find? p=none:=by rw[KD];intro a d;obtain⟨i,c,rfl⟩:=eH.1 d;simp[h i c]
def Zn(x:Fa)(O:cJ x)(of:aQ)(V:of.length=x.nx.length)(aZ:ck)(hu:aZ.length=x.nx.length)(i:Nat)(B:i<x.nx.length)(m:Mv)(s:HS):
  R (.call 184 [.agg x.c,.psl (of.map iC),.psl (aZ.map bC),iV i,.agg m.c] s)=.val (iV (nj x.nx[i] of aZ m)) s:=by
 refine afv ?_;simp[U.Xz];generalize P:bK R (.loop U.tK) _ _=o;have X:=OT P (λ_=>True) trivial x.nx[i].length (λk=>∀h:k<x.nx[i].length,hX aZ m x.nx[i][k]=false)
  (λk=>[(1,.psl (of.map iC)),(2,.psl (aZ.map bC)),(3,iV i),(5,.ax x.c),(9,.ax m.c),(11,iV k)]) [] 0
  (λk o=>∃h:k<x.nx[i].length,∃E s',o=.code .ret E s'/\look E 10=some (iV (of.getD (x.nx[i][k]).to 0))) (by simp)
  (λk e s r g _ q t=>by
   have z:(k:Int)<x.nx[i].length:=by omega
   have Y:=O.row B;have Z:=O.to _ (bX B) _ (bX g);have Q:=bj (n:=6000) (show k<6000 by omega) (by omega);have f:=rC (x.nx[i][k]).m m;have p:ao (HS.mk (av (some (.cells (cR (x.nx[i][k]).c) 0 5 s.nx)) s.nx s.h) s.nx.succ (av (some [s.nx]) s.nx s.gr) s.ty).h s.nx=some (.cells (cR (x.nx[i][k]).c) 0 5 s.nx):=by simp
   generalize u:HS.mk (av (some (.cells (cR (x.nx[i][k]).c) 0 5 s.nx)) s.nx s.h) s.nx.succ (av (some [s.nx]) s.nx s.gr) s.ty=S1 at p;have hg:aZ.getD (x.nx[i][k]).to false=aZ[(x.nx[i][k]).to]'(by omega):=by rw[dF,aO (by omega)];rfl
   have H:of.getD (x.nx[i][k]).to 0=of[(x.nx[i][k]).to]'(by omega):=by rw[dF,aO (by omega)];rfl
   have C:(x.nx[i][k]).to<aZ.length:=by omega
   have M:(x.nx[i][k]).to<of.length:=by omega
   have d:hX aZ m x.nx[i][k]=(decide ((x.nx[i][k]).m=m)&&aZ[(x.nx[i][k]).to]):=by unfold hX;rw[hg]
   simp only[ab,ae]at q;simp only[Eg.c]at u p;simp only[Mv.c]at f;by_cases T:(x.nx[i][k]).m=m
   .rw[cV T]at f d;cases y:aZ[(x.nx[i][k]).to]
    .rw[y]at d;simp[U.tK,q,B,g,z,Q,ah,an,aj,u,p,f,C,y]at t;subst t;exact .inl ⟨λ_=>d,_,_,rfl,trivial,by simp[q]⟩
    rw[y]at d;simp[U.tK,q,B,g,z,ah,an,aj,u,p,f,C,M,y]at t;subst t;exact .inr ⟨λh=>(by rw[h g]at d;cases d),by simp,g,_,_,rfl,by rw[H];simp⟩
   rw[cu T]at f d;simp[U.tK,q,B,g,z,Q,ah,an,aj,u,p,f]at t;subst t;exact .inl ⟨λ_=>by rw[d];rfl,_,_,rfl,trivial,by simp[q]⟩)
  (λe s r _ q t=>by
   simp only[ab,ae]at q;simp[U.tK,q,B]at t;subst t;exact⟨_,_,rfl,trivial,by simp⟩)
 clear P;unfold nj;rcases X with⟨k,g,h1,h2,_,E,s',rfl,h3⟩|⟨D,E,s',rfl,_,_⟩
 .have hp:hX aZ m x.nx[i][k]=true:=by
   cases h:hX aZ m x.nx[i][k]
   .exact absurd (λ_=>h) h2
   rfl
  rw[G4 g (λj hj=>h1 j hj (by omega)) hp];simp[h3,aa]
 rw[IJ (λk g=>D k g g)];simp[aa]
def fu(x:Fa)(of:aQ)(aZ:ck)(a b:Nat):Bool:=
 decide (of.getD a 0=of.getD b 0)&&(pV (ga x.nx [a,b])).all λm=>decide (nj (x.nx.getD a []) of aZ m=nj (x.nx.getD b []) of aZ m)
def ig{α:Type}{l:List α}{i:Nat}(h:i<l.length)(d:α):l.getD i d=l[i]:=by rw[dF,aO h];rfl
def cJ.rows{x:Fa}(c:cJ x):∀r∈x.nx,r.length<=6000:=λr d=>by obtain⟨i,f,rfl⟩:=eH.1 d;exact c.row f
def agZ(x:Fa)(E:cJ x)(of:aQ)(y:of.length=x.nx.length)(aZ:ck)(V:aZ.length=x.nx.length)(a b:Nat)(P:a<x.nx.length)(Q:b<x.nx.length)(s:HS):
  R (.call 156 [.agg x.c,.psl (of.map iC),.psl (aZ.map bC),iV a,iV b] s)=.val (.bool (fu x of aZ a b)) s:=by
 refine ae5 ?_;have p:a<of.length:=by omega
 have q:b<of.length:=by omega
 unfold fu;rw[ig p,ig q,ig P,ig Q];by_cases g:of[a]=of[b]
 case neg=>rw[cu g];simp[U.RC,p,q,g,aa]
 rw[cV g,iI];have z:=Zm x.nx E.rows [a,b] (by simp) (by simp[P,Q]) s0;have Y:=sw (ga x.nx [a,b]);have T:=ud E.rows [a,b];generalize pV (ga x.nx [a,b])=d at*;have f:∀s,R (.call 142 [.agg [.psl (x.nx.map oM),.ai,.ai],.psl [[iV a],[iV b]]] s)=.val (.psl (d.map Mv.c)) s:=λs=>by
  refine yN 142 U.f142 _ [.agg [.psl (x.nx.map oM),.psl [],.psl []],.psl [[iV a],[iV b]]] _ s rfl rfl rfl ?_ (by simp[du,eh]) ?_ (by simp) z
  .have:=gA _ (pR x.nx);simp only[cC,cr,this,im,jS]
  have:=iQ _ (pR x.nx);simp only[oN,nn,this,qy]
 simp only[iV]at f;simp[U.RC,p,q,g,f];generalize X:bK R (.loop U.xO) _ _=o;simp only[aA,aE]at T;have Z:=jh X d.length (λk=>∀h:k<d.length,nj x.nx[a] of aZ d[k]=nj x.nx[b] of aZ d[k])
  (λk=>[(1,.psl (of.map iC)),(2,.psl (aZ.map bC)),(3,iV a),(4,iV b),(5,.ax x.c),(11,.psl (d.map Mv.c)),(12,iV k)]) [] 0
  (λk o=>∃H,o=.code .ret H s0/\look H 10=some (.bool false)) (by simp)
  (λk e r j t u=>by
   have B:(k:Int)<d.length:=by omega
   have M:=Zn x E of y aZ V a P d[k];have C:=Zn x E of y aZ V b Q d[k];simp only[ab,ae]at t;simp only[Fa.c,Mv.c]at M C;by_cases O:nj x.nx[a] of aZ d[k]=nj x.nx[b] of aZ d[k]
   .rw[O]at M;simp[U.xO,t,j,B,M,C,bj (n:=12000) (show k<12000 by omega) (by omega)]at u;subst u;exact .inl ⟨λ_=>O,_,rfl,by simp[t]⟩
   simp[U.xO,t,j,B,M,C,O]at u;subst u;exact .inr ⟨λh=>O (h j),by simp,_,rfl,by simp⟩)
  (λe r t u=>by
   simp only[ab,ae]at t;simp[U.xO,t]at u;subst u;exact⟨_,rfl,by simp⟩)
 clear X;rcases Z with⟨k,j,_,C,H,rfl,h3⟩|⟨D,H,rfl,_⟩
 .have:(d.all λm=>decide (nj x.nx[a] of aZ m=nj x.nx[b] of aZ m))=false:=by rw[Kp];exact⟨d[k],bX j,by simpa using λh=>C λ_=>h⟩
  rw[this];simp[h3,aa]
 have:(d.all λm=>decide (nj x.nx[a] of aZ m=nj x.nx[b] of aZ m))=true:=by rw[fw];intro m hm;obtain⟨k,j,rfl⟩:=eH.1 hm;simpa using D k j j
 rw[this];simp[aa]
def gN{x:Fa}{of:aQ}{aZ:ck}{a b:Nat}:fu x of aZ a b=true↔of.getD a 0=of.getD b 0/\∀m,nj (x.nx.getD a []) of aZ m=nj (x.nx.getD b []) of aZ m:=by
 unfold fu;simp only[aL,bL,fw];refine and_congr_right λ_=>⟨λh m=>?_,λh m _=>h m⟩
 by_cases d:m∈pV (ga x.nx [a,b])
 .exact h m d
 have c:∀r,(r=x.nx.getD a []∨r=x.nx.getD b [])->nj r of aZ m= -1:=by intro r g;unfold nj;rw[show r.find? (hX aZ m)=none from KD.2 λe j f=>?_];apply d;rw[G3];simp only[hX,aL,bL]at f;refine⟨e,?_,f.1⟩;unfold ga;rcases g with rfl|rfl<;>simp[<-List.getD_eq_getElem?_getD,j]
 rw[c _ (.inl rfl),c _ (.inr rfl)]
def FY{x:Fa}{of:aQ}{aZ:ck}(a:Nat):fu x of aZ a a=true:=gN.2 ⟨rfl,λ_=>rfl⟩
def rE{x:Fa}{of:aQ}{aZ:ck}{a b:Nat}(h:fu x of aZ a b=true):fu x of aZ b a=true:=by obtain⟨c,d⟩:=gN.1 h;exact gN.2 ⟨c.symm,λm=>(d m).symm⟩
def uS{x:Fa}{of:aQ}{aZ:ck}{a b c:Nat}(h:fu x of aZ a b=true)(k:fu x of aZ b c=true):fu x of aZ a c=true:=by obtain⟨d,f⟩:=gN.1 h;obtain⟨g,j⟩:=gN.1 k;exact gN.2 ⟨d.trans g,λm=>(f m).trans (j m)⟩
structure CG(A:Nat->Nat->Bool)(n:Nat)(fs:ay)(nt:aQ)(i:Nat):Prop where
 len:nt.length=n
 fl:fs.length<=i
 fb:∀k,(h:k<fs.length)->fs[k]<i/\nt[fs[k]]?=some (k:Int)
 cl:∀j,j<i->∃k,nt[j]?=some ((k:Nat):Int)/\∃h:k<fs.length,A fs[k] j=true
 ap:∀k k',(h:k<fs.length)->(h':k'<fs.length)->A fs[k] fs[k']=true->k=k'
section
variable{A:Nat->Nat->Bool}{n i:Nat}{fs:ay}{nt:aQ}
def CG.zero(h:nt.length=n):CG A n [] nt 0:=⟨h,by simp,λk h=>by simp at h,λj h=>by omega,λk c h=>by simp at h⟩
def CG.old(h:CG A n fs nt i)(u:i<n){k:Nat}(p:k<fs.length)(q:A fs[k] i=true):CG A n fs (nt.set i (k:Int)) (i+1):=by
 have r:=h.len;refine⟨by simp[r],by have:=h.fl;omega,λj f=>?_,λj f=>?_,h.ap⟩
 .obtain⟨g,c⟩:=h.fb j f;exact⟨by omega,by rw[ju (by omega)];exact c⟩
 by_cases d:j=i
 .subst d;exact⟨k,by rw[gF (by omega)],p,q⟩
 obtain⟨t,g,c⟩:=h.cl j (by omega);exact⟨t,by rw[ju (by omega)];exact g,c⟩
def CG.new(h:CG A n fs nt i)(H:i<n)(C:∀a,A a a=true)(D:∀a b,A a b=true->A b a=true)(z:∀k,(p:k<fs.length)->A fs[k] i=false):CG A n (fs++[i]) (nt.set i (fs.length:Int)) (i+1):=by
 have E:=h.len;have d:∀k,(p:k<(fs++[i]).length)->(∃h:k<fs.length,(fs++[i])[k]=fs[k])∨(k=fs.length/\(fs++[i])[k]=i):=by
  intro k p;by_cases c:k<fs.length
  .exact .inl ⟨c,DS c⟩
  simp only[cE,dM]at p;have:k=fs.length:=by omega
  subst this;exact .inr ⟨rfl,by simp⟩
 refine⟨by simp[E],by have:=h.fl;simp;omega,λk p=>?_,λj M=>?_,λk q p g r=>?_⟩
 .rcases d k p with⟨c,e⟩|⟨rfl,e⟩
  .obtain⟨B,u⟩:=h.fb k c;rw[e];exact⟨by omega,by rw[ju (by omega)];exact u⟩
  rw[e];exact⟨by omega,by rw[gF (by omega)]⟩
 .by_cases y:j=i
  .subst y;refine⟨fs.length,by rw[gF (by omega)],by simp,?_⟩;simp only[List.getElem_concat_length];exact C j
  obtain⟨q,B,g,u⟩:=h.cl j (by omega);exact⟨q,by rw[ju (by omega)];exact B,by simp;omega,by rw[DS g];exact u⟩
 rcases d k p with⟨c,e⟩|⟨rfl,e⟩
 .rcases d q g with⟨f,t⟩|⟨rfl,t⟩
  .rw[e,t]at r;exact h.ap k q c f r
  rw[e,t,z k c]at r;cases r
 rcases d q g with⟨f,t⟩|⟨rfl,t⟩
 .rw[e,t]at r;have:=D _ _ r;rw[z q f]at this;cases this
 rfl
def CG.iff(h:CG A n fs nt n)(f:∀a b,A a b=true->A b a=true)(d:∀a b c,A a b=true->A b c=true->A a c=true){i j:Nat}(r:i<n)(t:j<n):nt[i]?=nt[j]?↔A i j=true:=by
 obtain⟨k,u,y,g⟩:=h.cl i r;obtain⟨p,z,B,q⟩:=h.cl j t;rw[u,z];constructor
 .intro C;have:k=p:=by have:=kH C;omega
  subst this;exact d _ _ _ (f _ _ g) q
 intro D;have:=h.ap k p y B (d _ _ _ (d _ _ _ g D) (f _ _ q));rw[this]
end
def KE:∀(n:Nat) (l:ay),(∀k,k<n->k∈l)->n<=l.length
 |0,_,_=>fD _
 |n+1,l,d=>by
  obtain⟨p,f,g⟩:=eH.1 (d n (by omega));have j:=KE n (l.eraseIdx p) (λk t=>by
   obtain⟨q,r,c⟩:=eH.1 (d k (by omega));rw[TJ];exact⟨q,λh=>by subst h;omega,by rw[aO r,c]⟩)
  rw[TK f]at j;omega
def TL{n:Nat}{l:ay}(z:l.length<=n)(g:∀k,k<n->k∈l){i j:Nat}(p:i<l.length)(r:j<l.length)(t:l[i]=l[j]):i=j:=by
 apply Df;intro f;have:=KE n (l.eraseIdx i) (λk u=>by
  obtain⟨q,y,c⟩:=eH.1 (g k u);rw[TJ];by_cases d:q=i
  .subst d;exact⟨j,λh=>f h.symm,by rw[aO r,<-t,c]⟩
  exact⟨q,d,by rw[aO y,c]⟩)
 rw[TK p]at this;omega
structure OU(n:Nat)(of:aQ)(fs:ay):Prop where
 len:of.length=n
 cl:∀j,j<n->∃k,of[j]?=some ((k:Nat):Int)/\k<fs.length
 fb:∀k,(h:k<fs.length)->fs[k]<n/\of[fs[k]]?=some (k:Int)
def CG.TM{A:Nat->Nat->Bool}{n:Nat}{fs:ay}{nt:aQ}(h:CG A n fs nt n):OU n nt fs:=
 ⟨h.len,λj c=>by obtain⟨k,d,f,_⟩:=h.cl j c;exact⟨k,d,f⟩,h.fb⟩
def OU.G5{n:Nat}{of nt:aQ}{fs f:ay}(h:OU n of fs)(k:OU n nt f)(t:∀i j:Nat,i<n->j<n->nt[i]?=nt[j]?->of[i]?=of[j]?):
  fs.length<=f.length/\(f.length=fs.length->∀i j:Nat,i<n->j<n->of[i]?=of[j]?->nt[i]?=nt[j]?):=by
 have B:∀p,p<fs.length->p∈f.map λg=>(of.getD g 0).toNat:=by intro p O;obtain⟨C,P⟩:=h.fb p O;obtain⟨c,r,q⟩:=k.cl _ C;obtain⟨u,y⟩:=k.fb c q;have:=t _ _ u C (by rw[y,r]);rw[dA];refine⟨f[c],bX q,?_⟩;rw[dF,this,P];simp
 have hlen:=KE fs.length _ B;rw[bH]at hlen;refine⟨hlen,λY i j D E z=>?_⟩;obtain⟨c,r,q⟩:=k.cl i D;obtain⟨d,H,M⟩:=k.cl j E;obtain⟨u,y⟩:=k.fb c q;obtain⟨Q,T⟩:=k.fb d M;have V:=t _ _ u D (by rw[y,r]);have X:=t _ _ Q E (by rw[T,H]);have:=TL (l:=f.map λg=>(of.getD g 0).toNat) (n:=fs.length) (by simp;omega) B (i:=c) (j:=d) (by simpa using q) (by simpa using M) (by
  simp only[Ch,dF,V,X,z])
 subst this;rw[r,H]
structure Bis(x:Fa)(aZ:ck)(B:Nat->aG):Prop where
 fi:∀a b,B a b->a<x.nx.length/\b<x.nx.length/\x.fi[a]?=x.fi[b]?/\aZ[a]?=aZ[b]?
 st:∀a b,B a b->∀m,match(x.nx.getD a []).find? (hX aZ m),(x.nx.getD b []).find? (hX aZ m)with|none,none=>True|some e,some e'=>B e.to e'.to|_,_=>False
def KF(x:Fa)(aZ:ck)(i:Nat):Int:=if x.fi.getD i false then 2 else if aZ.getD i false then 1 else 0
structure OV(x:Fa)(aZ:ck)(of:aQ):Prop where
 len:of.length=x.nx.length
 ge:∀(i:Nat) (c:Int),of[i]?=some c->0<=c
 ag0:∀i j:Nat,i<x.nx.length->j<x.nx.length->of[i]?=of[j]?->KF x aZ i=KF x aZ j
 coarse:∀B,Bis x aZ B->∀i j:Nat,B i j->of[i]?=of[j]?
def l9{α:Type}{l:List α}{i j:Nat}(h:l[i]?=l[j]?)(d:α):l.getD i d=l.getD j d:=by rw[dF,dF,h]
def OV.next{x:Fa}{aZ:ck}{of nt:aQ}{fs:ay}(h:OV x aZ of)(r:CG (fu x of aZ) x.nx.length fs nt x.nx.length):OV x aZ nt/\∀i j:Nat,i<x.nx.length->j<x.nx.length->nt[i]?=nt[j]?->of[i]?=of[j]?:=by
 have f:=λ{i j}=>r.iff (λa b=>rE) (λa b c=>uS) (i:=i) (j:=j)
 have g:∀i j:Nat,i<x.nx.length->j<x.nx.length->nt[i]?=nt[j]?->of[i]?=of[j]?:=by intro i j d p u;have:=(gN.1 ((f d p).1 u)).1;rw[ig (by rw[h.len];exact d),ig (by rw[h.len];exact p)]at this;rw[aO (by rw[h.len];exact d),aO (by rw[h.len];exact p),this]
 refine⟨⟨r.len,λi c y=>?_,λi j d p u=>h.ag0 i j d p (g i j d p u),λB t i j q=>?_⟩,g⟩
 .have d:i<x.nx.length:=by rw[<-r.len];exact(aV.1 y).1
  obtain⟨k,D,_⟩:=r.cl i d;rw[D]at y;cases y;omega
 obtain⟨d,p,_,_⟩:=t.fi i j q;refine(f d p).2 (gN.2 ⟨l9 (h.coarse B t i j q) 0,λm=>?_⟩);have qz:=t.st i j q m;unfold nj
 split at qz
 .rename_i z C;rw[z,C]
 .rename_i e E z C;rw[z,C];exact l9 (h.coarse B t _ _ qz) 0
 exact qz.elim
structure VP(x:Fa)(aZ:ck)(r:aQ):Prop where
 cls:OV x aZ r
 st:∀i j:Nat,i<x.nx.length->j<x.nx.length->r[i]?=r[j]?->∀m,nj (x.nx.getD i []) r aZ m=nj (x.nx.getD j []) r aZ m
def OV.ag1{x:Fa}(O:cJ x){aZ:ck}{of nt:aQ}{fs H:ay}(h:OV x aZ of)(P:OU x.nx.length of fs)(u:CG (fu x of aZ) x.nx.length H nt x.nx.length)(Q:H.length=fs.length):VP x aZ nt:=by
 obtain⟨T,V⟩:=h.next u
 obtain⟨_,y⟩:=P.G5 u.TM V;have y:=y Q;have q:=λ{i j}=>u.iff (λa b=>rE) (λa b c=>uS) (i:=i) (j:=j)
 refine⟨T,λi j r z B m=>?_⟩;have d:=(gN.1 ((q r z).1 B)).2 m;have f:∀(i:Nat) (e:Eg),i<x.nx.length->(x.nx.getD i []).find? (hX aZ m)=some e->e.to<x.nx.length/\0<=of.getD e.to 0:=by intro i e r X;have M:=FQ X;rw[ig r]at M;have g:=O.to _ (bX r) e M;refine⟨g,?_⟩;rw[ig (by rw[h.len];exact g)];exact h.ge e.to _ (aO (by rw[h.len];exact g))
 unfold nj at d ⊢;cases t:(x.nx.getD i []).find? (hX aZ m)with
 |none=>cases p:(x.nx.getD j []).find? (hX aZ m)with|none=>rfl|some C=>rw[t,p]at d;have:=(f j C z p).2;simp only at d;omega
 |some e=>obtain⟨D,Y⟩:=f i e r t;cases p:(x.nx.getD j []).find? (hX aZ m)with|none=>rw[t,p]at d;simp only at d;omega|some C=>obtain⟨E,Z⟩:=f j C z p;rw[t,p]at d;simp only at d ⊢;refine l9 (y _ _ D E ?_) 0;rw[ig (by rw[h.len];exact D),ig (by rw[h.len];exact E)]at d;rw[aO (by rw[h.len];exact D),aO (by rw[h.len];exact E),d]
def OW(s:HS):R (.call 12 [] s)=.val (.bool true) s:=Tg 12 s rfl rfl rfl rfl
def AS(i:Nat)(id arg:Int):∀(ps:pP) (j:Nat),(yE i j ps).find? (dr id arg)=if id=i+1/\(j:Int)+1<=arg/\arg<=j+ps.length then(ps[(arg-1-j).toNat]?).map (λb=>⟨id,arg,b,true⟩)else none
 |[],j=>by rw[yE,aq (by simp;omega)];rfl
 |b::r,j=>by
  have d:=AS i id arg r (j+1);rw[yE,ue,d];by_cases h:dr id arg ⟨(i:Int)+1,(j:Int)+1,b,true⟩=true
  .rw[h];simp[dr]at h;obtain⟨f,g⟩:=h;simp only[aA];rw[ar (by omega),show(arg-1-(j:Int)).toNat=0 by omega];simp[f,g]
  have p:dr id arg ⟨(i:Int)+1,(j:Int)+1,b,true⟩=false:=by simpa using h
  rw[p];simp[dr]at h;simp only[aA];by_cases c:id=(i:Int)+1/\((j+1:Nat):Int)+1<=arg/\arg<=((j+1:Nat):Int)+r.length
  .rw[ar c,ar (by omega),show(arg-1-(j:Int)).toNat=(arg-1-((j+1:Nat):Int)).toNat+1 by omega];simp
  rw[aq c,aq (by omega)]
def AT(jumps:Bool)(id arg:Int):∀(ids:sq) (i:Nat),(tY jumps i ids).find? (dr id arg)=if(i:Int)+1<=id/\id<=i+ids.length then
      match ids[(id-1-i).toNat]?with|none=>none|some t=>if arg=0 then some ⟨id,0,t.res,jumps||decide (0<t.ps.length)⟩else if 1<=arg/\arg<=t.ps.length then(t.ps[(arg-1).toNat]?).map (λb=>⟨id,arg,b,true⟩)else none
    else none
  |[],i=>by rw[tY,aq (by simp;omega)];rfl
  |t::r,i=>by
    have g:=AT jumps id arg r (i+1);rw[tY,ue,List.find?_append,AS,g];simp only[aA];by_cases hid:id=i+1
    . rw[ar (show(i:Int)+1<=id/\id<=i+((r.length+1:Nat):Int) by omega),show(id-1-(i:Int)).toNat=0 by omega]
      rw[aq (show¬(((i+1:Nat):Int)+1<=id/\id<=((i+1:Nat):Int)+r.length) by omega)];simp only[yM,Option.or_none];by_cases d:arg=0
      . subst d
        simp[dr,hid]
      have c:dr id arg ⟨(i:Int)+1,0,t.res,jumps||decide (0<t.ps.length)⟩=false:=by simp[dr];omega
      rw[c,aq d];simp only[hid,Bq,TN,Int.zero_add,Int.sub_zero]
    have c:dr id arg ⟨(i:Int)+1,0,t.res,jumps||decide (0<t.ps.length)⟩=false:=by simp[dr];omega
    rw[c,aq (show¬(id=(i:Int)+1/\((0:Nat):Int)+1<=arg/\arg<=((0:Nat):Int)+t.ps.length) by omega)];simp only[Option.none_or];by_cases f:((i+1:Nat):Int)+1<=id/\id<=((i+1:Nat):Int)+r.length
    . rw[ar f,ar (by omega),show(id-1-(i:Int)).toNat=(id-1-((i+1:Nat):Int)).toNat+1 by omega]
      simp
    rw[aq f,aq (by omega)]
def Ci(a:Ar)(id arg:Int):iA a id arg=(cI a id arg).map (λg=>⟨id,arg,g.1,g.2⟩):=by
 unfold iA su cI;rw[ue,AT];by_cases h:id=0/\arg=0
 .rw[ar h];obtain⟨rfl,rfl⟩:=h;simp[dr]
 have j:dr id arg ⟨0,0,a.root,a.jumps⟩=false:=by simp[dr];omega
 rw[j,aq h];simp only[TN,Int.zero_add,Int.sub_zero];by_cases c:1<=id/\id<=(a.ids.length:Int)
 .rw[ar c,ar c];cases a.ids[(id-1).toNat]?with|none=>rfl|some t=>
   simp only;by_cases f:arg=0
   .subst f;simp;cases t.ps<;>simp
   rw[aq f,aq f];by_cases d:1<=arg/\arg<=(t.ps.length:Int)
   .rw[ar d,ar d,Option.map_map];rfl
   rw[aq d,aq d];rfl
 rw[aq c,aq c];rfl
def qq(a:Ar)(m:Mv):II a m=eO a m:=by unfold II eO cw lA;rw[Ci];cases cI a m.id m.arg with|none=>simp|some c=>simp[oe]
def DT{a:Ar}{id arg:Int}{c:Bs×Bool}(h:cI a id arg=some c):0<=id/\0<=arg/\(0<arg->0<id):=by
 unfold cI at h
 split at h
 .rename_i h0;omega
 split at h
 .rename_i d
  split at h
  .cases h
  split at h
  .omega
  split at h
  .omega
  cases h
 cases h
def fv{a:Ar}{m:Mv}(h:eO a m=true):0<=m.id/\0<=m.arg/\(0<m.arg->0<m.id)/\(m.kind=1∨m.kind=2∨m.kind=3)/\(m.kind=3-> -1<=m.n):=by
 obtain⟨b,e,c⟩:=lB h;obtain⟨d,f,g⟩:=DT c;unfold eO cw lA at h;rw[c]at h;simp only[dk,lZ,bL,bm,cG,dA]at h;refine⟨d,f,g,?_⟩;rcases h with(h|⟨k,_,h⟩)|(h|⟨k,_,h⟩)
 .rw[h];simp
 .rw[<-h];simp[Cd]
 .split at h
  .simp at h;rw[h];simp
  cases h
 rw[<-h];simp[oE];try omega
def sx{a:Ar}{m:Mv}(h:eO a m=true):cz m= !fO m:=by obtain⟨_,_,_,c,_⟩:=fv h;unfold cz fO;rcases c with c|c|c<;>simp[c]
structure zW(t:Tk)(x:Wk):Prop where
 e:t.x=x
 f:t.force=bk x.w
 has:∀m∈x.w,eO x.a m=true
 pT:(x.op.length:Int)<=x.pT
def KG{x:Wk}{q:Mv}(h:fZ x=some q):q∈x.w:=by
 unfold fZ at h
 split at h
 .cases h
 exact cH h
def zW.can{t:Tk}{x:Wk}(h:zW t x)(P:iz x){m:Mv}(z:eO x.a m=true):zV t m=fA x m:=by
 obtain⟨g,Z,force⟩:=t;obtain⟨rfl,Q,c,_⟩:=h;simp only at Q P z c ⊢;obtain⟨m1,m2,m3,m4,T⟩:=fv z;have r:=sx z;unfold zV fA;simp only[z,iI];by_cases u:g.w=[]
 .have cO:g.op=[]:=iJ (by have:=P.DO;rw[u]at this;simpa using this);have D:fZ g=none:=by unfold fZ;rw[cO];rfl
  rw[D,ar u,r];simp only[u,Ku,eV,iI];by_cases h0:m.id=0
  .have:m.arg=0:=by omega
   simp[h0,this]
  simp[h0]
 rw[aq u];cases D:fZ g with
 |none=>simp[u]
 |some q=>
  obtain⟨q1,q2,V,q4,q5⟩:=fv (c q (KG D));have X:fO m=true->bQ m=false->(m.n<=0↔m.n=0):=by
   simp only[fO,bQ,bL,As];intro B j;have:=T B;have d:m.n≠ -1:=λd=>j ⟨B,d⟩
   omega
  simp only[r,<-Q];cases C:fO m
  .have E:iy q m=false:=by unfold iy;simp only[fO,As]at C;simp[C]
   simp only[E,yJ,yO,cy,bp,bf];rw[FZ force];cases Y:(g.lost||force)
   .simp only[cy,bp,wc,CE];by_cases B:0<q.id<;>by_cases j:q.arg=0<;>simp[B,j];rw[qI];simp;constructor
    .rintro⟨⟨H,d⟩,M⟩;exact⟨M,d⟩
    rintro⟨M,d⟩;exact⟨⟨by omega,d⟩,M⟩
   simp
  have O:m.kind=3:=by simpa[fO]using C
  have y:iy q m=(Ku m q.id q.arg&&(decide (q.kind=1)||decide (m.n<=0))):=by unfold iy Ku;rw[qI];simp[O,and_assoc]
  simp only[bf,oC,cy,bp,y];cases ha:Ku m q.id q.arg
  .simp
  unfold NH;simp only[iI];rw[FZ force];cases Y:(g.lost||force)
  .simp only[cy,bp];cases p:bQ m
   .have:=X C p;simp only[cy,false_and,bp];rw[qI];simp[this]
   have f:m.n= -1:=by simp[bQ]at p;exact p.2
   simp only[f,Bq,bf,wc,CE];by_cases j:q.arg=0
   .simp[j]
   have H:0<q.arg:=by omega
   have d:=V H;simp[j,H,d]
  simp only[bf];cases p:bQ m
  .simp
  have f:m.n= -1:=by simp[bQ]at p;exact p.2
  simp[f]
def ij(w:aP)(m:Mv):bk (w++[m])=(bQ m&&decide (0<m.arg)):=by unfold bk;simp
def zW.step{t:Tk}{x:Wk}(h:zW t x)(X:iz x){m:Mv}(u:fA x m=true):zW (mZ t m) (bI x m):=by
 have y:=lC u;have q:=sx y;obtain⟨Z,m2,P,m4,m5⟩:=fv y;obtain⟨c,fo,force⟩:=t;obtain⟨rfl,Q,g,j⟩:=h;simp only at Q g j y u X;have T:∀z∈c.w++[m],eO c.a z=true:=by
  intro z d;rcases cG.1 d with d|d
  .exact g z d
  simp at d;subst d;exact y
 cases r:fO m
 .have f:cz m=true:=by rw[q,r];rfl
  have Y:=DP r;have B:(if wc m then(0:Int)else if CE m then Cg c else-1)=if 0<m.arg then((c.op.getLastD 0:Nat):Int)else if 0<m.id then 0 else-1:=by
   by_cases p:0<m.arg
   .have C:=P p;have D:¬m.arg=0:=by omega
    have cO:c.op≠ []:=by
     by_cases V:c.w=[]
     .have:=(et u V).1;omega
     exact ie u V
    simp only[wc,CE,p,C,D,eV,lb,yK,jS,bf,cy,bp];unfold Cg;rcases ly c.op with E|⟨k,n,E⟩
    .exact absurd E cO
    rw[E];simp
   have H:m.arg=0:=by omega
   by_cases C:0<m.id<;>simp[wc,CE,H,C]
  unfold mZ bI;simp only[r,f,cy,bp,bf,B];refine⟨rfl,?_,T,?_⟩
  .simp only[ij,Y,yJ]
  simp only[cE,dM];omega
 have f:cz m=false:=by rw[q,r];rfl
 have M:(c.lost||bQ m&&wc m&& !force)=(c.lost||bQ m&&decide (0<m.id)&&decide (m.arg=0)&& !bk c.w):=by rw[<-Q];unfold wc;simp only[FE]
 have O:max c.pT (c.op.dropLast.length:Int)=c.pT:=by rw[TO];omega
 unfold mZ bI;simp only[r,f,cy,bp,bf,M,O];refine⟨rfl,?_,T,?_⟩
 .simp only[ij];unfold CE;by_cases p:0<m.arg
  .simp[p,P p]
  simp[p]
 simp only[TO];omega
def yP:∀(w:aP) (t:Tk) (x:Wk),zW t x->iz x->x.w.length+w.length<=400->(dm t w).x=(cW x w).1/\(dm t w).x.w.length=x.w.length+(cW x w).2
 |[],t,x,h,_,_=>⟨h.e,by simp only[dm,cW,h.e,fR]⟩
 |m::r,t,x,h,g,u=>by
  simp only[aA]at u;simp only[dm,cW,qq,h.e];by_cases j:eO x.a m=true
  .rw[j,h.can g j,iI];by_cases d:fA x m=true
   .rw[d];simp only[bf];have cO:cz m=false->x.op≠ []:=λy=>by
     by_cases q:x.w=[]
     .have:=(et d q).2;rw[y]at this;cases this
     exact ie d q
    have p:=yP r (mZ t m) (bI x m) (h.step g d) (g.take (by omega) cO) (by rw[gM];simp;omega);rw[gM,cE,dM]at p;exact⟨p.1,by rw[p.2];omega⟩
   have c:fA x m=false:=by simpa using d
   rw[c];exact⟨h.e,by simp[h.e]⟩
  have f:eO x.a m=false:=by simpa using j
  have c:fA x m=false:=by unfold fA;rw[f];rfl
  rw[f,c];exact⟨h.e,by simp[h.e]⟩
def zW.zero(a:Ar):zW (nA a) (gT a):=⟨rfl,rfl,by simp[gT],by simp[gT]⟩
def uT(a:Ar)(ok:dj a)(w:aP):iP a w=(fp a w).2:=by
 unfold iP fp;by_cases c:aB a=0
 .by_cases d:w.length<=400
  .have h:=yP w (nA a) (gT a) (zW.zero a) (iz.zero ok c) (by simp[gT];omega);have f:=h.2;rw[show(gT a).w.length=0 from rfl,bw]at f;rw[f];by_cases g:(cW (gT a) w).2<w.length<;>simp[c,d,g,show¬400<w.length by omega]
  rw[ar c,aq d,aq (by simp[c]),ar (by omega)]
 rw[aq c,ar c]
def mb(a:Ar)(id:Int)(w:aP)(ok:dj a):na a id w=pU a id w:=by
 unfold na pU;rw[uT a ok w];by_cases d:aB a=0
 .rw[aq (show¬aB a≠0 by simp[d])];by_cases c:(fp a w).2=0
  .rw[ar c,aq (show¬(fp a w).2≠0 by simp[c])];by_cases f:1<=id/\id<=(a.ids.length:Int)
   .rw[ar f,aq (by omega)]
   rw[aq f,ar (by omega)]
  rw[aq c,ar c]
 have c:(fp a w).2=aB a:=by unfold fp;rw[ar d]
 rw[ar d,c,aq d]
def yQ(a:Ar)(ok:dj a)(c:aB a=0)(w:aP)(d:w.length<=400):(dm (nA a) w).x=(cW (gT a) w).1:=
 (yP w (nA a) (gT a) (zW.zero a) (iz.zero ok c) (by simp[gT];omega)).1
def zX(a:Ar)(id:Int)(w:aP)(ok:dj a):ub a id w=FL a id w:=by
 unfold ub FL;rw[mb a id w ok];by_cases h:pU a id w=0
 .obtain⟨c,d,_⟩:=od h;rw[ar h,ar h,yQ a ok c w (tW c d)]
 rw[aq h,aq h]
def Zo(w:aP)(c:aQ):Prop:=∀i m,w[i]?=some m->0<m.id->¬(m.arg=0/\m.kind≠3)->∃(j:Nat) (q:Mv),c[i]?=some (j:Int)/\j<i/\w[j]?=some q/\q.id=m.id/\q.kind≠3
structure Inv(x:Wk):Prop where
 js:Zo x.w x.js
 op:∀n∈x.op,∃q,x.w[n]?=some q/\q.kind≠3
def DU{α:Type}{l:List α}{y:α}{i:Nat}{z:α}(h:(l++[y])[i]?=some z):(i<l.length/\l[i]?=some z)∨(i=l.length/\z=y):=by
 rw[Km]at h
 split at h
 .rename_i c;exact .inl ⟨c,h⟩
 rename_i c;obtain⟨f,d⟩:=aV.1 h;simp only[dM]at f;have h0:i-l.length=0:=by omega
 simp[h0]at d;exact .inr ⟨by omega,d.symm⟩
def cX{α:Type}{l:List α}{y z:α}{i:Nat}(h:l[i]?=some z):(l++[y])[i]?=some z:=by rw[ek (aV.1 h).1];exact h
def Inv.step{x:Wk}(h:Inv x)(Y:iz x)(Z:∀m∈x.w,eO x.a m=true){m:Mv}(c:fA x m=true):Inv (bI x m):=by
 have M:=lC c;have D:=sx M;obtain⟨m1,m2,m3,m4,m5⟩:=fv M;have E:=Y.I7;have hold:∀(y:Int),∀i g,i<x.w.length->x.w[i]?=some g->0<g.id->¬(g.arg=0/\g.kind≠3)->∃(j:Nat) (q:Mv),(x.js++[y])[i]?=some (j:Int)/\j<i/\(x.w++[m])[j]?=some q/\q.id=g.id/\q.kind≠3:=by intro y i g O h1 H B;obtain⟨j,q,g1,g2,g3,g4,g5⟩:=h.js i g h1 H B;exact⟨j,q,cX g1,g2,cX g3,g4,g5⟩
 have u:x.op≠ []->∃n q,x.op.getLastD 0=n/\x.w[n]?=some q/\q.kind≠3/\fZ x=some q/\n<x.w.length:=by
  intro ho;rcases ly x.op with f|⟨k,n,f⟩
  .exact absurd f ho
  obtain⟨q,C,p⟩:=h.op n (by rw[f];simp);exact⟨n,q,by rw[f];simp,C,p,by unfold fZ;rw[f];simpa using C,Y.op n (by rw[f];simp)⟩
 cases p:fO m
 .have d:cz m=true:=by rw[D,p];rfl
  have r:m.kind≠3:=by simpa[fO]using p
  unfold bI;rw[ar d];refine⟨?_,?_⟩
  .intro i g z H B;rcases DU z with⟨O,z⟩|⟨rfl,rfl⟩
   .exact hold _ i g O z H B
   have ha:0<g.arg:=by
    have:g.arg≠0:=λh0=>B ⟨h0,r⟩
    omega
   have t:x.w≠ []:=λt=>by have:=(et c t).1;omega
   obtain⟨n,q,P,Q,T,V,X⟩:=u (ie c t);refine⟨n,q,?_,X,cX Q,?_,T⟩
   .simp only[ar ha,P];rw[gu (by omega),E];simp
   unfold fA at c;rw[aq t,V,M]at c;simp only[iI]at c
   split at c
   .simp[iy,r]at c
   split at c
   .simp at c;exact c.1.symm
   simp at c;omega
  intro n f;rcases cG.1 f with f|f
  .obtain⟨q,C,p⟩:=h.op n f;exact⟨q,cX C,p⟩
  simp at f;subst f;exact⟨m,by simp,r⟩
 have d:cz m=false:=by rw[D,p];rfl
 have r:m.kind=3:=by simpa[fO]using p
 have t:x.w≠ []:=λt=>by have:=(et c t).2;rw[d]at this;cases this
 obtain⟨n,q,P,Q,T,V,X⟩:=u (ie c t);have hid:q.id=m.id:=by
  unfold fA at c;rw[aq t,V,M]at c;simp only[iI,d,cy,bp]at c
  split at c
  .simp[iy]at c;exact c.1.1.symm
  split at c
  .simp[iy]at c;exact c.1.1.1.symm
  simp[iy]at c;exact c.1.symm
 unfold bI;rw[d];simp only[cy,bp];refine⟨?_,?_⟩
 .intro i g z H B;rcases DU z with⟨O,z⟩|⟨rfl,rfl⟩
  .exact hold _ i g O z H B
  refine⟨n,q,?_,X,cX Q,hid,T⟩;rw[P];simp only;rw[gu (by omega),E];simp
 intro k f;obtain⟨q,C,p⟩:=h.op k ((Cf _).subset f);exact⟨q,cX C,p⟩
def G6:∀(w:aP) (x:Wk),Inv x->iz x->(∀m∈x.w,eO x.a m=true)->x.w.length+w.length<=400->Inv (cW x w).1/\(cW x w).1.w=x.w++w.take (cW x w).2
 |[],x,h,_,_,_=>⟨h,by simp[cW]⟩
 |m::r,x,h,f,g,q=>by
  simp only[aA]at q;rw[cW];by_cases d:fA x m=true
  .rw[ar d];have cO:cz m=false->x.op≠ []:=λt=>by
    by_cases j:x.w=[]
    .have:=(et d j).2;rw[t]at this;cases this
    exact ie d j
   obtain⟨u,p⟩:=G6 r (bI x m) (h.step f g d) (f.take (by omega) cO) (by
    rw[gM,wb];intro y c;rcases cG.1 c with c|c
    .exact g y c
    simp at c;subst c;exact lC d) (by rw[gM];simp;omega)
   refine⟨u,?_⟩;rw[gM]at p;simp only[p,yG];simp
  rw[aq d];exact⟨h,by simp⟩
def yR(c:aQ)(id:Int)(w:aP){j:Nat}{k:Int}:∀(d i:Nat),i+d<=w.length->(eR c id w i).1[j]?=some k->(eR c id w (i+d)).1[j]?=some k/\(eR c id w i).2.length<=(eR c id w (i+d)).2.length
 |0,i,_,h=>⟨h,aY _⟩
 |d+1,i,q,h=>by
  obtain⟨f,g⟩:=yR c id w d i (by omega) h;have p:=aO (show i+d<w.length by omega);rw[<-Nat.add_assoc,eR];unfold qN;rw[p];simp only
  split
  .exact⟨cX f,g⟩
  split
  .exact⟨cX f,by simp only[cE];omega⟩
  split
  .exact⟨cX f,g⟩
  exact⟨cX f,by simp only[iM];exact g⟩
def Cj{c:aQ}{id:Int}{w:aP}(hid:0<id)(h:Zo w c):oa c id w:=by
 have main:∀(i:Nat) (m:Mv),w[i]?=some m->m.id=id->m.kind≠3->∃k:Nat,(eR c id w (i+1)).1[i]?=some (k:Int)/\k<(eR c id w (i+1)).2.length:=by
  intro i
  induction i using Nat.strongRecOn with
  |_ i E=>
   intro m d f H;have M:=(aV.1 d).1;obtain⟨C,X,_⟩:=qp c id w i (by omega);rw[eR];unfold qN;rw[d];simp only;rw[aq (by simp[f])];by_cases p:m.arg=0
   .rw[ar ⟨p,H⟩];exact⟨(eR c id w i).2.length,by simp[C]⟩
   rw[aq (by simp[p]),aq (by simp[p])];obtain⟨j,q,r,D,t,O,u⟩:=h i m d (by omega) (by simp[p]);obtain⟨k,y,P⟩:=E j D q t (by omega) u;obtain⟨g,z⟩:=yR c id w (i-(j+1)) (j+1) (by omega) y;rw[show j+1+(i-(j+1))=i by omega]at g z;have Q:c.getD i 0=(j:Int):=by rw[dF,r];rfl
   have T:(eR c id w i).1.getD j 0=(k:Int):=by rw[dF,g];rfl
   refine⟨k,?_,?_⟩
   .simp only[Q,jy,T];rw[gu (by omega)];simp[C]
   simp only[iM];omega
 intro i m d f B V;have M:=(aV.1 d).1;obtain⟨j,q,r,D,t,O,u⟩:=h i m d (by omega) B;obtain⟨k,y,P⟩:=main j q t (by omega) u;obtain⟨g,z⟩:=yR c id w (i-(j+1)) (j+1) (by omega) y;rw[show j+1+(i-(j+1))=i by omega]at g z;exact⟨j,k,r,g,by omega⟩
def lE{a:Ar}(h:aB a=0):dj a:=by
 unfold aB at h
 split at h
 .cases h
 rename_i c;refine⟨by omega,λt d=>?_⟩;have:¬(a.ids.any iN=true):=λf=>c (.inr f)
 simp only[mO,not_exists,not_and]at this;have:=this t d;simp only[iN,bL]at this;omega
def OX:Y8:=by
 intro a id w h;obtain⟨c,d,t,_⟩:=od h;have ok:=lE c;have u:=tW c d;obtain⟨j,p⟩:=G6 w (gT a) ⟨λi m h=>by simp[gT]at h,λn q=>by simp[gT]at q⟩ (iz.zero ok c) (by simp[gT]) (by simp[gT];omega);have f:¬(cW (gT a) w).2<w.length:=by intro f;unfold fp at d;simp[c,f,show¬400<w.length by omega]at d
 have r:(cW (gT a) w).1.w=w:=by rw[p];show []++w.take _=w;rw[bD,iZ (by omega)]
 have g:=j.js;rw[r]at g;exact Cj (by omega) g
def F0:FV:=by intro a id w h;have c:=(gE (j4 h)).1;have d:=(gE (j4 h)).2.1;have ok:=lE c;rw[yQ a ok c w d];rw[mb a id w ok]at h;exact OX a id w h
def gO(a:Ar)(id:Int):Ar:=match a.ids[(id-1).toNat]?with|none=>⟨[],⟨false,0⟩,false⟩|some t=>⟨t.ps.map (λb=>⟨[],b⟩),t.res,a.jumps|| !t.ps.isEmpty⟩
def IK(a:Ar){id:Int}(d:1<=id)(f:id<=a.ids.length)(arg:Int):cI (gO a id) arg 0=cI a id arg:=by
 have p:(id-1).toNat<a.ids.length:=by omega
 obtain⟨t,q⟩:∃t,a.ids[(id-1).toNat]?=some t:=⟨_,aO p⟩;unfold cI gO;rw[q];have h0:¬(id=0/\arg=0):=by omega
 by_cases g:arg=0
 .subst g;simp[d,f,show¬id=0 by omega]
 by_cases c:1<=arg/\arg<=(t.ps.length:Int)
 .have h:(arg-1).toNat<t.ps.length:=by omega
  have j:t.ps.isEmpty=false:=by cases r:t.ps with|nil=>rw[r]at h;simp at h|cons=>rfl
  have u:=aO h;rw[aq (by omega),ar (by simpa using c),aq h0,ar ⟨d,f⟩];simp only[fW,u,Option.map_some,aq g,ar c,j];simp
 rw[aq (by omega),aq (by simpa using c),aq h0,ar ⟨d,f⟩];simp only[aq g,aq c]
def zY(b:Bs)(id arg:Int)(m:Mv)(c:m.id=id)(d:m.arg=arg):m∈dk b id arg↔bJ m∈dk b arg 0:=by obtain⟨f,g,mk,mn⟩:=m;simp only at c d;subst c;subst d;simp[dk,bJ,Cd]
def KH(b:Bs)(e:Bool)(id arg:Int)(m:Mv)(c:m.id=id)(d:m.arg=arg):m∈lZ b e id arg↔bJ m∈lZ b e arg 0:=by obtain⟨f,g,mk,mn⟩:=m;simp only at c d;subst c;subst d;cases e<;>simp[lZ,bJ,oE]
def wh(a:Ar){id:Int}(d:1<=id)(f:id<=a.ids.length){m:Mv}(g:m.id=id):eO (gO a id) (bJ m)=eO a m:=by
 unfold eO cw lA;have h:cI (gO a id) (bJ m).id (bJ m).arg=cI a m.id m.arg:=by rw[g];exact IK a d f m.arg
 rw[h];cases cI a m.id m.arg with|none=>simp|some c=>simp only[zY c.1 m.id m.arg m rfl rfl,KH c.1 c.2 m.id m.arg m rfl rfl];rfl
def IL(a:Ar){id:Int}(h:1<=id)(j:id<=a.ids.length){m:Mv}(p:m.id=id)(u:0<m.arg)(q:eO a m=true):(gO a id).jumps=true:=by
 obtain⟨b,e,c⟩:=lB q;have r:(id-1).toNat<a.ids.length:=by omega
 obtain⟨t,f⟩:∃t,a.ids[(id-1).toNat]?=some t:=⟨_,aO r⟩;rw[p]at c;unfold cI at c;rw[aq (by omega),ar ⟨h,j⟩,f]at c;simp only at c;rw[aq (by omega)]at c
 split at c
 .rename_i g;unfold gO;rw[f];have:t.ps.isEmpty=false:=by cases d:t.ps with|nil=>rw[d]at g;simp at g;omega|cons=>rfl
  simp only[this,yO,TF]
 cases c
def AU:∀(v:aP) (x y:Wk) (m:Mv),cW x v=(y,v.length)->fA y m=true->cW x (v++[m])=(bI y m,v.length+1)
 |[],x,y,m,h,c=>by simp only[cW,oD]at h;obtain⟨rfl,_⟩:=h;simp[cW,c]
 |n::v,x,y,m,h,c=>by
  simp only[cW,aA]at h;by_cases d:fA x n=true
  .rw[ar d,oD]at h;have f:=AU v (bI x n) y m (by rw[<-h.1];exact Prod.ext rfl (by have:=h.2;simp only;omega)) c;simp only[bB,cW,ar d,f,aA]
  rw[aq d,oD]at h;omega
def G7(a:Ar)(v:aP)(y:Wk):Prop:=cW (gT a) v=(y,v.length)
def G7.snoc{a:Ar}{v:aP}{y:Wk}{m:Mv}(h:G7 a v y)(c:fA y m=true):G7 a (v++[m]) (bI y m):=by unfold G7;rw[AU v _ y m h c];simp
def G7.nil(a:Ar):G7 a [] (gT a):=rfl
def KJ:∀(v:aP) (x:Wk),(cW x v).1.w=x.w++v.take (cW x v).2/\(cW x v).1.a=x.a
 |[],x=>by simp[cW]
 |m::r,x=>by
  rw[cW]
  split
  .obtain⟨c,d⟩:=KJ r (bI x m);rw[gM]at c;rw[wb]at d;simp[c,d]
  simp
def G7.w{a:Ar}{v:aP}{y:Wk}(h:G7 a v y):y.w=v/\y.a=a:=by obtain⟨c,d⟩:=KJ v (gT a);rw[h]at c d;simpa[gT]using And.intro c d
def vD{W:aP}{i:Nat}(d:i<=W.length):bk (W.take i)=dC W i:=by
 cases i with
 |zero=>rfl
 |succ j=>
  have c:j<W.length:=by omega
  rw[eW c,ij];simp[dC,aO c]
def sy{J:aQ}{id:Int}{W:aP}{i:Nat}{m:Mv}(c:W[i]?=some m)(d:m.id=id)(f:¬(m.arg=0/\m.kind≠3))(g:¬(m.arg=0/\bQ m=true/\dC W i=false)){j k:Nat}(h:J[i]?=some (j:Int))(p:(eR J id W i).1[j]?=some (k:Int)):
  eR J id W (i+1)=((eR J id W i).1++[(k:Int)],(eR J id W i).2.set k ((eR J id W i).2.getD k []++[i])):=by
 have q:J.getD i 0=(j:Int):=by rw[dF,h];rfl
 have r:(eR J id W i).1.getD j 0=(k:Int):=by rw[dF,p];rfl
 rw[eR];unfold qN;rw[c];simp only;rw[aq (by simp[d]),aq f,aq g,q,jy,r,jy]
def j5{J:aQ}{id:Int}{W:aP}{i:Nat}{m:Mv}(d:W[i]?=some m)(h:m.id≠id∨(m.id=id/\m.arg=0/\bQ m=true/\dC W i=false)):
  eR J id W (i+1)=((eR J id W i).1++[-1],(eR J id W i).2):=by
 rw[eR];unfold qN;rw[d];simp only;rcases h with h|⟨f,g,c,j⟩
 .rw[ar h]
 have p:m.kind=3:=by simp[bQ]at c;exact c.1
 rw[aq (by simp[f]),aq (by simp[p]),ar ⟨g,c,j⟩]
def G8{J:aQ}{id:Int}{W:aP}{i:Nat}{m:Mv}(c:W[i]?=some m)(d:m.id=id)(f:m.arg=0)(g:m.kind≠3):
  eR J id W (i+1)=((eR J id W i).1++[((eR J id W i).2.length:Int)],(eR J id W i).2++[[i]]):=by
 rw[eR];unfold qN;rw[c];simp only;rw[aq (by simp[d]),ar ⟨f,g⟩]
section
variable(a:Ar)(id:Int)(W:aP)
def gk(cs:dH)(k q:Nat)(y:Wk):Prop:=∃c,cs[k]?=some c/\c.head?=some q/\G7 (gO a id) (aW W c) y
def InP(y:Wk)(c d:Mv):Prop:=∃j,y.op=[0,j]/\y.w[0]?=some (bJ c)/\y.w[j]?=some (bJ d)/\y.lost=false
def InQ(y:Wk)(c:Mv)(f:Bool):Prop:=y.op=[0]/\y.w[0]?=some (bJ c)/\y.lost=f
def NM(of:aQ)(cs:dH)(f:Nat×Nat):Prop:=∃c d,W[f.1]?=some c/\W[f.2]?=some d/\d.id=c.id/\0<c.id/\c.arg=0/\0<d.arg/\
 (c.id=id->∃(k:Nat) (y:Wk),of[f.1]?=some (k:Int)/\of[f.2]?=some (k:Int)/\gk a id W cs k f.1 y/\InP y c d)
def Zp(of:aQ)(cs:dH)(d:Bool)(q:Nat):Prop:=∃c,W[q]?=some c/\0<c.id/\c.arg=0/\
 (c.id=id->∃(k:Nat) (y:Wk),of[q]?=some (k:Int)/\gk a id W cs k q y/\InQ y c d)
def rF(F:List (Nat×Nat))(t:bG):ay:=0::F.flatMap (λf=>[f.1,f.2])++t.toList
structure PI(x:Wk)(of:aQ)(cs:dH)(F:List (Nat×Nat))(t:bG):Prop where
 op:x.op=rF F t
 OY:x.op.Pairwise (· < ·)
 root:∃m,W[0]?=some m/\m.id=0
 fr:∀f∈F,NM a id W of cs f
 top:∀q,t=some q->Zp a id W of cs (bk x.w) q
def og(cs:dH):Prop:=∀c∈cs,c≠ []/\∃y,G7 (gO a id) (aW W c) y
end
section
variable{a:Ar}{id:Int}{W:aP}
def Ck(c:ay)(i:Nat){m:Mv}(d:W[i]?=some m):aW W (c++[i])=aW W c++[bJ m]:=by unfold aW;rw[eD,List.map_singleton,dF,d];rfl
def gk.snoc{cs:dH}{k q:Nat}{y:Wk}(h:gk a id W cs k q y)(d:ay):gk a id W (cs++[d]) k q y:=by obtain⟨c,f,g⟩:=h;exact⟨c,cX f,g⟩
def gk.other{cs:dH}{k q p g:Nat}{y r:Wk}(h:gk a id W cs k q y)(t:gk a id W cs p g r)(u:q≠g)(z:ay):gk a id W (cs.set k z) p g r:=by
 obtain⟨c,B,C,H⟩:=h;obtain⟨D,d,f,j⟩:=t;refine⟨D,?_,f,j⟩;rw[gS]
 split
 .rename_i E;subst E;rw[B]at d;cases d;rw[C]at f;exact absurd (kH f) u
 exact d
def gk.take{cs:dH}{k q i:Nat}{y:Wk}{m:Mv}(h:gk a id W cs k q y)(g:W[i]?=some m)(j:fA y (bJ m)=true):gk a id W (cs.set k (cs.getD k []++[i])) k q (bI y (bJ m)):=by
 obtain⟨c,d,f,p⟩:=h;have r:=(aV.1 d).1;refine⟨c++[i],?_,?_,?_⟩
 .rw[gF r,dF,d];rfl
 .cases c with
  |nil=>cases f
  |cons=>exact f
 rw[Ck c i g];exact p.snoc j
def og.set{cs:dH}(h:og a id W cs){k q:Nat}{y:Wk}{g:ay}(p:gk a id W (cs.set k g) k q y):og a id W (cs.set k g):=by
 obtain⟨c,f,j,r⟩:=p;have t:k<cs.length:=by have:=(aV.1 f).1;simpa using this
 rw[gF t]at f;cases f;intro u d;rcases qL d with d|rfl
 .exact h u d
 refine⟨?_,y,r⟩;intro h0;rw[h0]at j;cases j
def NM.mono{of c:aQ}{cs d:dH}{f:Nat×Nat}(h:NM a id W of cs f)(g:∀(n:Nat) (k:Int),of[n]?=some k->c[n]?=some k)(j:∀k y,gk a id W cs k f.1 y->gk a id W d k f.1 y):NM a id W c d f:=by obtain⟨p,q,r,t,u,z,B,C,D⟩:=h;refine⟨p,q,r,t,u,z,B,C,λhid=>?_⟩;obtain⟨k,y,E,H,M,O⟩:=D hid;exact⟨k,y,g _ _ E,g _ _ H,j _ _ M,O⟩
def uf(F:List (Nat×Nat))(q p:Nat):rF (F++[(q,p)]) none=rF F (some q)++[p]:=by simp[rF]
def qs(F:List (Nat×Nat))(q:Nat):rF F (some q)=rF F none++[q]:=by simp[rF]
def yS{F:List (Nat×Nat)}{t:bG}{f:Nat×Nat}(h:f∈F):f.1∈rF F t:=by simp only[rF,cG,bm,uU];exact .inl (.inr ⟨f,h,by simp⟩)
end
def TP{a:Ar}{v:aP}{y:Wk}(h:G7 a v y)(c:∀m∈v,m.arg=0):bk y.w=false:=by rw[h.w.1];unfold bk;cases d:v.getLast? with|none=>rfl|some m=>simp[c m (TQ d)]
def DV(W:aP)(c:ay):∀m∈aW W c,m.arg=0:=by intro m d;unfold aW at d;obtain⟨i,_,rfl⟩:=dA.1 d;rfl
section
variable{a:Ar}{id:Int}{W:aP}
def gk.lf{cs:dH}{k q:Nat}{y:Wk}(h:gk a id W cs k q y):bk y.w=false/\y.a=gO a id/\y.w≠ []:=by
 obtain⟨c,g,f,d⟩:=h;refine⟨TP d (DV W c),d.w.2,?_⟩;rw[d.w.1];cases c with
 |nil=>cases f
 |cons x l=>simp[aW]
def yU{t m:Mv}(h:iy t m=true):iy (bJ t) (bJ m)=true:=by simp only[iy,bJ,bL]at h ⊢;exact⟨h.2.1,trivial,h.2.2⟩
def IM{y:Wk}{f c m:Mv}(g:InP y f c)(h:bk y.w=false)(p:y.w≠ [])(q:y.a.jumps=true)(r:eO y.a (bJ m)=true)(d:iy c m=true)(t:0<c.arg):fA y (bJ m)=true:=by
 obtain⟨j,u,E,z,B⟩:=g;have C:fZ y=some (bJ c):=by unfold fZ;rw[u];exact z
 have D:cz (bJ m)=false:=by simp only[iy,bL]at d;simp[cz,bJ,d.2.2.1]
 unfold fA;rw[aq p,C];simp only[r,B,h,D,Bool.or_self,cy,bp,iI,yU d,q,jS]
 split
 .simp[bJ,t]
 rfl
def NN{y:Wk}{c m:Mv}(f:InQ y c false)(g:bk y.w=false)(h:y.w≠ [])(j:eO y.a (bJ m)=true)(p:cz m=true)(q:0<m.arg)(r:c.arg=0):fA y (bJ m)=true:=by
 obtain⟨t,u,z⟩:=f;have B:fZ y=some (bJ c):=by unfold fZ;rw[t];exact u
 have d:cz (bJ m)=true:=p;unfold fA;rw[aq h,B];rw[j,z,g,d];simp[bJ,r,q]
def KK{y:Wk}{f m:Mv}{g:Bool}(q:InQ y f g)(r:bk y.w=false)(t:y.w≠ [])(u:eO y.a (bJ m)=true)(j:iy f m=true)(p:g=true↔bQ m=true):fA y (bJ m)=true:=by
 obtain⟨z,B,C⟩:=q;have D:fZ y=some (bJ f):=by unfold fZ;rw[z];exact B
 have E:cz (bJ m)=false:=by simp only[iy,bL]at j;simp[cz,bJ,j.2.2.1]
 have H:bQ (bJ m)=bQ m:=rfl;have c:=yU j;unfold fA;rw[aq t,D];simp only[u,C,r,E,FU,iI,c,H];cases d:g
 .have:bQ m=false:=by cases h:bQ m;rfl;rw[d]at p;exact absurd (p.2 h) (by simp)
  simp[this]
 have:bQ m=true:=p.1 d;simp[this]
def IN(m:Mv){b:Ar}(d:eO b (bJ m)=true)(f:cz m=true)(g:m.arg=0):fA (gT b) (bJ m)=true:=by have c:cz (bJ m)=true:=f;unfold fA;simp[gT,d,c];simp[bJ,g]
def sA{x:Wk}{m t:Mv}(c:fA x m=true)(f:x.w≠ [])(g:fZ x=some t)(j:cz m=false):iy t m=true/\((x.lost||bk x.w)=true->bQ m=true):=by
 unfold fA at c;rw[aq f,g]at c;simp only[j,aL]at c;obtain⟨_,c⟩:=c
 split at c
 .rename_i d;simp at c;exact⟨c.1,λ_=>c.2⟩
 rename_i d;refine⟨?_,λh=>absurd h d⟩
 split at c
 .rename_i h;exact absurd h (by simp)
 split at c
 .simp at c;exact c.1.1
 exact c
def qt{x:Wk}{m t:Mv}(c:fA x m=true)(g:x.w≠ [])(j:fZ x=some t)(f:cz m=true):bk x.w=false/\(if 0<t.id/\t.arg=0 then m.id=t.id/\0<m.arg else 0<m.id/\m.arg=0):=by
 unfold fA at c;rw[aq g,j]at c;simp only[f,aL,bf]at c;obtain⟨_,c⟩:=c
 split at c
 .rename_i d;simp[iy,bQ]at c;simp[cz]at f;omega
 rename_i d;refine⟨by cases h:bk x.w;rfl;rw[h]at d;simp at d,?_⟩
 split at c
 .rename_i h;rw[ar h];simpa using c
 rename_i h;rw[aq h];simpa using c
end
structure qO(a:Ar)(id:Int)(W:aP)(J:aQ)(x:Wk)(i:Nat)(m:Mv):Prop where
 TR:1<=id
 Zq:id<=a.ids.length
 ok:iz x
 xa:x.a=a
 xw:x.w=W.take i
 hm:W[i]?=some m
 can:fA x m=true
 js:J[i]?=(bI x m).js[i]?
section
variable{a:Ar}{id:Int}{W:aP}{J:aQ}{x:Wk}{i:Nat}{m:Mv}
def qO.len(h:qO a id W J x i m):x.w.length=i:=by have:=(aV.1 h.hm).1;rw[h.xw,oX];omega
def qO.lk(h:qO a id W J x i m){n:Nat}(c:n<i):x.w[n]?=W[n]?:=by rw[h.xw,rV c]
def qO.has(h:qO a id W J x i m):eO a m=true:=by rw[<-h.xa];exact lC h.can
def qO.opi(h:qO a id W J x i m){n:Nat}(c:n∈x.op):n<i:=by rw[<-h.len];exact h.ok.op n c
def qO.lf(h:qO a id W J x i m):bk x.w=dC W i:=by rw[h.xw];exact vD (by have:=(aV.1 h.hm).1;omega)
def qO.lf'(h:qO a id W J x i m):bk (bI x m).w=(bQ m&&decide (0<m.arg)):=by rw[gM,ij]
def qO.jt(h:qO a id W J x i m)(c:cz m=false){r:ay}{n:Nat}(d:x.op=r++[n]):J[i]?=some (n:Int):=by rw[h.js];unfold bI;rw[c];simp only[cy,bp];rw[gu (by rw[h.ok.I7,h.len];omega),h.ok.I7,h.len,d];simp
def qO.ja(h:qO a id W J x i m)(c:cz m=true)(d:0<m.arg){r:ay}{n:Nat}(f:x.op=r++[n]):J[i]?=some (n:Int):=by rw[h.js];unfold bI;rw[c];simp only[bf,ar d];rw[gu (by rw[h.ok.I7,h.len];omega),h.ok.I7,h.len,f];simp
def qO.top(h:qO a id W J x i m){r:ay}{n:Nat}(c:x.op=r++[n]):fZ x=W[n]?:=by unfold fZ;rw[c];simp only[List.getLast?_append,List.getLast?_singleton,Option.some_or];exact h.lk (h.opi (by rw[c];simp))
def qO.ofl(h:qO a id W J x i m):(eR J id W i).1.length=i:=(qp J id W i (by have:=(aV.1 h.hm).1;omega)).1
def qO.Zr(h:qO a id W J x i m)(k:Int):((eR J id W i).1++[k])[i]?=some k:=by rw[gu (by rw[h.ofl];omega),h.ofl];simp
def qO.push(h:qO a id W J x i m)(c:cz m=true)(d:x.op.Pairwise (· < ·)):(bI x m).op=x.op++[i]/\(bI x m).op.Pairwise (· < ·):=by
 have e:(bI x m).op=x.op++[i]:=by unfold bI;rw[ar c];simp only[h.len]
 refine⟨e,?_⟩;rw[e,Cl];exact⟨d,by simp,λn f k c=>by simp at c;subst c;exact h.opi f⟩
def qO.pop(h:qO a id W J x i m)(c:cz m=false)(d:x.op.Pairwise (· < ·)){r:ay}{n:Nat}(f:x.op=r++[n]):(bI x m).op=r/\(bI x m).op.Pairwise (· < ·):=by
 have e:(bI x m).op=x.op.dropLast:=by unfold bI;rw[c];rfl
 rw[e];exact⟨by rw[f];simp,d.sublist (Cf _)⟩
def G9(c:cz m=true):m.kind≠3:=by simp[cz]at c;omega
def NO(c:cz m=true):bQ m=false:=by simp[cz]at c;simp[bQ];intro h;omega
abbrev ug(a:Ar)(id:Int)(W:aP)(J:aQ)(x:Wk)(i:Nat)(m:Mv):Prop:=
 og a id W (eR J id W (i+1)).2/\((bI x m).op=[]∨∃F t,PI a id W (bI x m) (eR J id W (i+1)).1 (eR J id W (i+1)).2 F t)
def KL(h:qO a id W J x i m){F:List (Nat×Nat)}(j:PI a id W x (eR J id W i).1 (eR J id W i).2 F none)(Q:og a id W (eR J id W i).2)(B:x.w≠ [])(t:cz m=true):ug a id W J x i m:=by
 have z:0<m.id/\m.arg=0:=by
  rcases ly F with C|⟨X,⟨q,p⟩,C⟩
  .have E:x.op=[]++[0]:=by rw[j.op,C];rfl
   obtain⟨mr,Y,Z⟩:=j.root;have:=(qt h.can B ((h.top E).trans Y) t).2;rw[aq (by omega)]at this;exact this
  rw[yD]at C;have E:x.op=rF X (some q)++[p]:=by rw[j.op,C,uf]
  obtain⟨mq,mp,g1,g2,g3,g4,g0,g5,_⟩:=j.fr (q,p) (by rw[C];simp);have:=(qt h.can B ((h.top E).trans g2) t).2;rw[aq (by omega)]at this;exact this
 obtain⟨o1,T⟩:=h.push t j.OY;have D:(bI x m).op=rF F (some i):=by rw[o1,j.op,qs]
 have H:bk (bI x m).w=false:=by rw[h.lf',NO t];rfl
 by_cases hid:m.id=id
 .have d:=G8 (J:=J) h.hm hid z.2 (G9 t);have g:gk a id W ((eR J id W i).2++[[i]]) (eR J id W i).2.length i (bI (gT (gO a id)) (bJ m)):=by refine⟨[i],by simp,rfl,?_⟩;have:=(G7.nil (gO a id)).snoc (IN m (by rw[wh a h.TR h.Zq hid];exact h.has) t z.2);rw[show aW W [i]=[]++[bJ m] by simp[aW,h.hm]];exact this
  rw[ug,d];refine⟨?_,.inr ⟨F,some i,D,T,j.root,λf M=>(j.fr f M).mono (λn k O=>cX O) (λk y r=>r.snoc _),?_⟩⟩
  .intro c r;rcases cG.1 r with r|r
   .exact Q c r
   simp at r;subst r;obtain⟨c,V,_,h3⟩:=g;simp at V;subst V;exact⟨by simp,_,h3⟩
  intro q u;cases u;refine⟨m,h.hm,z.1,z.2,λ_=>⟨_,_,h.Zr _,g,?_⟩⟩;rw[H];have P:cz (bJ m)=true:=t;unfold bI;rw[ar P];exact⟨rfl,rfl,rfl⟩
 have d:=j5 (J:=J) h.hm (.inl hid);rw[ug,d];refine⟨Q,.inr ⟨F,some i,D,T,j.root,λf M=>(j.fr f M).mono (λn k O=>cX O) (λk y r=>r),?_⟩⟩;intro q u;cases u;exact⟨m,h.hm,z.1,z.2,λh'=>absurd h' hid⟩
def KM(h:qO a id W J x i m){F:List (Nat×Nat)}{q:Nat}(j:PI a id W x (eR J id W i).1 (eR J id W i).2 F (some q))(V:og a id W (eR J id W i).2)(p:x.w≠ [])(t:cz m=true):ug a id W J x i m:=by
 have C:x.op=rF F none++[q]:=by rw[j.op,qs]
 obtain⟨X,D,E,B,g4⟩:=j.top q rfl;obtain⟨H,hm⟩:=qt h.can p ((h.top C).trans D) t;rw[ar ⟨E,B⟩]at hm;obtain⟨o1,Y⟩:=h.push t j.OY;have u:(bI x m).op=rF (F++[(q,i)]) none:=by rw[o1,j.op,uf]
 by_cases hid:m.id=id
 .obtain⟨k,y,Z,M,O⟩:=g4 (hm.1▸hid);rw[H]at O;have d:=sy (J:=J) h.hm hid (by intro r;omega) (by intro r;omega) (h.ja t hm.2 C) Z;obtain⟨l1,l2,l3⟩:=M.lf;have z:=NN O l1 l3 (by rw[l2,wh a h.TR h.Zq hid];exact h.has) t hm.2 B;have g:=M.take h.hm z;rw[ug,d];refine⟨V.set g,.inr ⟨F++[(q,i)],none,u,Y,j.root,?_,λq r=>by cases r⟩⟩;intro f c;rcases cG.1 c with c|c
  .have p:q≠f.1:=by have hs:=j.OY;rw[C,Cl]at hs;have:=hs.2.2 f.1 (yS c) q (by simp);omega
   exact(j.fr f c).mono (λn k P=>cX P) (λk' y' Q=>M.other Q p _)
  simp at c;subst c;refine⟨X,m,D,h.hm,hm.1,E,B,hm.2,λ_=>⟨k,_,cX Z,h.Zr _,g,?_⟩⟩;obtain⟨p1,p2,p3⟩:=O;have T:cz (bJ m)=true:=t;unfold bI;rw[ar T];exact⟨y.w.length,by simp[p1],by simp only;exact cX p2,by simp,p3⟩
 have d:=j5 (J:=J) h.hm (.inl hid);rw[ug,d];refine⟨V,.inr ⟨F++[(q,i)],none,u,Y,j.root,?_,λq r=>by cases r⟩⟩;intro f c;rcases cG.1 c with c|c
 .exact(j.fr f c).mono (λn k P=>cX P) (λk y Q=>Q)
 simp at c;subst c;exact⟨X,m,D,h.hm,hm.1,E,B,hm.2,λr=>absurd (hm.1.trans r) hid⟩
def IP(h:qO a id W J x i m){F:List (Nat×Nat)}(g:PI a id W x (eR J id W i).1 (eR J id W i).2 F none)(P:og a id W (eR J id W i).2)(r:x.w≠ [])(t:cz m=false):ug a id W J x i m:=by
 rcases ly F with u|⟨M,⟨q,p⟩,u⟩
 .have z:x.op=[]++[0]:=by rw[g.op,u];rfl
  obtain⟨mr,hr,h3⟩:=g.root;have O:=(sA h.can r ((h.top z).trans hr) t).1;simp only[iy,bL]at O;have hid:m.id≠id:=by have:=h.TR;omega
  rw[ug,j5 (J:=J) h.hm (.inl hid)];exact⟨P,.inl (h.pop t g.OY z).1⟩
 rw[yD]at u;have z:x.op=rF M (some q)++[p]:=by rw[g.op,u,uf]
 obtain⟨mq,mp,g1,g2,g3,g4,D,g5,g6⟩:=g.fr (q,p) (by rw[u];simp);have O:=(sA h.can r ((h.top z).trans g2) t).1;have Q:=O;simp only[iy,bL]at Q;obtain⟨T,V⟩:=h.pop t g.OY z;have X:bk (bI x m).w=bQ m:=by rw[h.lf'];simp;intro _;omega
 have E:∀f∈M,f∈F:=λf B=>by rw[u];simp[B]
 by_cases hid:m.id=id
 .obtain⟨k,y,e1,e2,Y,e4⟩:=g6 (by omega);have c:=sy (J:=J) h.hm hid (by intro C;omega) (by intro C;omega) (h.jt t z) e2;obtain⟨l1,l2,l3⟩:=Y.lf;have H:=IM e4 l1 l3 (by rw[l2];exact IL a h.TR h.Zq hid (by omega) h.has) (by rw[l2,wh a h.TR h.Zq hid];exact h.has) O g5;have d:=Y.take h.hm H;rw[ug,c];refine⟨P.set d,.inr ⟨M,some q,T,V,g.root,?_,?_⟩⟩
  .intro f B;have r:q≠f.1:=by have hs:=V;rw[T,qs,Cl]at hs;have:=hs.2.2 f.1 (yS B) q (by simp);omega
   exact(g.fr f (E f B)).mono (λn k Z=>cX Z) (λk' y' hc=>Y.other hc r _)
  intro q' C;cases C;refine⟨mq,g1,g4,D,λ_=>⟨k,_,cX e1,d,?_⟩⟩;obtain⟨j,p1,p2,p3,p4⟩:=e4;have h1:cz (bJ m)=false:=t;rw[X];unfold bI;rw[h1];simp only[cy,bp];refine⟨by simp[p1],cX p2,?_⟩;have h2:0<m.arg:=by omega
  show(y.lost||(bQ m&&decide (0<m.arg)&&decide ((0:Int)=0)&& !bk y.w))=bQ m;rw[p4,l1];simp[h2]
 have c:=j5 (J:=J) h.hm (.inl hid);rw[ug,c];refine⟨P,.inr ⟨M,some q,T,V,g.root,λf B=>(g.fr f (E f B)).mono (λn k Z=>cX Z) (λk y hc=>hc),?_⟩⟩;intro q' C;cases C;exact⟨mq,g1,g4,D,λC=>absurd (by omega) hid⟩
def KN(h:qO a id W J x i m){F:List (Nat×Nat)}{q:Nat}(d:PI a id W x (eR J id W i).1 (eR J id W i).2 F (some q))(O:og a id W (eR J id W i).2)(p:x.w≠ [])(C:cz m=false):ug a id W J x i m:=by
 have B:x.op=rF F none++[q]:=by rw[d.op,qs]
 obtain⟨mq,V,g2,g3,X⟩:=d.top q rfl;obtain⟨P,Y⟩:=sA h.can p ((h.top B).trans V) C;have D:=P;simp only[iy,bL]at D;obtain⟨Q,T⟩:=h.pop C d.OY B;by_cases t:m.id≠id∨(m.id=id/\m.arg=0/\bQ m=true/\dC W i=false)
 .rw[ug,j5 (J:=J) h.hm t];exact⟨O,.inr ⟨F,none,Q,T,d.root,λf g=>(d.fr f g).mono (λn k E=>cX E) (λk y H=>H),λq j=>by cases j⟩⟩
 have hid:m.id=id:=Df λj=>t (.inl j)
 have c:¬(m.arg=0/\bQ m=true/\dC W i=false):=λj=>t (.inr ⟨hid,j⟩)
 obtain⟨k,y,Z,M,e3⟩:=X (by omega);have u:=sy (J:=J) h.hm hid (by intro j;omega) c (h.jt C B) Z;obtain⟨l1,l2,l3⟩:=M.lf;have z:=KK e3 l1 l3 (by rw[l2,wh a h.TR h.Zq hid];exact h.has) P (by
  rw[h.lf];constructor
  .intro g;exact Y (by rw[h.lf,g];simp)
  intro he;cases g:dC W i
  .exact absurd ⟨by omega,he,g⟩ c
  rfl)
 have r:=M.take h.hm z;rw[ug,u];refine⟨O.set r,.inr ⟨F,none,Q,T,d.root,?_,λq j=>by cases j⟩⟩;intro f g;have p:q≠f.1:=by have t:=d.OY;rw[B,Cl]at t;have:=t.2.2 f.1 (yS g) q (by simp);omega
 exact(d.fr f g).mono (λn k E=>cX E) (λk' y' H=>M.other H p _)
end
def KO:∀(v:aP) (x:Wk),x.js<+:(cW x v).1.js
 |[],x=>uh _
 |m::r,x=>by
  rw[cW]
  split
  .refine KP ?_ (KO r (bI x m));unfold bI
   split<;>exact yV _ _
  exact uh _
def F4{α:Type}{l k:List α}(h:l<+:k){i:Nat}(c:i<l.length):k[i]?=l[i]?:=by obtain⟨t,rfl⟩:=h;exact ek c
section
variable{a:Ar}{id:Int}{W:aP}{J:aQ}
abbrev KQ(a:Ar)(id:Int)(W:aP)(J:aQ)(x:Wk)(i:Nat):Prop:=
 og a id W (eR J id W i).2/\(x.op=[]∨∃F t,PI a id W x (eR J id W i).1 (eR J id W i).2 F t)
def IQ{x:Wk}{i:Nat}{m:Mv}(h:qO a id W J x i m)(p:KQ a id W J x i):KQ a id W J (bI x m) (i+1):=by
 obtain⟨d,p⟩:=p;by_cases c:x.w=[]
 .have r:i=0:=by rw[<-h.len,c];rfl
  subst r;obtain⟨u,y⟩:=et h.can c;have hid:m.id≠id:=by have:=h.TR;omega
  rw[KQ,j5 (J:=J) h.hm (.inl hid)];have cO:x.op=[]:=by have:=h.ok.DO;rw[c]at this;exact iJ (by simpa using this)
  have e:(bI x m).op=[0]:=by unfold bI;rw[ar y];simp[cO,c]
  exact⟨d,.inr ⟨[],none,e,by rw[e];simp,⟨m,h.hm,u⟩,λf z=>(by cases z),λq B=>(by cases B)⟩⟩
 rcases p with cO|⟨F,t,g⟩
 .exact absurd cO (ie h.can c)
 cases j:cz m<;>cases t
 .exact IP h g d c j
 .exact KN h g d c j
 .exact KL h g d c j
 exact KM h g d c j
def DW(g:1<=id)(h:id<=a.ids.length):∀(v:aP) (x:Wk),W=x.w++v->iz x->x.a=a->W.length<=400->(cW x v).2=v.length->J=(cW x v).1.js->KQ a id W J x x.w.length->KQ a id W J (cW x v).1 W.length
 |[],x,d,t,c,z,f,j,u=>by
  have:W.length=x.w.length:=by rw[d];simp
  rw[this];exact u
 |m::r,x,d,t,c,z,f,j,u=>by
  rw[cW]at f j ⊢;by_cases p:fA x m=true
  .rw[ar p]at f j ⊢;have hlen:x.w.length<W.length:=by rw[d];simp
   have cO:cz m=false->x.op≠ []:=λD=>by
    by_cases B:x.w=[]
    .have:=(et p B).2;rw[D]at this;cases this
    exact ie p B
   have q:=t.take (m:=m) (by omega) cO;have y:x.w.length<(bI x m).js.length:=by rw[q.I7,gM];simp
   have qz:qO a id W J x x.w.length m:=by
    refine⟨g,h,t,c,?_,?_,p,?_⟩
    .rw[d];simp
    .rw[d];simp
    rw[j];exact F4 (KO r (bI x m)) y
   have C:=DW g h r (bI x m) (by rw[gM,d];simp) q (by rw[wb,c]) z (by simp only[aA]at f;omega) j;rw[gM,cE,dM]at C;exact C (IQ qz u)
  rw[aq p]at f;simp at f
end
def DX{a:Ar}{id:Int}{w:aP}(h:pU a id w=0):∀c∈fq (cW (gT a) w).1.js id w,c≠ []/\∃y,G7 (gO a id) (aW w c) y:=by
 obtain⟨d,f,j,p⟩:=od h;have ok:=lE d;have q:=tW d f;have g:(cW (gT a) w).2=w.length:=by
  have B:¬(cW (gT a) w).2<w.length:=by intro g;unfold fp at f;simp[d,g,show¬400<w.length by omega]at f
  have t:∀(v:aP) (x:Wk),(cW x v).2<=v.length:=by
   intro v
   induction v with
   |nil=>intro x;simp[cW]
   |cons m r u=>
    intro x;rw[cW]
    split
    .have:=u (bI x m);simp;omega
    simp
  have:=t w (gT a);omega
 exact(DW j p w (gT a) rfl (iz.zero ok d) rfl q g rfl ⟨λc z=>(by cases z),.inl rfl⟩).1
structure yW(y:Wk):Prop where
 q0:y.op≠ []->y.op.head?=some 0
 r0:∀m,y.w[0]?=some m->m.id=0
 on:∀n∈y.op.tail,∀m,y.w[n]?=some m->0<m.id
 ne:y.w≠ []->(y.op=[]↔∃m,y.w.getLast?=some m/\m.id=0/\m.kind=3)
 bd:∀n∈y.op,n<y.w.length
def yW.step{y:Wk}(h:yW y)(Q:y.w=[]->y.op=[]){m:Mv}(E:fA y m=true)(T:eO y.a m=true):yW (bI y m):=by
 have H:=sx T;by_cases f:y.w=[]
 .have cO:=Q f;obtain⟨V,P⟩:=et E f;have j:=G9 P;unfold bI;rw[ar P];refine⟨λ_=>by simp[cO,f],?_,?_,?_,?_⟩
  .intro p d;simp[f]at d;rw[<-d];exact V
  .intro n B;simp[cO,f]at B
  .intro _;simp[cO,f,j]
  intro n B;simp[cO,f]at B;subst B;simp[f]
 have cO:=ie E f;obtain⟨r,n,u⟩:∃r n,y.op=r++[n]:=by
  rcases ly y.op with h0|⟨r,n,h0⟩
  .exact absurd h0 cO
  exact⟨r,n,by rw[h0];simp⟩
 have hlen:0<y.w.length:=yB.2 f;have B:n<y.w.length:=h.bd n (by rw[u];simp);obtain⟨t,M⟩:∃t,y.w[n]?=some t:=⟨_,aO B⟩;have q:fZ y=some t:=by unfold fZ;rw[u];simpa using M
 have g:(y.w++[m]).getLast?=some m:=by simp
 cases j:cz m
 .have O:m.kind=3:=by rw[H]at j;simpa[fO]using j
  have X:=(sA E f q j).1;simp only[iy,bL]at X;unfold bI;rw[j];simp only[cy,bp];refine⟨?_,?_,?_,?_,?_⟩
  .intro C;have:=h.q0 cO;rw[u]at this C ⊢;cases r with|nil=>simp at C|cons b r=>rw[KR];simpa using this
  .intro p d;rw[ek hlen]at d;exact h.r0 p d
  .intro k c p d;have D:k∈y.op.tail:=by rw[u]at c ⊢;simp only[KR]at c;rw[TS (by rintro rfl;cases c)];simp[c]
   have z:=h.bd k (TT D);rw[ek z]at d;exact h.on k D p d
  .intro _;simp only[g,bT,exists_eq_left'];rw[u];simp only[KR];constructor
   .rintro rfl
    have:=h.q0 cO;rw[u]at this;simp at this;subst this;have:=h.r0 t M;exact⟨by omega,O⟩
   rintro⟨Y,_⟩
   cases r with|nil=>rfl|cons b r=>have:=h.on n (by rw[u];simp) t M;omega
  intro k c;have:=h.bd k ((Cf _).subset c);simp;omega
 obtain⟨_,Z⟩:=qt E f q j;have hid:0<m.id:=by split at Z<;>omega
 unfold bI;rw[ar j];refine⟨?_,?_,?_,?_,?_⟩
 .intro _;have:=h.q0 cO;rw[List.head?_append,this];rfl
 .intro p d;rw[ek hlen]at d;exact h.r0 p d
 .intro k c p d;simp only at c d;rw[TS cO]at c;rcases cG.1 c with c|c
  .have z:=h.bd k (TT c);rw[ek z]at d;exact h.on k c p d
  simp at c;subst c;simp at d;rw[<-d];exact hid
 .intro _;simp only[g,bT,exists_eq_left'];constructor
  .intro h';simp at h'
  rintro⟨Y,_⟩;omega
 intro k c;simp only[cG,dE]at c;simp only[cE,dM];rcases c with c|rfl
 .have:=h.bd k c;omega
 omega
def yX:∀(v:aP) (x:Wk),yW x->(x.w=[]->x.op=[])->yW (cW x v).1
 |[],x,h,_=>h
 |m::r,x,h,f=>by
  rw[cW]
  split
  .rename_i c;exact yX r _ (h.step f c (lC c)) (λd=>by rw[gM]at d;simp at d)
  exact h
def KT{a:Ar}{v:aP}{y:Wk}(h:G7 a v y)(f:v≠ []):y.op=[]↔∃m,v.getLast?=some m/\m.id=0/\m.kind=3:=by have d:=yX v (gT a) ⟨λh=>absurd rfl h,λm h=>by simp[gT]at h,λn c=>by simp[gT]at c,λh=>absurd rfl h,λn c=>by simp[gT]at c⟩ (λ_=>rfl);rw[h]at d;have:=d.ne (by simp only[h.w.1];exact f);simpa only[h.w.1]using this
def Ha:∀(v:aP) (x:Wk),iz x->x.w.length+v.length<=400->iz (cW x v).1
 |[],x,c,_=>c
 |m::r,x,c,g=>by
  rw[cW];simp only[aA]at g
  split
  .rename_i d;have cO:cz m=false->x.op≠ []:=λh=>by
    by_cases f:x.w=[]
    .have:=(et d f).2;rw[h]at this;cases this
    exact ie d f
   exact Ha r _ (c.take (by omega) cO) (by rw[gM];simp;omega)
  exact c
def KU(x:Wk):Int:=if x.w=[]then 1 else match fZ x with|none=>3|some t=>if 0<t.id/\t.arg=0 then 1 else 2
def w25(a:Ar)(ok:dj a)(w:aP)(s:HS):R (.call 25 [.agg a.c,.psl (w.map Mv.c)] s)=.val (.bool (decide (w.length<=40/\(fp a w).2=0))) s:=by
 refine q25 ?_;have f:=w61 a ok w;simp only[Ar.c,iV]at f;by_cases g:(40:Int)<w.length
 .have d:¬w.length<=40:=by omega
  simp[U.b25,g,d,aa]
 have d:w.length<=40:=by omega
 by_cases h:(fp a w).2=0<;>simp[U.b25,f,g,d,h,aa]
def nz.flat{s:HS}{n:Nat}{α:Type}{f g:α->ak}:∀{l:List α},(∀x∈l,nz s n (f x) (g x))->nz s n (aD (l.map f)) (aD (l.map g))
 |[],_=>.nil
 |x::_,h=>(h x dy).append (nz.flat λy c=>h y (dh _ c))
def bY.vwR{s:HS}{v:HV}{n sz:Nat}{F:cg}{α:Type}{f g:α->ak}{l:List α}(h:bY s v sz F (l.map f))(j:∀x,(g x).length=sz)(p:∀x∈l,nz s n (f x) (g x)):Vw s (n+1) v (.psl (l.map g)):=by
 have q:=h;obtain⟨r,_,c⟩:=h;rcases c with⟨rfl,h0⟩|⟨o,t,u,y,rest,rfl,z,B,_⟩
 .have:l=[]:=by simpa using h0
  subst this;exact .ai
 have d:Sz sz (l.map g):=Sz.map (f:=g) (λx=>j x) l;refine Vw.sl (l:=aD (l.map f)) (l':=aD (l.map g)) q.cells.2 (nz.flat p) (λ_=>?_) (λh=>?_)
 .have:=lY d;simpa using this
 simp only[bH]at h;rw[yA.1 h];rfl
def g26{a:Ar}{t:Ty}{e:En}{s:HS}(f:look e 2=some (.ax a.c))(g:look e 7=some (.ptr (.z .e) 0))(d:ao s.h (.z .e)=some (.cells (cR t.c) 0 3 (.z .e))):
  bK R U.JU e s=.code .normal (e.qw 8 (.ptr s.nx 0)) (HS.mk (av (some (.cells (cR [.ai,.bool t.res.cell,.int .i64 t.res.n,.bool (a.jumps|| !t.ps.isEmpty)]) 0 4 s.nx)) s.nx s.h) s.nx.succ (av (some [s.nx]) s.nx s.gr) s.ty):=by
 cases j:a.jumps
 .cases p:t.ps with|nil=>rw[Ty.c,p]at d;simp[f,g,d,j,ah,an,aj]|cons b l=>
   rw[Ty.c,p]at d;have q:(0:Int)<(l.length:Int)+1:=by omega
   simp[f,g,d,j,q,ah,an,aj]
 simp[f,g,d,j,ah,an,aj]
def tyN(b:Bs):ak:=[.ai,.bool b.cell,.int .i64 b.n]
def w26(a:Ar)(ok:dj a)(hc:aB a=0){id:Int}(h1:1<=id)(h2:id<=a.ids.length)(s:HS):R (.call 26 [.agg a.c,iV id] s)=.val (.bN [.agg (gO a id).c,iV 0]) s:=by
 refine ON ?_;obtain⟨n,rfl⟩:∃n:Nat,id=(n:Int)+1:=⟨(id-1).toNat,by omega⟩;have hn:n<a.ids.length:=by omega
 have ht:=aO hn;have hlen:=ok.1;have hy:a.ids[n].ps.length<=5:=by
  have:¬(a.ids.any iN=true):=λQ=>by unfold aB at hc;rw[ar (.inr Q)]at hc;cases hc
  simp only[mO,not_exists,not_and]at this;have:=this _ (bX hn);simp only[iN,bL]at this;omega
 have T:gO a ((n:Int)+1)=⟨a.ids[n].ps.map (λb=>⟨[],b⟩),a.ids[n].res,a.jumps|| !a.ids[n].ps.isEmpty⟩:=by unfold gO;rw[show((n:Int)+1-1).toNat=n by omega,ht]
 rw[T];have y:=VH a ok;rw[hc]at y;have B:=YU ((n:Int)+1) 1 a.ids.length;rw[cV ⟨h1,h2⟩]at B;have hw:bR .i64 (n:Int)=n:=bM (by omega) (by omega);simp only[Ar.c,iV]at y B;generalize hl:a.ids[n]=t at*;have hg:=λ(e:En) (s:HS)=>@g26 a t e s
 simp only[Ar.c,Ty.c]at hg;simp-implicitDefEqProofs[-U.JU,U.b26,s0,ah,an,y,B,hw,hn,hl,hg];generalize ho:bK R (.loop U.GN) _ _=o;have hq:=aX ho t.ps.length
  (λi e s=>∃v F,look e 4=some (.ptr .e 0)/\look e 7=some (.ptr (.z .e) 0)/\look e 8=some (.ptr (.o .e) 0)/\look e 9=some (iV i)/\gD s .e [.ai,.bool false,.int .i64 0,.bool false]/\gD s (.z .e) [.psl (t.ps.map Bs.c),.bool t.res.cell,.int .i64 t.res.n]/\gD s (.o .e) [v,.bool t.res.cell,.int .i64 t.res.n,.bool (a.jumps|| !t.ps.isEmpty)]/\bY s v 3 F ((t.ps.take i).map tyN)/\∀k,F k->3<=k.toNat)
  (λo=>∃e s v F,o=.code (.exit 0) e s/\look e 4=some (.ptr .e 0)/\look e 8=some (.ptr (.o .e) 0)/\gD s .e [.ai,.bool false,.int .i64 0,.bool false]/\gD s (.o .e) [v,.bool t.res.cell,.int .i64 t.res.n,.bool (a.jumps|| !t.ps.isEmpty)]/\bY s v 3 F (t.ps.map tyN)/\∀k,F k->3<=k.toNat)
  0 (by omega) ⟨.ai,_,by simp,by simp,by simp,by simp,⟨by simp,by simp,by simp[Ky.toNat]⟩,⟨by simp,by simp,by simp[Ky.toNat]⟩,⟨by simp,by simp,by simp[Ky.toNat]⟩,bY.ai,λk q=>q.elim⟩
  (λi e s r hi ⟨v,F,V,h7,M,h9,j,p,f,O,P⟩ X=>by
   have hp:(i:Int)<t.ps.length:=by omega
   have Y:=p.get 0 (by simp);have g1:=f.get 0 (by simp);have hz:=aO hi;obtain⟨v',s1,ha,Z,C,k0⟩:=O.append (bx:=3518437208883) (new:=[tyN t.ps[i]]) (Sz.cons rfl Sz.nil) (by simp) (by simp;omega);have Q:∀(k:Ky),k.toNat<=2->¬F k:=λk q h=>by have:=P _ h;omega
   have h3:=j.frame C (Q _ (by simp[Ky.toNat]));have h5:=p.frame C (Q _ (by simp[Ky.toNat]));have h6:=f.frame C (Q _ (by simp[Ky.toNat]));obtain⟨s2,b2,D,d,k1⟩:=h6.set 0 (by simp) v' Z.one;have hs:=f.2.2;have hd:∀k,(F k∨k=s.nx)->3<=k.toNat:=by
    rintro k (q|rfl)
    .exact P k q
    have:(Ky.o Ky.e).toNat<s.nx.toNat:=hs;simp[Ky.toNat]at this;omega
   have hf:=Z.frame d (λk q e=>by subst e;have:=hd _ q;simp[Ky.toNat]at this);have E:=h3.frame d (λe=>by cases e);have H:=h5.frame d (λe=>by cases e);simp only[tyN]at ha;simp at Y g1;simp[U.GN,h7,M,h9,hi,hp,Y,g1,ha,b2,bj (n:=5) (show i<5 by omega) (by omega)]at X;subst X;refine .inl ⟨_,_,rfl,v',λk=>F k∨k=s.nx,by simp[V],by simp[h7],by simp[M],by simp,E,H,by simpa using D,?_,hd⟩;rw[eW hi,eD];exact hf)
  (λe s r ⟨v,F,V,h7,M,h9,j,p,f,O,P⟩ X=>by
   have Y:=p.get 0 (by simp);simp at Y;simp[U.GN,h7,h9,Y]at X;subst X;rw[j0]at O;exact⟨by simp,_,_,v,F,rfl,by simp[V],by simp[M],j,f,O,P⟩)
 clear ho;obtain⟨e,s,v,F,rfl,V,M,j,f,O,P⟩:=hq;have hj:=f.load;obtain⟨s2,st,D,d,_⟩:=j.put (v:=.agg [v,.bool t.res.cell,.int .i64 t.res.n,.bool (a.jumps|| !t.ps.isEmpty)]) rfl rfl
 have u:=D.load;have hx:=O.frame d (λk q e=>by subst e;have:=P _ q;simp[Ky.toNat]at this);have st:qj 4 (some (.ptr .e 0)) (some (.agg [v,.bool t.res.cell,.int .i64 t.res.n,.bool (a.jumps|| !t.ps.isEmpty)])) s=.v .undef s2:=st;simp only[aA,aE]at hj u;simp[V,M,hj,-jf,st,u];have hv:=hx.vwR (n:=13) (g:=λb=>Ty.c ⟨[],b⟩) (λx=>rfl) (λx _=>.cons .ai (.data (by simp)));exact aC (.bN (.cons (.agg (.cons (by simpa[tS]using hv) (.data (by simp)))) (.data (by simp))))
def zZ(w:aP)(id:Int)(j:Nat):Bool:=match w[j]?with|none=>false|some m=>decide (m.id=id)&& !(decide (m.arg=0)&&bQ m&& !dC w j)
def count_set:∀(cs:dH) (k i j:Nat),k<cs.length->((cs.set k (cs.getD k []++[i])).flatten).count j=cs.flatten.count j+ [i].count j
 |[],k,i,j,h=>by simp at h
 |c::r,0,i,j,h=>by simp only[aS,List.getD_cons_zero,TU,KV];omega
 |c::r,k+1,i,j,h=>by have:=count_set r k i j (by simpa using h);simp only[cb,List.getD_cons_succ,TU,KV,this];omega
def AV{J:aQ}{id:Int}{w:aP}(y:oa J id w):∀i,i<=w.length->∀j,((eR J id w i).2.flatten).count j=if j<i/\zZ w id j=true then 1 else 0
 |0,_,j=>by simp[eR]
 |i+1,D,j=>by
  have p:=AV y i (by omega) j;have d:=aO (show i<w.length by omega);generalize w[i]=m at d;have c:zZ w id i=(decide (m.id=id)&& !(decide (m.arg=0)&&bQ m&& !dC w i)):=by unfold zZ;rw[d]
  have key:∀b:Bool,zZ w id i=b->((if j<i/\zZ w id j=true then 1 else 0)+(if b=true then [i].count j else 0):Nat)=if j<i+1/\zZ w id j=true then 1 else 0:=by
   intro b B;by_cases g:j=i
   .subst g;cases b<;>simp[B]
   have q:[i].count j=0:=by simp[jB g]
   have r:j<i+1↔j<i:=by omega
   rw[q,ite_self,fR];simp only[r]
  by_cases hid:m.id=id
  case neg=>rw[j5 d (.inl hid),p];have:=key false (by rw[c];simp[hid]);simpa using this
  by_cases h:m.arg=0/\m.kind≠3
  .rw[G8 d hid h.1 h.2];have t:bQ m=false:=by simp[bQ,h.2]
   have:=key true (by rw[c];simp[hid,t]);simp only[List.flatten_append,KV,p,List.flatten_singleton];simpa using this
  by_cases f:m.arg=0/\bQ m=true/\dC w i=false
  .rw[j5 d (.inr ⟨hid,f⟩),p];have:=key false (by rw[c];simp[hid,f.1,f.2.1,f.2.2]);simpa using this
  obtain⟨E,k,q,r,C⟩:=y i m d hid h f;rw[sy d hid h f q r];simp only[count_set _ _ _ _ C,p];have:=key true (by
   rw[c];by_cases z:m.arg=0
   .cases t:bQ m
    .simp[hid]
    cases u:dC w i
    .exact absurd ⟨z,t,u⟩ f
    simp[hid]
   simp[hid,z])
  simpa using this
def yY(J:aQ)(id:Int)(w:aP):∀i,i<=w.length->∀c∈(eR J id w i).2,c.Pairwise (· < ·)
 |0,_=>λc d=>by cases d
 |i+1,t=>by
  have g:=yY J id w i (by omega);have j:=tX J id w i (by omega);have p:=aO (show i<w.length by omega);rw[eR];unfold qN;rw[p];simp only
  split
  .exact g
  split
  .intro c d;rcases cG.1 d with d|d
   .exact g c d
   simp at d;subst d;simp
  split
  .exact g
  intro c d;rcases qL d with d|rfl
  .exact g c d
  rw[dF];cases q:(eR J id w i).2[((eR J id w i).1.getD (J.getD i 0).toNat 0).toNat]?with|none=>simp|some c=>have f:=cH q;simp only[Option.getD_some];rw[Cl];exact⟨g c f,by simp,λn r k h=>by simp at h;subst h;exact j c f n r⟩
structure KW(uV:Ar)(id:Int)(w:aP)(l:dH):Prop where
 ne:∀c∈l,c≠ []
 bd:∀c∈l,∀n∈c,n<w.length
 OY:∀c∈l,c.Pairwise (· < ·)
 len:l.length<=400
 cl:∀c∈l,c.length<=40
 leg:∀c∈l,(fp uV (aW w c)).2=0
 over:∀c∈l,∀m,(c.getLast?.bind λn=>w[n]?)=some m->(KU (cW (gT uV) (aW w c)).1=3↔m.arg=0/\m.kind=3)
 dX:∀j,j<w.length->l.flatten.count j=if zZ w id j=true then 1 else 0
def AW{a:Ar}(d:aB a=0){id:Int}(y:1<=id)(z:id<=a.ids.length):aB (gO a id)=0:=by
 have j:(id-1).toNat<a.ids.length:=by omega
 have p:=aO j;have c:=bX j;unfold gO;rw[p];generalize a.ids[(id-1).toNat]=t at c;unfold aB at d ⊢
 split at d
 .cases d
 rename_i q
 split at d
 .cases d
 rename_i r;have B:¬t.ps.length>5:=by intro h;exact q (.inr (mO.2 ⟨t,c,by simp[iN];omega⟩))
 have g:fy t=true:=by
  cases h:fy t
  .exfalso;apply r;simp only[mJ];exact .inr (mO.2 ⟨t,c,by simp[h]⟩)
  rfl
 simp only[fy,aL]at g;obtain⟨⟨g,u⟩,_⟩:=g;rw[aq,aq]
 .simp only[mJ,not_or];refine⟨by simp[g],?_⟩;rw[TV,mO]
  rintro⟨b,f,h⟩
  have:=fw.1 u b f;simp[fy,this]at h
 rintro(h|h)
 .simp at h;omega
 rw[TV,mO]at h;obtain⟨b,f,h⟩:=h;simp[iN]at h
def Zs{a:Ar}{id:Int}{w:aP}(h:pU a id w=0)(z:w.length<=40):KW (gO a id) id w (fq (cW (gT a) w).1.js id w):=by
 obtain⟨e1,e2,i1,i2⟩:=od h;have d:=AW e1 i1 i2;have B:=DX h;have t:=OX a id w h;generalize(cW (gT a) w).1.js=J at*;obtain⟨b1,b2,b3⟩:=jI J id w (by omega);obtain⟨_,c2,c3⟩:=qp J id w w.length (aY _);have g:∀c∈fq J id w,c.length<=40:=λc f=>fh (c3 c f) z
 have C:∀c∈fq J id w,(fp (gO a id) (aW w c)).2=0:=by intro c f;obtain⟨_,y,q⟩:=B c f;have:=g c f;unfold fp;rw[aq (by simp[d]),aq (by simp[aW];omega)];rw[q];simp
 refine⟨λc f=>(B c f).1,b3,yY J id w _ (aY _),b1,g,C,?_,?_⟩
 .intro c f m hm;obtain⟨D,y,q⟩:=B c f;have V:aW w c≠ []:=by simpa[aW]using D
  have X:=KT q V;have E:=q.w;rw[q];have p:(aW w c).getLast?=some (bJ m):=by obtain⟨n,H,M⟩:=mG.1 hm;unfold aW;rw[TD,H];simp[dF,M]
  rw[p]at X;have cO:KU y=3↔y.op=[]:=by
   unfold KU;rw[aq (by rw[E.1];exact V)];constructor
   .intro u;cases cO:y.op with|nil=>rfl|cons n r=>
     exfalso;have Y:=Ha (aW w c) (gT (gO a id)) (iz.zero (lE d) d) (by have:=g c f;simp[gT,aW];omega);rw[q]at Y;have O:∃k,y.op.getLast?=some k:=by rw[cO];exact⟨_,List.getLast?_eq_some_getLast (by simp)⟩
     obtain⟨k,Z⟩:=O;have P:=Y.op k (TQ Z);have:fZ y=some y.w[k]:=by unfold fZ;rw[Z];exact aO P
     rw[this]at u;simp only at u
     split at u<;>omega
   intro cO;have:fZ y=none:=by unfold fZ;rw[cO];rfl
   rw[this]
  rw[cO,X];constructor
  .rintro⟨m',Q,T,u⟩
   cases Q;exact⟨T,u⟩
  rintro⟨Q,T⟩
  exact⟨_,rfl,Q,T⟩
 intro j hj;have:=AV t w.length (aY _) j;simpa[fq,hj]using this
section
variable{s:HS}{e:En}
def TW(sz bx:Nat)(z:ak)(l c:bV)(s:HS):da:=match l,c with|some (.int _ (.ofNat n)),some (.int _ (.ofNat m))=>bif Nat.ble n m&&Nat.ble m bx then s.new (mB z n) (λo=>.sl o 0 n sz)else .bad|_,_=>.bad
@[simp]def abt{sz bx:Nat}{z:ak}{l c:X}:cO (.mks sz bx z l c) e s=TW sz bx z (bq l e) (bq c e) s:=rfl
def yZ(z:HV)(n:Nat):mB [z] n=List.replicate n z:=by induction n with|zero=>rfl|succ n c=>rw[mB,c,List.replicate_succ];rfl
def mc{n bx:Nat}(g:n<=bx)(z:HV):∃s',TW 1 bx [z] (some (.int .i64 (n:Int))) (some (.int .i64 (n:Int))) s=.v (.sl s.nx 0 n 1) s'/\bY s' (.sl s.nx 0 n 1) 1 (λk=>k=s.nx) (List.replicate n [z])/\di (λ_=>False) s s':=by
 refine⟨{h:=av (some (.cells (dq (mB [z] n) 0 .lf) 0 (aM (mB [z] n)) s.nx)) s.nx s.h,nx:=s.nx.succ,gr:=av (some [s.nx]) s.nx s.gr,ty:=s.ty},?_,?_,di.alloc _ _⟩
 .show(bif Nat.ble n n&&Nat.ble n bx then s.new (mB [z] n) (λo=>.sl o 0 n 1)else .bad)=_;rw[cj,cj];simp[g];rfl
 have p:=Ky.ba s.nx;refine⟨λr d=>by rw[AX d];rfl,λk q=>by subst q;simp only;omega,.inr ⟨s.nx,dq (mB [z] n) 0 .lf,aM (mB [z] n),s.nx,[],?_,?_,?_,?_,?_,by simp,by simp,rfl⟩⟩
 .simp
 .simp only;rw[af,ar rfl]
 .rw[bF,yZ];simp
 .intro j c;simp only[Cm,hU]at c;rw[fC,yZ];simp only[fD,Bq,bw,Cm,c,bf,Nat.sub_zero];have f:=gJ (au:=List.replicate n [z]) (sz:=1) (λr d=>by rw[AX d];rfl) j 0 (by simpa using c) (by omega);rw[hU,fR]at f;rw[f];simp[c]
 simp only;rw[af,ar rfl]
end
section
variable{uV:Ar}{id:Int}{w:aP}{l:dH}
end
def dT.single{s:HS}{v:HV}{sz:Nat}{F:cg}{au:aR}(h:bY s v sz F au):∃aw,dT s aw [(v,sz,au)]:=by
 classical
 refine⟨λk=>if F k then some 0 else none,λk i c=>?_,λk i c=>?_,λi p j g f=>?_⟩
 .split at c
  .rename_i d;exact h.2.1 k d
  cases c
 .split at c
  .cases c;simp
  cases c
 have:i=0:=by have:=(aV.1 f).1;simp at this;exact this
 subst this;simp only[yM,bT,oD]at f;obtain⟨rfl,rfl,rfl⟩:=f;refine h.mono (λk c=>by simp[c]) (λk c=>?_);by_cases d:F k
 .exact h.2.1 k d
 simp[d]at c
def wi{s:HS}{o:Ky}{F:cg}{u:aQ}{n:Nat}(h:bY s (.sl o 0 n 1) 1 F (u.map iC)){i:Nat}{b:Int}(c:u[i]?=some b):eN (ao s.h o) i=some (iV b):=by obtain⟨d,f⟩:=aV.1 c;rw[h.cell i (by simpa using d)];simp[f]
section
variable{x:Fa}{aZ:ck}
def Zt(hx:cJ x)(hu:aZ.length=x.nx.length){e:En}{s:HS}{o:Out}{v:HV}{of:aQ}{aw:bc}(u:bO e [(1,.psl (aZ.map bC)),(2,.ax x.c),(5,v),(6,iV 0)])(E:dT s aw [(v,1,of.map iC)])(q:of.length=x.nx.length)(ho:bK R (.loop U.pJ) e s=o):
  ∃(e':En) (s':HS) (d:aQ) (g:bc),o=.code (.exit 0) e' s'/\bO e' [(1,.psl (aZ.map bC)),(2,.ax x.c),(5,v)]/\dT s' g [(v,1,d.map iC)]/\d.length=x.nx.length/\((∀j,j<x.nx.length->of[j]?=some 0)->∀j,j<x.nx.length->d[j]?=some (KF x aZ j)):=by
 have hn:=hx.n;refine aX ho x.nx.length
  (λi e s=>∃(d:aQ) (g:bc),bO e [(1,.psl (aZ.map bC)),(2,.ax x.c),(5,v),(6,iV i)]/\dT s g [(v,1,d.map iC)]/\d.length=x.nx.length/\((∀j,j<x.nx.length->of[j]?=some 0)->(∀j,j<i->d[j]?=some (KF x aZ j))/\∀j,i<=j->j<x.nx.length->d[j]?=some 0))
  (λo=>∃(e':En) (s':HS) (d:aQ) (g:bc),o=.code (.exit 0) e' s'/\bO e' [(1,.psl (aZ.map bC)),(2,.ax x.c),(5,v)]/\dT s' g [(v,1,d.map iC)]/\d.length=x.nx.length/\((∀j,j<x.nx.length->of[j]?=some 0)->∀j,j<x.nx.length->d[j]?=some (KF x aZ j)))
  0 (by omega) ⟨of,aw,u,E,q,λh=>⟨λj D=>by omega,λj _ D=>h j D⟩⟩
  (λi e s r P ⟨d,g,u,E,q,Y⟩ z=>by
   have H:(i:Int)<x.nx.length:=by omega
   have B:i<aZ.length:=by omega
   have C:i<x.fi.length:=by have:=hx.nf;omega
   obtain⟨ob,rfl⟩:=(E.own 0 _ _ _ rfl).fY (by intro h0;have:=ct List.length h0;rw[bH]at this;simp only[aE]at this;omega);have hlen:(d.map iC).length=x.nx.length:=by rw[bH];exact q
   have Z:=bj (n:=400) (show i<400 by omega) (by omega);have f:KF x aZ i=if x.fi[i]then 2 else if aZ[i]then 1 else 0:=by unfold KF;rw[ig C,ig B]
   have y:∀(c:Int),KF x aZ i=c->∀(V:aQ),V.length=x.nx.length->(∀j,j≠i->V[j]?=d[j]?)->V[i]?=some c->((∀j,j<x.nx.length->of[j]?=some 0)->(∀j,j<i+1->V[j]?=some (KF x aZ j))/\∀j,i+1<=j->j<x.nx.length->V[j]?=some 0):=by
    intro c hc V _ h1 h2 h0;obtain⟨p1,p2⟩:=Y h0;refine⟨λj D=>?_,λj h4 h3=>?_⟩
    .by_cases X:j=i
     .subst X;rw[h2,hc]
     rw[h1 j X];exact p1 j (by omega)
    rw[h1 j (by omega)];exact p2 j (by omega) h3
   obtain⟨o1,s1,a1,b1,M⟩:=E.jg 0 rfl i (by rw[hlen];exact P) (x:=iV 1) rfl;obtain⟨o2,s2,a2,b2,Q⟩:=E.jg 0 rfl i (by rw[hlen];exact P) (x:=iV 2) rfl;simp only[aS]at M Q;obtain⟨o3,s3,a3,b3,O⟩:=M.jg 0 rfl i (by rw[iM,hlen];exact P) (x:=iV 2) rfl;simp only[aS]at O;rw[hlen]at a1 a2 a3 u;simp[P]at a1 a2 a3;subst a1;subst a2;subst a3;simp only[hU]at b1 b2 b3;simp only[ab,ae]at u;rw[show List.set (d.map iC) i [iV 1]=(d.set i 1).map iC by rw[kI]]at M O;rw[show List.set (d.map iC) i [iV 2]=(d.set i 2).map iC by rw[kI]]at Q;rw[show List.set ((d.set i 1).map iC) i [iV 2]=((d.set i 1).set i 2).map iC by simp only[kI]]at O;cases t:aZ[i]
   .cases p:x.fi[i]
    .rw[t,p]at f;simp[U.pJ,u,H,B,C,t,p,Z]at z;subst z;refine .inl ⟨_,_,rfl,d,_,by simp[u,q],E,q,λh0=>?_⟩;obtain⟨p1,p2⟩:=Y h0;exact y 0 (by simpa using f) d q (λ_ _=>rfl) (p2 i (aY _) P) h0
    rw[t,p]at f;simp[U.pJ,u,P,H,B,C,t,p,Z,b2]at z;subst z;exact .inl ⟨_,_,rfl,_,_,by simp[u,q],Q,by simp[q],y 2 (by simpa using f) _ (by simp[q]) (λj D=>ju (jB D)) (gF (by omega))⟩
   cases p:x.fi[i]
   .rw[t,p]at f;simp[U.pJ,u,P,H,B,C,t,p,Z,b1]at z;subst z;exact .inl ⟨_,_,rfl,_,_,by simp[u,q],M,by simp[q],y 1 (by simpa using f) _ (by simp[q]) (λj D=>ju (jB D)) (gF (by omega))⟩
   rw[t,p]at f;simp[U.pJ,u,P,H,B,C,t,p,Z,b1,b3]at z;subst z;exact .inl ⟨_,_,rfl,_,_,by simp[u,q],O,by simp[q],y 2 (by simpa using f) _ (by simp[q]) (λj D=>by rw[ju (jB D),ju (jB D)]) (gF (by simp;omega))⟩)
  (λe s r ⟨d,g,u,E,q,Y⟩ z=>by
   have T:=E.len 0 rfl;simp only[bH]at T;rw[q]at T;simp only[ab,ae]at u;simp[U.pJ,u,T]at z;subst z;exact⟨by simp,_,_,d,_,rfl,by simp[u],E,q,λh=>(Y h).1⟩)
def Zu(T:cJ x)(V:aZ.length=x.nx.length){of nt:aQ}(X:of.length=x.nx.length){fs:ay}(Y:fs.length<=400)(B:∀k,(h:k<fs.length)->fs[k]<x.nx.length){i:Nat}(Z:i<x.nx.length){e:En}{s:HS}{o:Out}{v5 v7 v8 v9:HV}{aw:bc}
  (d:bO e [(1,.psl (aZ.map bC)),(2,.ax x.c),(5,v5),(7,v7),(8,v8),(9,v9),(10,iV i),(11,iV 0)])(C:dT s aw [(v5,1,of.map iC),(v8,1,nt.map iC),(v9,1,fs.map nC)])(ho:bK R (.loop U.tI) e s=o):
  ∃(e':En) (k:Nat),o=.code (.exit 6) e' s/\bO e' [(1,.psl (aZ.map bC)),(2,.ax x.c),(5,v5),(7,v7),(8,v8),(9,v9),(10,iV i),(11,iV k)]/\k<=fs.length/\(∀j,(h:j<fs.length)->j<k->fu x of aZ fs[j] i=false)/\(∀h:k<fs.length,fu x of aZ fs[k] i=true):=by
 have M:=C.own 0 _ _ _ rfl;have O:=C.own 2 _ _ _ rfl;obtain⟨z,P⟩:=M.fY (by intro h0;have:=ct List.length h0;rw[bH]at this;simp only[aE]at this;omega);rw[bH]at P;subst P;have f:=C.len 2 rfl s;rw[bH]at f;have hq:=jh ho fs.length (λk=>∀h:k<fs.length,fu x of aZ fs[k] i=false)
  (λk=>[(1,.psl (aZ.map bC)),(2,.ax x.c),(5,.sl z 0 of.length 1),(7,v7),(8,v8),(9,v9),(10,iV i),(11,iV k)])
  [(1,.psl (aZ.map bC)),(2,.ax x.c),(5,.sl z 0 of.length 1),(7,v7),(8,v8),(9,v9),(10,iV i),(11,iV fs.length)] 6
  (λk o=>∃e',o=.code (.exit 6) e' s/\bO e' [(1,.psl (aZ.map bC)),(2,.ax x.c),(5,.sl z 0 of.length 1),(7,v7),(8,v8),(9,v9),(10,iV i),(11,iV k)]) d
  (λk e r t d p=>by
   have u:(k:Int)<fs.length:=by omega
   obtain⟨o9,Q⟩:=O.fY (by intro h0;have:=ct List.length h0;rw[bH]at this;simp only[aE]at this;omega);rw[bH]at Q;subst Q;have D:=O.cell k (by simpa using t);simp at D;have g:∀b,fu x of aZ fs[k] i=b->R (.call 156 [.agg x.c,.sl z 0 of.length 1,.psl (aZ.map bC),iV fs[k],iV i] s)=.val (.bool b) s:=by intro b hb;refine ae6 (l:=[.agg x.c,.psl (of.map iC),.psl (aZ.map bC),iV fs[k],iV i]) ?_ (.cons (.data (by simp)) (.cons (M.vw (by simp)) (.data (by simp)))) (by simp) rfl (λs=>by rw[agZ x T of X aZ V _ _ (B k t) Z,hb]);rw[cC,cC];simp[cr]
   simp only[ab,ae]at d;cases q:fu x of aZ fs[k] i
   .have g:=g false q;simp only[Fa.c,iV]at g;simp[U.tI,d,t,u,D,g,bj (n:=400) (show k<400 by omega) (by omega)]at p;subst p;exact .inl ⟨λ_=>q,_,rfl,by simp[d]⟩
   have g:=g true q;simp only[Fa.c,iV]at g;simp[U.tI,d,t,u,D,g]at p;subst p;exact .inr ⟨λh=>(by rw[h t]at q;cases q),by simp,_,rfl,by simp[d]⟩)
  (λe r d p=>by
   simp only[ab,ae]at d;simp[U.tI,d,f]at p;subst p;exact⟨_,rfl,by simp[d]⟩)
 rcases hq with⟨k,t,h1,h2,e',E,H⟩|⟨y,e',E,H⟩
 .refine⟨e',k,E,H,by omega,λj h hj=>h1 j hj h,λh=>?_⟩;cases q:fu x of aZ fs[k] i
  .exact absurd (λ_=>q) h2
  rfl
 exact⟨e',fs.length,E,H,aY _,λj h _=>y j h h,λh=>by omega⟩
end
def j7(l:aQ):eu (l.map iC)=true:=cq (λx=>by simp) l
section
variable{x:Fa}{aZ:ck}
def Zv(Z:cJ x)(hu:aZ.length=x.nx.length){of:aQ}(O:of.length=x.nx.length){e:En}{s:HS}{o:Out}{v5 v7 v8:HV}{nt:aQ}{aw:bc}
  (q:bO e [(1,.psl (aZ.map bC)),(2,.ax x.c),(5,v5),(7,v7),(8,v8),(9,.ai),(10,iV 0)])(g:dT s aw [(v5,1,of.map iC),(v8,1,nt.map iC),(.ai,1,[])])(hn:nt.length=x.nx.length)(M:bK R (.loop U.xM) e s=o):
  ∃(e':En) (s':HS) (v9:HV) (fs:ay) (nt:aQ) (aw:bc),o=.code (.exit 4) e' s'/\bO e' [(1,.psl (aZ.map bC)),(2,.ax x.c),(5,v5),(7,v7),(8,v8),(9,v9)]/\dT s' aw [(v5,1,of.map iC),(v8,1,nt.map iC),(v9,1,fs.map nC)]/\CG (fu x of aZ) x.nx.length fs nt x.nx.length:=by
 have h2:=Z.n;refine aX M x.nx.length
  (λi e s=>∃(v9:HV) (fs:ay) (nt:aQ) (aw:bc),bO e [(1,.psl (aZ.map bC)),(2,.ax x.c),(5,v5),(7,v7),(8,v8),(9,v9),(10,iV i)]/\dT s aw [(v5,1,of.map iC),(v8,1,nt.map iC),(v9,1,fs.map nC)]/\CG (fu x of aZ) x.nx.length fs nt i)
  (λo=>∃(e':En) (s':HS) (v9:HV) (fs:ay) (nt:aQ) (aw:bc),o=.code (.exit 4) e' s'/\bO e' [(1,.psl (aZ.map bC)),(2,.ax x.c),(5,v5),(7,v7),(8,v8),(9,v9)]/\dT s' aw [(v5,1,of.map iC),(v8,1,nt.map iC),(v9,1,fs.map nC)]/\CG (fu x of aZ) x.nx.length fs nt x.nx.length)
  0 (by omega) ⟨.ai,[],nt,aw,q,g,CG.zero hn⟩
  (λi e s r y ⟨v9,fs,nt,aw,q,g,z⟩ t=>by
   have P:(i:Int)<x.nx.length:=by omega
   have d:=g.len 0 rfl s;have B:=g.len 2 rfl s;rw[bH]at d B;rw[O]at d;have h3:=z.fl;have D:=z.len;have hw:=bj (n:=400) (show i<400 by omega) (by omega);simp only[ab,ae]at q;simp[U.xM,q,d,P]at t;generalize M:bK R (.loop U.tI) _ _=o at t;obtain⟨e1,k,rfl,j,h4,Q,T⟩:=Zu (v7:=v7) Z hu O (by omega) (λk h=>by have:=(z.fb k h).1;omega) y (by simp[q]) g M;clear M;obtain⟨o8,e8⟩:=(g.own 1 _ _ _ rfl).fY (by intro h0;have:=ct List.length h0;rw[bH]at this;simp only[aE]at this;omega);rw[bH,D]at e8;subst e8;simp only[ab,ae]at j;by_cases E:k<fs.length
   .have V:¬(k:Int)=fs.length:=by omega
    have p:¬(401:Int)<fs.length:=by omega
    obtain⟨o1,s1,H,b1,f⟩:=g.jg 1 rfl i (by rw[bH];omega) (x:=iV k) rfl;simp[y]at H;subst H;simp only[hU]at b1;simp only[cb,aS]at f;rw[show List.set (nt.map iC) i [iV k]=(nt.set i (k:Int)).map iC by rw[kI]]at f;simp[j,B,V,p,y,b1,hw]at t;subst t;exact .inl ⟨_,_,rfl,v9,fs,_,_,by simp[j],f,z.old y E (T E)⟩
   have X:k=fs.length:=by omega
   subst X;obtain⟨Y,s1,h1,H,c1,f⟩:=g.append 2 rfl (new:=[[iV i]]) (Sz.cons rfl Sz.nil) (by simp) (bx:=17592186044416) (by simp;omega);have u:=f.len 2 rfl s1;have p:¬(401:Int)<((fs.length:Nat)+1:Int):=by omega
   obtain⟨o1,s2,a2,b2,C⟩:=f.jg 1 rfl i (by rw[bH];omega) (x:=iV fs.length) rfl;simp[y]at a2;subst a2;simp only[hU]at b2;simp only[cb,aS]at C;rw[show List.set (nt.map iC) i [iV fs.length]=(nt.set i (fs.length:Int)).map iC by rw[kI],show fs.map nC++[[iV i]]=(fs++[i]).map nC by simp]at C;simp only[iV]at H;simp at u;simp[j,B,H,u,p,y,b2,hw]at t;subst t;exact .inl ⟨_,_,rfl,Y,fs++[i],_,_,by simp[j],C,z.new y FY (λa b=>rE) (λk E=>Q k E E)⟩)
  (λe s r ⟨v9,fs,nt,aw,q,g,z⟩ t=>by
   have d:=g.len 0 rfl s;rw[bH,O]at d;simp only[ab,ae]at q;simp[U.xM,q,d]at t;subst t;exact⟨by simp,_,_,v9,fs,nt,aw,rfl,by simp[q],g,z⟩)
def ag2(x:Fa)(E:cJ x)(aZ:ck)(hu:aZ.length=x.nx.length):∃r,VP x aZ r/\∀s,R (.call 141 [.agg x.c,.psl (aZ.map bC)] s)=.val (.psl (r.map iC)) s:=by
 have hn:=E.n
 suffices h:∃r,VP x aZ r/\pN [.tmp 4] (bK R U.Rf (bn [.agg x.c,.psl (aZ.map bC)] 0) s0)=some (.psl (r.map iC)) by obtain⟨r,H,q⟩:=h;exact⟨r,H,λs=>aeU q⟩
 obtain⟨s1,M,O,_⟩:=mc (s:=s0) (n:=x.nx.length) (bx:=17592186044416) (by omega) (iV 0);simp only[iV]at M;simp[U.Rf,M];obtain⟨aw,C⟩:=dT.single O;rw[show List.replicate x.nx.length [iV 0]=(List.replicate x.nx.length (0:Int)).map iC by simp]at C;generalize p:bK R (.loop U.pJ) _ _=o;obtain⟨e1,s2,of,hd,rfl,P,f,hz,d⟩:=Zt E hu (by simp) C (by simp) p;clear p;have d:=d (λj Q=>by simp[Q]);have h3:OV x aZ of:=by
  refine⟨hz,λi c hc=>?_,λi j Z Q he=>?_,λB hB i j h5=>?_⟩
  .rw[d i (by rw[<-hz];exact(aV.1 hc).1)]at hc;cases hc;unfold KF;split<;>(try split)<;>omega
  .rw[d i Z,d j Q]at he;exact kH he
  obtain⟨Z,Q,H,q⟩:=hB.fi i j h5;rw[d i Z,d j Q];unfold KF;rw[l9 H,l9 q]
 simp only[ab,ae]at P;simp;generalize p:bK R (.loop U.Fk) _ _=o;have T:=E.pos;have hq:=aX p (x.nx.length+1)
  (λi e s=>∃(v5:HV) (of:aQ) (many:Nat) (aw:bc),bO e [(1,.psl (aZ.map bC)),(2,.ax x.c),(5,v5),(7,iV many)]/\dT s aw [(v5,1,of.map iC)]/\OV x aZ of/\i<=many/\many<=x.nx.length/\(0<many->∃fs,fs.length=many/\OU x.nx.length of fs))
  (λo=>∃(e':En) (s':HS) (v8:HV) (r:aQ) (F:cg),o=.code .ret e' s'/\look e' 4=some v8/\bY s' v8 1 F (r.map iC)/\VP x aZ r)
  0 (by omega) ⟨_,of,0,_,by simp[P],f,h3,aY _,fD _,λh=>by omega⟩
  (λi e s r Z ⟨v5,of,many,aw,hL,C,V,h6,h7,hP⟩ t=>by
   have hlen:=C.len 0 rfl s;rw[bH,V.len]at hlen;obtain⟨s1,M,O,hF⟩:=mc (s:=s) (n:=x.nx.length) (bx:=17592186044416) (by omega) (iV 0);have f:=(C.join hF O (λk hk=>by subst hk;exact aY _)).push 1;rw[show List.replicate x.nx.length [iV 0]=(List.replicate x.nx.length (0:Int)).map iC by simp]at f;simp only[bB,bD]at f;simp only[ab,ae]at hL;simp only[iV]at M;simp[U.Fk,hL,hlen,M]at t;generalize p:bK R (.loop U.xM) _ _=o at t;obtain⟨e2,s2,v9,fs,nt,hf,rfl,g,u,D⟩:=Zv (v7:=iV many) E hu V.len (by simp[hL]) f (by simp) p;clear p;have y:=u.len 2 rfl s2;rw[bH]at y;have h8:=D.fl;have hg:0<fs.length:=by obtain⟨k,_,h,_⟩:=D.cl 0 T;omega
   obtain⟨h9,X⟩:=V.next D
   have hl:many<=fs.length:=by
    by_cases h0:0<many
    .obtain⟨ha,H,q⟩:=hP h0;have:=(q.G5 D.TM X).1;omega
    omega
   simp only[ab,ae]at g;by_cases he:fs.length=many
   .have z:(fs.length:Int)=many:=by omega
    obtain⟨ha,H,q⟩:=hP (by omega);simp[g,y,z]at t;subst t;exact .inr ⟨by simp,_,_,_,nt,_,rfl,by simp,u.own 1 _ _ _ rfl,V.ag1 E q D (by omega)⟩
   have z:¬(fs.length:Int)=many:=by omega
   obtain⟨Y,hb⟩:=dT.single (u.own 1 _ _ _ rfl);simp[g,y,z]at t;subst t;exact .inl ⟨_,_,rfl,_,nt,fs.length,Y,by simp[g],hb,h9,by omega,h8,λ_=>⟨fs,rfl,D.TM⟩⟩)
  (λe s r ⟨v5,of,many,aw,hL,C,V,h6,h7,hP⟩ t=>by omega)
 clear p;obtain⟨e',s',v8,r,F,rfl,h4,O,hS⟩:=hq;refine⟨r,hS,?_⟩;simp[h4];exact aC (O.vw (j7 r))
end
section
variable{s:HS}{aw:bc}{L:cS}
def dT.wj(h:dT s aw L)(i:Nat){v:HV}{sz:Nat}{au:aR}(C:L[i]?=some (v,sz,au)){new:aR}(E:Sz sz new)(h0:new≠ []){bx:Nat}(H:au.length+new.length<=bx):
  ∃p s',mW sz bx none (some v) (some (.psl new)) s=.v p s'/\cellsOf p=some [p]/\dT s' (λk=>if k=s.nx then some i else aw k) (L.set i (p,sz,au++new))/\di (λk=>aw k=some i) s s':=by
 have q:=(aV.1 C).1;obtain⟨p,s',M,r,t,g⟩:=(h.own i v sz au C).append E h0 H;have z:=Ky.ba s.nx;refine⟨p,s',M,r.one,⟨λk j c=>?_,λk j c=>?_,λj w B u y=>?_⟩,t⟩
 .rw[g]
  split at c
  .rename_i e;subst e;omega
  have:=h.bd k j c;omega
 .rw[iM]
  split at c
  .cases c;exact q
  exact h.top k j c
 rw[gS]at y;by_cases d:i=j
 .subst d;rw[ar rfl,ar q]at y;cases y;refine r.mono (λk c=>?_) (λk c=>?_)
  .rcases c with c|rfl
   .show(if k=s.nx then some i else aw k)=some i
    split
    .rfl
    exact c
   show(if s.nx=s.nx then some i else aw s.nx)=some i;rw[ar rfl]
  have c:(if k=s.nx then some i else aw k)=some i:=c;rw[g]
  split at c
  .rename_i e;subst e;omega
  have:=h.bd k i c;omega
 rw[aq d]at y;have D:=h.own j w B u y;refine(D.frame t (λk c f=>by have f:aw k=some i:=f;have c:aw k=some j:=c;rw[c]at f;cases f;exact d rfl)).mono (λk c=>?_) (λk c=>?_)
 .have O:=D.2.1 k c;show(if k=s.nx then some i else aw k)=some j;rw[aq λe=>by subst e;omega];exact c
 have c:(if k=s.nx then some i else aw k)=some j:=c;rw[g]
 split at c
 .cases c;exact absurd rfl d
 have:=h.bd k j c;omega
structure aI(s:HS)(aw:bc)(L:cS)(K:dV):Prop where
 mem:dT s aw L
 bz:∀(a:Nat) (o:Ky) (c:ak),K[a]?=some (o,c)->gD s o c/\aw o=none
 nd:∀(a b:Nat) (o:Ky) (c d:ak),K[a]?=some (o,c)->K[b]?=some (o,d)->a=b
variable{K:dV}
def aI.append(h:aI s aw L K)(i:Nat){v:HV}{sz:Nat}{au:aR}(p:L[i]?=some (v,sz,au)){new:aR}(q:Sz sz new)(h0:new≠ []){bx:Nat}(r:au.length+new.length<=bx):
  ∃d s' f,mW sz bx none (some v) (some (.psl new)) s=.v d s'/\cellsOf d=some [d]/\aI s' f (L.set i (d,sz,au++new)) K:=by
 obtain⟨d,s',t,u,y,z⟩:=h.mem.wj i p q h0 r;refine⟨d,s',_,t,u,y,λa o c B=>?_,h.nd⟩;obtain⟨g,j⟩:=h.bz a o c B;have C:=g.2.2;exact⟨g.frame z (by rw[j];simp),by rw[aq λe=>by subst e;omega];exact j⟩
def aI.jg(h:aI s aw L K)(i:Nat){v:HV}{au:aR}(z:L[i]?=some (v,1,au))(j:Nat)(D:j<au.length){x:HV}(E:cellsOf x=some [x]):
  ∃r s',FD (some v) (some (.int .i64 (j:Int))) 1 s=.v (.ptr r (j*1)) s/\qj 1 (some (.ptr r (j*1))) (some x) s=.v .undef s'/\aI s' aw (L.set i (v,1,au.set j [x])) K:=by
 have t:=(aV.1 z).1;obtain⟨r,s',H,M,O,B,P⟩:=(h.mem.own i v 1 au z).jg j D x E;refine⟨r,s',H,M,⟨λk i d=>by rw[P];exact h.mem.bd k i d,λk i d=>by rw[iM];exact h.mem.top k i d,λk w u q d=>?_⟩,λa o c Q=>?_,h.nd⟩
 .rw[gS]at d;by_cases g:i=k
  .subst g;rw[ar rfl,ar t]at d;cases d;exact O
  rw[aq g]at d;exact(h.mem.own k w u q d).frame B (λp y f=>by have f:aw p=some i:=f;have y:aw p=some k:=y;rw[y]at f;cases f;exact g rfl)
 obtain⟨T,C⟩:=h.bz a o c Q;exact⟨T.frame B (by rw[C];simp),C⟩
def aI.push(h:aI s aw L K)(sz:Nat):aI s aw (L++[(.ai,sz,[])]) K:=⟨h.mem.push sz,h.bz,h.nd⟩
def aI.frame{s':HS}(h:aI s aw L K)(d:di (λ_=>False) s s'):aI s' aw L K:=⟨h.mem.frame d,λa o c f=>⟨(h.bz a o c f).1.frame d (λh=>h),(h.bz a o c f).2⟩,h.nd⟩
def aI.cell{s':HS}(h:aI s aw L K){a:Nat}{o:Ky}{c c':ak}(r:K[a]?=some (o,c))(B:gD s' o c')(t:di (λp=>p=o) s s'):aI s' aw L (K.set a (o,c')):=by
 have C:=(aV.1 r).1;have q:=(h.bz a o c r).2;refine⟨⟨λk i j=>ej (h.mem.bd k i j) t.1,h.mem.top,λi v D u E=>(h.mem.own i v D u E).frame t (λk j e=>by have j:aw k=some i:=j;rw[e,q]at j;cases j)⟩,λb p d f=>?_,λb z p d H f y=>?_⟩
 .rw[gS]at f
  split at f
  .cases f;exact⟨B,q⟩
  rename_i g;obtain⟨M,O⟩:=h.bz b p d f;refine⟨M.frame t (λe=>?_),O⟩;subst e;exact g (h.nd a b _ c d r f)
 have key:∀(b:Nat) (d:ak),(K.set a (o,c'))[b]?=some (p,d)->∃e:ak,K[b]?=some (p,e):=by
  intro b d f;rw[gS]at f
  split at f
  .rename_i g;subst g;cases f;exact⟨c,r⟩
  exact⟨d,f⟩
 obtain⟨P,Q⟩:=key b d f;obtain⟨T,V⟩:=key z H y;exact h.nd b z p P T Q V
def aI.put(h:aI s aw L K){a:Nat}{o:Ky}{c new:ak}(d:K[a]?=some (o,c)){v:HV}(f:cellsOf v=some new)(g:new.length=c.length):∃s',qj c.length (some (.ptr o 0)) (some v) s=.v .undef s'/\aI s' aw L (K.set a (o,new)):=by obtain⟨s',j,p,q,_⟩:=(h.bz a o c d).1.put f g;exact⟨s',j,h.cell d p q⟩
def aI.y6(h:aI s aw L K){a:Nat}{o:Ky}{c:ak}(d:K[a]?=some (o,c))(k:Nat)(f:k<c.length){x:HV}(g:cellsOf x=some [x]):∃s',qj 1 (some (.ptr o k)) (some x) s=.v .undef s'/\aI s' aw L (K.set a (o,c.set k x)):=by obtain⟨s',j,p,q,_⟩:=(h.bz a o c d).1.set k f x g;exact⟨s',j,h.cell d p q⟩
end
def jK(az:cS):aR:=az.map fY
def Hb(row:bA)(aZ:ck)(m:Mv):Int:=row.foldl (λt e=>if hX aZ m e then(e.to:Int)else t) (-1)
def DY(row:bA)(e:Eg)(aZ:ck)(m:Mv):Hb (row++[e]) aZ m=if hX aZ m e then(e.to:Int)else Hb row aZ m:=by simp[Hb]
def nB(of:aQ)(c:ay)(t:Nat):Nat:=c.findIdx λj=>decide (of.getD j 0=of.getD t 0)
def rG{α:Type}{p:α->Bool}{l:List α}{i:Nat}(c:i<l.length)(d:∀j,(h:j<i)->p (l[j]'(by omega))=false)(f:p l[i]=true):l.findIdx p=i:=by rw[FH c];exact⟨f,d⟩
def Cn{α:Type}{p:α->Bool}{l:List α}(h:∀i,(c:i<l.length)->p l[i]=false):l.findIdx p=l.length:=by rw[TX];intro a d;obtain⟨i,c,rfl⟩:=eH.1 d;exact h i c
def ik{s:HS}{o:Ky}{F:cg}{u:ay}{n:Nat}(h:bY s (.sl o 0 n 1) 1 F (u.map nC)){i:Nat}(c:i<u.length):eN (ao s.h o) i=some (iV u[i]):=by rw[h.cell i (by simpa using c)];simp
def getD_at{α:Type}{l:List α}{i:Nat}(h:i<l.length)(d:α):l.getD i d=l[i]:=by rw[dF,aO h];rfl
section
variable{x:Fa}{aZ:ck}{of:aQ}
def Zw(Y:cJ x)(hu:aZ.length=x.nx.length){d:ay}{j:Nat}(C:j<d.length)(H:d[j]<x.nx.length){ms:aP}{k:Nat}(Q:k<ms.length){e:En}{s:HS}{o:Out}{o2 o5 o6:Ky}{v8:HV}{aw:bc}{L:cS}{K:dV}
  (g:bO e [(1,.ax x.c),(2,.ptr o2 0),(3,.psl (aZ.map bC)),(4,.psl (of.map iC)),(5,.ptr o5 0),(6,.sl o6 0 d.length 1),(7,iV j),(8,v8),(9,.psl (ms.map Mv.c)),(10,iV k),(11,iV (-1)),(12,iV 0)])
  (B:aI s aw L K)(h0:L[0]?=some (.sl o6 0 d.length 1,1,d.map nC))(Z:bK R (.loop U.rj) e s=o):
  ∃e' s',o=.code (.exit 4) e' s'/\aI s' aw L K/\bO e' [(1,.ax x.c),(2,.ptr o2 0),(3,.psl (aZ.map bC)),(4,.psl (of.map iC)),(5,.ptr o5 0),(6,.sl o6 0 d.length 1),(7,iV j),(8,v8),(9,.psl (ms.map Mv.c)),(10,iV k),(11,iV (Hb x.nx[d[j]] aZ ms[k]))]:=by
 have hq:=OT Z (λs=>aI s aw L K) B x.nx[d[j]].length (λ_=>True)
  (λn=>[(1,.ax x.c),(2,.ptr o2 0),(3,.psl (aZ.map bC)),(4,.psl (of.map iC)),(5,.ptr o5 0),(6,.sl o6 0 d.length 1),(7,iV j),(8,v8),(9,.psl (ms.map Mv.c)),(10,iV k),(11,iV (Hb (x.nx[d[j]].take n) aZ ms[k])),(12,iV n)])
  [(1,.ax x.c),(2,.ptr o2 0),(3,.psl (aZ.map bC)),(4,.psl (of.map iC)),(5,.ptr o5 0),(6,.sl o6 0 d.length 1),(7,iV j),(8,v8),(9,.psl (ms.map Mv.c)),(10,iV k),(11,iV (Hb x.nx[d[j]] aZ ms[k]))] 4 (λ_ _=>False) (by simpa[Hb]using g)
  (λn e s r M B g t=>by
   have D:(n:Int)<x.nx[d[j]].length:=by omega
   have h4:=Y.row H;have h5:=Y.to _ (bX H) _ (bX M);have T:=bj (n:=6000) (show n<6000 by omega) (by omega);have p:=rC (x.nx[d[j]][n]).m ms[k];have O:=ik (B.mem.own 0 _ _ _ h0) C;have u:=B.frame (di.alloc (s:=s) (.cells (cR (x.nx[d[j]][n]).c) 0 5 s.nx) [s.nx]);have V:eN (ao (av (some (.cells (cR [HV.int .i64 0,.int .i64 0,.int .u8 0,.int .i64 0,.int .i64 0]) 0 5 s.nx)) s.nx s.h) o6) j=some (iV d[j]):=ik ((B.frame (di.alloc (s:=s) (.cells (cR [HV.int .i64 0,.int .i64 0,.int .u8 0,.int .i64 0,.int .i64 0]) 0 5 s.nx) [s.nx])).mem.own 0 _ _ _ h0) C;have q:ao (HS.mk (av (some (.cells (cR (x.nx[d[j]][n]).c) 0 5 s.nx)) s.nx s.h) s.nx.succ (av (some [s.nx]) s.nx s.gr) s.ty).h s.nx=some (.cells (cR (x.nx[d[j]][n]).c) 0 5 s.nx):=by simp
   generalize y:HS.mk (av (some (.cells (cR (x.nx[d[j]][n]).c) 0 5 s.nx)) s.nx s.h) s.nx.succ (av (some [s.nx]) s.nx s.gr) s.ty=S1 at q u;have E:(x.nx[d[j]][n]).to<aZ.length:=by omega
   have X:hX aZ ms[k] x.nx[d[j]][n]=(decide ((x.nx[d[j]][n]).m=ms[k])&&aZ[(x.nx[d[j]][n]).to]):=by unfold hX;rw[getD_at E]
   have f:=DY (x.nx[d[j]].take n) x.nx[d[j]][n] aZ ms[k];rw[<-List.take_succ_eq_append_getElem M,X]at f;simp only[ab,ae]at g;simp only[Eg.c]at y q;simp only[Mv.c]at p;by_cases P:(x.nx[d[j]][n]).m=ms[k]
   .rw[cV P]at p f;cases z:aZ[(x.nx[d[j]][n]).to]
    .rw[z]at f;simp[U.rj,g,C,H,Q,M,D,T,O,V,ah,an,aj,y,q,p,E,z]at t;subst t;exact .inl ⟨trivial,_,_,rfl,u,by simp[g,f]⟩
    rw[z]at f;simp[U.rj,g,C,H,Q,M,D,T,O,V,ah,an,aj,y,q,p,E,z]at t;subst t;exact .inl ⟨trivial,_,_,rfl,u,by simp[g,f]⟩
   rw[cu P]at p f;simp[U.rj,g,C,H,Q,M,D,T,O,V,ah,an,aj,y,q,p]at t;subst t;exact .inl ⟨trivial,_,_,rfl,u,by simp[g,f]⟩)
  (λe s r B g t=>by
   have O:=ik (B.mem.own 0 _ _ _ h0) C;simp only[ab,ae]at g;simp[U.rj,g,C,H,O]at t;subst t;exact⟨_,_,rfl,B,by simp[g]⟩)
 rcases hq with⟨_,_,_,_,h⟩|⟨_,e',s',h1,h2,h3⟩
 .exact h.elim
 exact⟨e',s',h1,h2,h3⟩
def Zx(M:of.length=x.nx.length){d:ay}(O:∀j∈d,j<x.nx.length)(hl:d.length<=400){t:Nat}(ht:t<x.nx.length){e:En}{s:HS}{o:Out}{o2 o5 o6:Ky}{v3 v7 v8 v9 v10:HV}{F:cg}
  (f:bO e [(1,.ax x.c),(2,.ptr o2 0),(3,v3),(4,.psl (of.map iC)),(5,.ptr o5 0),(6,.sl o6 0 d.length 1),(7,v7),(8,v8),(9,v9),(10,v10),(11,iV t),(14,iV 0)])
  (P:bY s (.sl o6 0 d.length 1) 1 F (d.map nC))(Q:bK R (.loop U.tD) e s=o):
  ∃e',o=.code (.exit 6) e' s/\bO e' [(1,.ax x.c),(2,.ptr o2 0),(3,v3),(4,.psl (of.map iC)),(5,.ptr o5 0),(6,.sl o6 0 d.length 1),(7,v7),(8,v8),(9,v9),(10,v10),(11,iV t),(14,iV (nB of d t))]:=by
 have p:t<of.length:=by omega
 have T:=jh Q d.length (λk=>∀h:k<d.length,decide (of.getD d[k] 0=of.getD t 0)=false)
  (λk=>[(1,.ax x.c),(2,.ptr o2 0),(3,v3),(4,.psl (of.map iC)),(5,.ptr o5 0),(6,.sl o6 0 d.length 1),(7,v7),(8,v8),(9,v9),(10,v10),(11,iV t),(14,iV k)])
  [(1,.ax x.c),(2,.ptr o2 0),(3,v3),(4,.psl (of.map iC)),(5,.ptr o5 0),(6,.sl o6 0 d.length 1),(7,v7),(8,v8),(9,v9),(10,v10),(11,iV t),(14,iV d.length)] 6
  (λk o=>∃e',o=.code (.exit 6) e' s/\bO e' [(1,.ax x.c),(2,.ptr o2 0),(3,v3),(4,.psl (of.map iC)),(5,.ptr o5 0),(6,.sl o6 0 d.length 1),(7,v7),(8,v8),(9,v9),(10,v10),(11,iV t),(14,iV k)]) f
  (λk e r g f q=>by
   have u:(k:Int)<d.length:=by omega
   have B:d[k]<of.length:=by have:=O _ (bX g);omega
   have V:=bj (n:=400) (show k<400 by omega) (by omega);have D:=ik P g;have E:=getD_at B (0:Int);have H:=getD_at p (0:Int);simp only[ab,ae]at f;by_cases z:of[d[k]]=of[t]
   .simp[U.tD,f,g,u,B,p,D,z]at q;subst q;exact .inr ⟨λh=>(by have:=h g;rw[E,H,z]at this;simp at this),by simp,_,rfl,by simp[f]⟩
   simp[U.tD,f,g,u,B,p,V,D,z]at q;subst q;exact .inl ⟨λ_=>(by rw[E,H];simp[z]),_,rfl,by simp[f]⟩)
  (λe r f q=>by
   simp only[ab,ae]at f;simp[U.tD,f]at q;subst q;exact⟨_,rfl,by simp[f]⟩)
 unfold nB;rcases T with⟨k,g,X,Y,e',rfl,C⟩|⟨y,e',rfl,C⟩
 .have Z:decide (of.getD d[k] 0=of.getD t 0)=true:=by
   cases h:decide (of.getD d[k] 0=of.getD t 0)
   .exact absurd (λ_=>h) Y
   rfl
  rw[rG g (λj hj=>X j hj (by omega)) Z];exact⟨e',rfl,C⟩
 rw[Cn (λk g=>y k g g)];exact⟨e',rfl,C⟩
end
def qu(row:bA)(aZ:ck)(m:Mv):Hb row aZ m= -1∨∃e∈row,hX aZ m e=true/\Hb row aZ m=(e.to:Int):=by
 rcases ly row with h|⟨r,e,h⟩
 .subst h;exact .inl rfl
 rw[h,yD,DY]
 split
 .rename_i d;exact .inr ⟨e,by simp,d,rfl⟩
 rcases qu r aZ m with c|⟨f,c,g,j⟩
 .exact .inl c
 exact .inr ⟨f,by simp[c],g,j⟩
termination_by row.length
decreasing_by simp[h]
def zz(of:aQ)(aZ:ck)(row:bA)(p:List Nat×List Eg)(m:Mv):List Nat×List Eg:=
 let t:=Hb row aZ m
 if t<0 then p else
  let a:=nB of p.1 t.toNat
  (if a=p.1.length then p.1++[t.toNat]else p.1,p.2++[⟨m,a⟩])
def nk(of:aQ)(aZ:ck)(row:bA)(c:ay)(ms:aP):List Nat×List Eg:=ms.foldl (zz of aZ row) (c,[])
def IS(of:aQ)(aZ:ck)(row:bA)(c:ay)(ms:aP)(m:Mv):nk of aZ row c (ms++[m])=zz of aZ row (nk of aZ row c ms) m:=by simp[nk]
structure hY(n:Nat)(of:aQ)(met:ay):Prop where
 lt:∀j∈met,j<n
 nd:(met.map λj=>of.getD j 0).Nodup
def y7:∀(n:Nat) (l:ay),l.Nodup->(∀k∈l,k<n)->l.length<=n
 |0,l,_,h=>by cases l with|nil=>simp|cons a r=>have:=h a (by simp);omega
 |n+1,l,c,h=>by
  have d:=y7 n (l.erase n) (c.erase n) (λk f=>by
   have g:=h k (List.mem_of_mem_erase f);have j:k≠n:=λe=>by subst e;exact c.not_mem_erase f
   omega)
  rw[List.length_erase]at d
  split at d<;>omega
def hY.len{n:Nat}{of:aQ}{c:ay}(h:hY n of c):c.length<=n:=
 y7 n c (List.Pairwise.of_map _ (λa b (d:of.getD a 0≠of.getD b 0) e=>d (by rw[e])) h.nd) h.lt
def DZ{α:Type}(a b c:α)(M:List α):(a::(M++[b])).set (M.length+1) c=a::(M++[c]):=by simp
def D0{α:Type}(a b:α)(M:List α):(a::(M++[b]))[M.length+1]?=some b:=by simp
def TY{of:aQ}{c:ay}{t:Nat}:nB of c t<=c.length:=List.findIdx_le_length
def hY.snoc{n:Nat}{of:aQ}{c:ay}(h:hY n of c){t:Nat}(p:t<n)(q:nB of c t=c.length):hY n of (c++[t]):=by
 refine⟨λj d=>?_,?_⟩
 .rcases cG.1 d with f|f
  .exact h.lt j f
  rw[dE.1 f];exact p
 rw[eD,cL,qX];refine BD.2 ⟨h.nd,by simp,λa g b r=>?_⟩;rw[dE.1 r];obtain⟨j,d,rfl⟩:=dA.1 g;have:=(TX.1 q) j d;simpa using this
section
variable{x:Fa}{aZ:ck}{of:aQ}
def Zy(hx:cJ x)(hu:aZ.length=x.nx.length)(h3:of.length=x.nx.length){f:ay}(h0:hY x.nx.length of f){j i:Nat}(C:f[j]?=some i){ms:aP}(h8:ms.length<=6000){e:En}{s:HS}{o:Out}{o2 o5:Ky}{v6:HV}{aw:bc}{M:cS}{K:dV}
  (B:bO e [(1,.ax x.c),(2,.ptr o2 0),(3,.psl (aZ.map bC)),(4,.psl (of.map iC)),(5,.ptr o5 0),(6,v6),(7,iV j),(8,.ai),(9,.psl (ms.map Mv.c)),(10,iV 0)])
  (H:aI s aw ((v6,1,f.map nC)::(M++[(.ai,5,[])])) K)(O:bK R (.loop U.xI) e s=o):
  ∃(e':En) (s':HS) (aw:bc) (v6 v8:HV) (d:ay) (es:bA),o=.code (.exit 2) e' s'/\bO e' [(1,.ax x.c),(2,.ptr o2 0),(3,.psl (aZ.map bC)),(4,.psl (of.map iC)),(5,.ptr o5 0),(6,v6),(7,iV j),(8,v8)]/\
   aI s' aw ((v6,1,d.map nC)::(M++[(v8,5,es.map Eg.c)])) K/\(d,es)=nk of aZ (x.nx.getD i []) f ms/\hY x.nx.length of d/\d[j]?=some i/\es.length<=ms.length:=by
 have T:i<x.nx.length:=h0.lt i (cH C);have hn:=hx.n;refine aX O ms.length
  (λk e s=>∃(aw:bc) (v6 v8:HV) (d:ay) (es:bA),bO e [(1,.ax x.c),(2,.ptr o2 0),(3,.psl (aZ.map bC)),(4,.psl (of.map iC)),(5,.ptr o5 0),(6,v6),(7,iV j),(8,v8),(9,.psl (ms.map Mv.c)),(10,iV k)]/\
   aI s aw ((v6,1,d.map nC)::(M++[(v8,5,es.map Eg.c)])) K/\(d,es)=nk of aZ (x.nx.getD i []) f (ms.take k)/\hY x.nx.length of d/\d[j]?=some i/\es.length<=k)
  (λo=>∃(e':En) (s':HS) (aw:bc) (v6 v8:HV) (d:ay) (es:bA),o=.code (.exit 2) e' s'/\bO e' [(1,.ax x.c),(2,.ptr o2 0),(3,.psl (aZ.map bC)),(4,.psl (of.map iC)),(5,.ptr o5 0),(6,v6),(7,iV j),(8,v8)]/\
   aI s' aw ((v6,1,d.map nC)::(M++[(v8,5,es.map Eg.c)])) K/\(d,es)=nk of aZ (x.nx.getD i []) f ms/\hY x.nx.length of d/\d[j]?=some i/\es.length<=ms.length)
  0 (by omega) ⟨aw,v6,.ai,f,[],B,H,rfl,h0,C,by simp⟩
  (λk e s r hk ⟨aw,v6,v8,d,es,B,H,hR,P,C,he⟩ u=>by
   obtain⟨Q,V⟩:=aV.1 C;have h4:(k:Int)<ms.length:=by omega
   have hw:=bj (n:=6000) (show k<6000 by omega) (by omega);have h9:=P.len;obtain⟨o6,rfl⟩:=(H.mem.own 0 _ _ _ rfl).fY (by intro h;have:=ct List.length h;simp at this;subst this;simp at Q);rw[bH]at B H;have q:nk of aZ (x.nx.getD i []) f (ms.take (k+1))=zz of aZ (x.nx.getD i []) (d,es) ms[k]:=by rw[eW hk,IS,<-hR]
   rw[getD_at T]at q;simp only[ab,ae]at B;simp-implicitDefEqProofs[U.xI,B,h4]at u;generalize O:bK R (.loop U.rj) _ _=o at u;obtain⟨e1,s1,rfl,D,p⟩:=Zw (o2:=o2) (o5:=o5) (of:=of) (v8:=v8) (ms:=ms) hx hu Q (by rw[V];exact T) hk (by simp[B]) H rfl O;clear O;simp only[V]at p;rcases qu x.nx[i] aZ ms[k]with X|⟨g,h5,hb,X⟩
   .rw[X]at p;simp only[ab,ae]at p;simp-implicitDefEqProofs[p,hw]at u;subst u;refine .inl ⟨_,_,rfl,_,_,_,d,es,by simp[p],D,?_,P,C,by omega⟩;rw[getD_at T,q];simp[zz,X]
   rw[X]at p;have Y:=hx.to _ (bX T) _ h5;have Z:¬((g.to:Int)<0):=by omega
   have qz:zz of aZ x.nx[i] (d,es) ms[k]=(if nB of d g.to=d.length then d++[g.to]else d,es++[Eg.mk ms[k] (nB of d g.to)]):=by simp[zz,X,Z]
   rw[qz]at q;simp only[ab,ae]at p;simp-implicitDefEqProofs[p,Z]at u;generalize O:bK R (.loop U.tD) _ _=o at u;obtain⟨e2,rfl,y⟩:=Zx (o2:=o2) (o5:=o5) (v3:=.psl (aZ.map bC)) (v7:=iV j) (v8:=v8) (v9:=.psl (ms.map Mv.c)) (v10:=iV k) (t:=g.to) h3 P.lt (by omega) Y (by simp[p]) (D.mem.own 0 _ _ _ rfl) O;clear O;simp only[ab,ae]at y;by_cases ha:nB of d g.to=d.length
   .rw[ar ha]at q;have E:(nB of d g.to:Int)=d.length:=by omega
    obtain⟨hd,s2,h7,a1,c1,h1⟩:=D.append 0 rfl (new:=[[iV g.to]]) (Sz.cons rfl Sz.nil) (by simp) (bx:=17592186044416) (by simp;omega);simp only[aS]at h1;obtain⟨h6,s3,h2,a2,c2,z⟩:=h1.append (M.length+1) (D0 _ _ _) (new:=[(Eg.mk ms[k] (nB of d g.to)).c]) (Sz.cons rfl Sz.nil) (by simp) (bx:=3518437208883) (by simp;omega);rw[DZ,show d.map nC++[[iV g.to]]=(d++[g.to]).map nC by simp,show es.map Eg.c++[(Eg.mk ms[k] (nB of d g.to)).c]=(es++[Eg.mk ms[k] (nB of d g.to)]).map Eg.c by simp]at z;simp only[iV]at a1;simp only[Eg.c,E]at a2;simp[y,E,hk,a1,a2,hw]at u;subst u;exact .inl ⟨_,_,rfl,_,_,_,d++[g.to],es++[Eg.mk ms[k] (nB of d g.to)],by simp[y],z,by rw[getD_at T,q],P.snoc Y ha,by rw[ek Q];exact C,by simp;omega⟩
   rw[aq ha]at q;have E:¬(nB of d g.to:Int)=d.length:=by omega
   obtain⟨h6,s3,h2,a2,c2,z⟩:=D.append (M.length+1) (D0 _ _ _) (new:=[(Eg.mk ms[k] (nB of d g.to)).c]) (Sz.cons rfl Sz.nil) (by simp) (bx:=3518437208883) (by simp;omega);rw[DZ,show es.map Eg.c++[(Eg.mk ms[k] (nB of d g.to)).c]=(es++[Eg.mk ms[k] (nB of d g.to)]).map Eg.c by simp]at z;simp only[Eg.c]at a2;simp[y,E,hk,a2,hw]at u;subst u;exact .inl ⟨_,_,rfl,_,_,_,d,es++[Eg.mk ms[k] (nB of d g.to)],by simp[y],z,by rw[getD_at T,q],P,C,by simp;omega⟩)
  (λe s r ⟨aw,v6,v8,d,es,B,H,hR,P,C,he⟩ u=>by
   simp only[ab,ae]at B;simp[U.xI,B]at u;subst u;rw[j0]at hR;exact⟨by simp,_,_,aw,v6,v8,d,es,rfl,by simp[B],H,hR,P,C,he⟩)
end
def cK(x:Fa)(of:aQ)(aZ:ck):Nat->List Nat×List bA×List Bool
 |0=>([0],[],[])
 |i+1=>
  let p:=cK x of aZ i
  if i<p.1.length then
   let row:=x.nx.getD (p.1.getD i 0) [];let q:=nk of aZ row p.1 (pV row)
   (q.1,p.2.1++[q.2],p.2.2++[x.fi.getD (p.1.getD i 0) false])
  else p
def KX{x:Fa}{of:aQ}{aZ:ck}{i:Nat}{c:ay}{rows:List bA}{fin:ck}(h:(c,rows,fin)=cK x of aZ i)(f:i<c.length){d:ay}{es:bA}(g:(d,es)=nk of aZ (x.nx.getD c[i] []) c (pV (x.nx.getD c[i] []))):
  (d,rows++[es],fin++[x.fi.getD c[i] false])=cK x of aZ (i+1):=by
 rw[cK,<-h];simp only[f,bf,getD_at f];rw[<-g]
def sB{x:Fa}{of:aQ}{aZ:ck}{i:Nat}(h:(cK x of aZ i).1.length<=i)(d:Nat):cK x of aZ (i+d)=cK x of aZ i:=by induction d with|zero=>rfl|succ d c=>show cK x of aZ ((i+d)+1)=_;rw[cK,c];simp only[];rw[aq (by omega)]
def oI(x:Fa)(of:aQ)(aZ:ck):Fa:=⟨(cK x of aZ x.nx.length).2.1,(cK x of aZ x.nx.length).2.2⟩
section
variable{x:Fa}{aZ:ck}{of:aQ}
def Zz(O:cJ x)(hu:aZ.length=x.nx.length)(h5:of.length=x.nx.length){e:En}{s:HS}{o:Out}{o2 o5:Ky}{v6:HV}{aw:bc}
  (g:bO e [(1,.ax x.c),(2,.ptr o2 0),(3,.psl (aZ.map bC)),(4,.psl (of.map iC)),(5,.ptr o5 0),(6,v6),(7,iV 0)])
  (p:aI s aw [(v6,1,[0].map nC),(.ai,1,[]),(.ai,1,[])] [(o5,[.ai,.ai]),(o2,[.ai,.ai])])(ho:bK R (.loop U.tE) e s=o):
  ∃(e':En) (s':HS) (aw:bc) (v6 vN vF:HV) (d:ay) (az:cS),o=.code (.exit 0) e' s'/\bO e' [(2,.ptr o2 0),(5,.ptr o5 0)]/\
   aI s' aw ((v6,1,d.map nC)::(vN,1,az.map fY)::(vF,1,(oI x of aZ).fi.map bC)::az) [(o5,[vN,vF]),(o2,[.ai,.ai])]/\az.map (·.2)=(oI x of aZ).nx.map (λes=>(5,es.map Eg.c)):=by
 have hn:=O.n;have k0:=O.nf;have ht:=O.pos;refine aX ho x.nx.length
  (λi e s=>∃(aw:bc) (v6 vN vF:HV) (d:ay) (az:cS) (rows:List bA) (fin:ck),bO e [(1,.ax x.c),(2,.ptr o2 0),(3,.psl (aZ.map bC)),(4,.psl (of.map iC)),(5,.ptr o5 0),(6,v6),(7,iV i)]/\
   aI s aw ((v6,1,d.map nC)::(vN,1,az.map fY)::(vF,1,fin.map bC)::az) [(o5,[vN,vF]),(o2,[.ai,.ai])]/\az.map (·.2)=rows.map (λes=>(5,es.map Eg.c))/\(d,rows,fin)=cK x of aZ i/\hY x.nx.length of d/\i<=d.length/\0<d.length/\az.length=i/\fin.length=i)
  (λo=>∃(e':En) (s':HS) (aw:bc) (v6 vN vF:HV) (d:ay) (az:cS),o=.code (.exit 0) e' s'/\bO e' [(2,.ptr o2 0),(5,.ptr o5 0)]/\
   aI s' aw ((v6,1,d.map nC)::(vN,1,az.map fY)::(vF,1,(oI x of aZ).fi.map bC)::az) [(o5,[vN,vF]),(o2,[.ai,.ai])]/\az.map (·.2)=(oI x of aZ).nx.map (λes=>(5,es.map Eg.c)))
  0 (by omega) ⟨aw,v6,.ai,.ai,[0],[],[],[],g,p,rfl,rfl,⟨λj hj=>by simp at hj;omega,by simp⟩,by simp,by simp,rfl,rfl⟩
  (λi e s r hi ⟨aw,v6,vN,vF,d,az,rows,fin,g,p,hI,P,Q,h6,hp,T,V⟩ u=>by
   have hw:=bj (n:=400) (show i<400 by omega) (by omega);have h7:=Q.len;obtain⟨o6,rfl⟩:=(p.mem.own 0 _ _ _ rfl).fY (by intro h;have:=ct List.length h;simp at this;subst this;simp at hp);rw[bH]at g p;simp only[ab,ae]at g;by_cases X:i<d.length
   .have q:(i:Int)<d.length:=by omega
    have hm:=Q.lt _ (bX X);have g6:=ik (p.mem.own 0 _ _ _ rfl) X;have C:=Zm x.nx O.rows [d[i]] (by simp) (by simpa using hm) s0;rw[show ga x.nx [d[i]]=x.nx.getD d[i] [] by simp[ga]]at C;have t:R (.call 142 [.agg [.psl (x.nx.map oM),.ai,.ai],.psl [[iV d[i]]]] s)=.val (.psl ((pV (x.nx.getD d[i] [])).map Mv.c)) s:=by
     refine yN 142 U.f142 _ [.agg [.psl (x.nx.map oM),.psl [],.psl []],.psl [[iV d[i]]]] _ s rfl rfl rfl ?_ (by simp[du,eh]) ?_ (by simp) C
     .have:=gA _ (pR x.nx);simp only[cC,cr,this,im,jS]
     have:=iQ _ (pR x.nx);simp only[oN,nn,this,qy]
    simp only[iV]at t;have Y:(pV (x.nx.getD d[i] [])).length<=6000:=by have h1:=sw (x.nx.getD d[i] []);rw[getD_at hm]at h1 ⊢;have:=O.row hm;omega
    simp[U.tE,g,X,q,g6,t]at u;generalize ho:bK R (.loop U.xI) _ _=o at u;obtain⟨e1,s1,hy,v6,E,D,es,rfl,y,f,hR,h8,h9,k1⟩:=Zy (o2:=o2) (o5:=o5) (ms:=pV (x.nx.getD d[i] [])) (M:=(vN,1,az.map fY)::(vF,1,fin.map bC)::az) O hu h5 Q (j:=i) (aO X) Y (by simp[g]) (p.push 5) ho;clear ho;obtain⟨z,ha⟩:=aV.1 h9;obtain⟨hb,rfl⟩:=(f.mem.own 0 _ _ _ rfl).fY (by intro h;have:=ct List.length h;simp at this;subst this;simp at z);rw[bH]at y f;simp only[bB]at f;have c8:cellsOf E=some [E]:=(f.mem.own (az.length+3) E 5 _ (by simp;rfl)).one;have g1:=ik (f.mem.own 0 _ _ _ rfl) z;have hd:=(f.bz 0 o5 _ rfl).1.1;obtain⟨hf,s2,hz,a1,c1,B⟩:=f.append 1 rfl (new:=[[E]]) (Sz.cons rfl Sz.nil) (by simp) (bx:=5864062014805) (by simp;omega);simp only[cb,aS]at B;have g2:=ik (B.mem.own 0 _ _ _ rfl) z;have hg:=(B.bz 0 o5 _ rfl).1.1;rw[ha]at g1 g2;have Z:d[i]<x.fi.length:=by omega
    obtain⟨hl,s3,h2,a2,c2,h3⟩:=B.append 2 rfl (new:=[bC x.fi[d[i]]]) (Sz.cons rfl Sz.nil) (by simp) (bx:=140737488355328) (by simp;omega);simp only[cb,aS]at h3;obtain⟨s4,b1,h4⟩:=h3.y6 (a:=0) rfl 0 (by simp) c1;simp only[aS]at h4;obtain⟨s5,b2,H⟩:=h4.y6 (a:=0) rfl 1 (by simp) c2;simp only[cb,aS]at H;simp only[bC]at a2;simp only[ab,ae]at y;simp[y,hd,hg,z,g1,g2,Z,c8,a1,a2,b1,b2,hw]at u;subst u;have qz:=KX P X hR;refine .inl ⟨_,_,rfl,h2,.sl hb 0 D.length 1,hf,hl,D,az++[(E,5,es.map Eg.c)],rows++[es],fin++[x.fi[d[i]]],by simp[y],?_,by simp[hI],?_,h8,by omega,by omega,by simp[T,V]⟩
    .rw[show az.map fY++[[E]]=(az++[(E,5,es.map Eg.c)]).map fY by simp,show fin.map bC++[bC x.fi[d[i]]]=(fin++[x.fi[d[i]]]).map bC by simp]at H;exact H
    rw[getD_at Z]at qz;exact qz
   have hs:i=d.length:=by omega
   have q:¬(i:Int)<d.length:=by omega
   simp[U.tE,g,q]at u;subst u;have qz:=sB (x:=x) (of:=of) (aZ:=aZ) (i:=i) (by rw[<-P];exact pz hs.symm) (x.nx.length-i);rw[show i+(x.nx.length-i)=x.nx.length by omega,<-P]at qz;have hq:oI x of aZ=⟨rows,fin⟩:=by unfold oI;rw[qz]
   rw[hq];exact .inr ⟨by simp,_,_,_,_,_,_,d,az,rfl,by simp[g],p,hI⟩)
  (λe s r ⟨aw,v6,vN,vF,d,az,rows,fin,g,p,hI,P,Q,h6,hp,T,V⟩ u=>by
   have h7:=Q.len;obtain⟨o6,rfl⟩:=(p.mem.own 0 _ _ _ rfl).fY (by intro h;have:=ct List.length h;simp at this;subst this;simp at hp);rw[bH]at g p;simp only[ab,ae]at g;have q:¬(x.nx.length:Int)<d.length:=by omega
   simp[U.tE,g,q]at u;subst u;have hq:oI x of aZ=⟨rows,fin⟩:=by unfold oI;rw[<-P]
   rw[hq];exact⟨by simp,_,_,_,_,_,_,d,az,rfl,by simp[g],p,hI⟩)
end
def ZA:∃aw,aI (HS.mk (.nd (some (.cells (cR [.ai,.ai]) 0 2 .e)) (.nd (some (.cells (cR [.ai,.ai]) 0 2 (.z .e))) .lf .lf) (.nd (some (.cells (cR [.int .i64 0]) 0 1 (.o .e))) .lf .lf)) (.z (.z .e)) (.nd (some [.e]) (.nd (some [.z .e]) .lf .lf) (.nd (some [.o .e]) .lf .lf)) .lf) aw
  [(.sl (.o .e) 0 1 1,1,[0].map nC),(.ai,1,[]),(.ai,1,[])] [(.z .e,[.ai,.ai]),(.e,[.ai,.ai])]:=by
 have f:∀(k:Ky) (i:Nat),(if k=Ky.o .e then some 0 else none)=some i->k.toNat<3/\i=0:=λk i p=>by
  by_cases h:k=.o .e
  .subst h;rw[ar rfl]at p;cases p;exact⟨by decide,rfl⟩
  rw[aq h]at p;cases p
 refine⟨λk=>if k=.o .e then some 0 else none,⟨λk i p=>(f k i p).1,λk i p=>by rw[(f k i p).2];decide,λi v B t q=>?_⟩,λa o c g=>?_,λa b o c d g f=>?_⟩
 .match i,q with
  |0,q=>
   cases q;refine⟨Sz.cons rfl Sz.nil,λk p=>(f k _ p).1,.inr ⟨.o .e,_,_,.o .e,[],rfl,rfl,by decide,λj u=>?_,rfl,by simp,λm y=>?_,ar rfl⟩⟩
   .have r:j=0:=by simp at u;omega
    subst r;rfl
   rw[dE.1 y];exact ar rfl
  |1,q=>cases q;exact⟨Sz.nil,λk p=>(f k _ p).1,.inl ⟨rfl,rfl⟩⟩
  |2,q=>cases q;exact⟨Sz.nil,λk p=>(f k _ p).1,.inl ⟨rfl,rfl⟩⟩
  |n+3,q=>simp at q
 .match a,g with
  |0,g=>cases g;exact⟨⟨rfl,rfl,by decide⟩,rfl⟩
  |1,g=>cases g;exact⟨⟨rfl,rfl,by decide⟩,rfl⟩
  |n+2,g=>simp at g
 match a,b,g,f with
 |0,0,_,_=>rfl
 |1,1,_,_=>rfl
 |0,1,g,f=>cases g;cases f
 |1,0,g,f=>cases g;cases f
 |n+2,_,g,_=>simp at g
 |0,n+2,_,f=>simp at f
 |1,n+2,_,f=>simp at f
def ag3(x:Fa)(C:cJ x):∃(u:ck) (y:Fa),ng x u/\(u[0]?=some false->y=mY)/\(u[0]?=some true->∃of,VP x u of/\y=oI x of u)/\∀s,R (.call 108 [.agg x.c] s)=.val (.agg y.c) s:=by
 obtain⟨u,D,d⟩:=agY x C;obtain⟨of,T,q⟩:=ag2 x C u D.1;simp only[Fa.c]at d q;have t:=agy;simp only[mY,Fa.c]at t;have E:=C.pos;have B:0<u.length:=by rw[D.1];exact E
 have h0:u[0]?=some u[0]:=aO B;have V:of≠ []:=by have:=T.cls.len;intro h;subst h;simp at this;omega
 have X:∀s,DH 0 false (some (.psl (of.map iC))) s=.v (.bool false) s:=λs=>by cases of with|nil=>exact absurd rfl V|cons a r=>rfl
 cases Q:u[0]
 .rw[Q]at h0;refine⟨u,mY,D,λ_=>rfl,λh=>(by rw[h0]at h;cases h),λs=>YI ?_⟩;simp[U.Qv,s0,d,B,Q,t,ah,an,aj];simp[aa,mY]
 rw[Q]at h0;refine⟨u,oI x of u,D,λh=>(by rw[h0]at h;cases h),λ_=>⟨of,T,rfl⟩,λs=>YI ?_⟩;simp[U.Qv,s0,d,B,Q,q,X];obtain⟨aw,hM⟩:=ZA;generalize hS:HS.mk _ _ _ _=S at hM ⊢;generalize ho:bK R (.loop U.tE) _ _=o;obtain⟨e1,s1,h3,v6,vN,vF,h5,az,rfl,H,M,Y⟩:=Zz (o2:=.e) (o5:=.z .e) C D.1 T.cls.len (by simp) hM ho;clear ho;have hC:=(M.bz 0 _ _ rfl).1.1;obtain⟨s2,b2,j⟩:=M.put (a:=1) rfl (v:=.agg [vN,vF]) (new:=[vN,vF]) (by simp) rfl;simp only[cb,aS]at j;have hE:=(j.bz 1 _ _ rfl).1.1;simp only[aA,aE,bw,Nat.reduceAdd]at b2 hE hC;simp only[ab,ae]at H;simp[H,hC,aj,b2,hE];refine aC (.agg (.cons ?_ (.cons ?_ .nil)))
 .have Z:=((j.mem.own 1 _ _ _ rfl).YE (f:=λe:tR=>e.1) (g:=λe:tR=>HV.psl e.2.2) (n:=14) (λx C=>?_))
  .have:az.map (λx=>[HV.psl x.2.2])=(oI x of u).nx.map oM:=by
    have h:=ct (List.map λ(p:Nat×List ak)=>[HV.psl p.2]) Y;have O:oM=λx:bA=>[HV.psl (List.map Eg.c x)]:=rfl
    rw[O];simpa[tS]using h
   rw[<-this];exact Z
  obtain⟨k,hk,rfl⟩:=eH.1 C;have h2:=ct (λl=>l[k]?) Y;simp[hk]at h2;have hlen:az.length=(oI x of u).nx.length:=by have:=ct List.length Y;simpa using this
  have h1:k<(oI x of u).nx.length:=by omega
  have h4:az[k].2=(5,((oI x of u).nx[k]).map Eg.c):=by simp[h1]at h2;exact h2.symm▸rfl
  have P:=j.mem.own (k+3) az[k].1 5 (((oI x of u).nx[k]).map Eg.c) (by simp[hk];rw[<-h4]);rw[h4];exact P.vw (by simp)
 exact(j.mem.own 2 _ _ _ rfl).vw (by simp)
def AY(of:aQ)(aZ:ck)(row:bA):∀(ms:aP) (p:List Nat×List Eg),(ms.foldl (zz of aZ row) p).2.length<=p.2.length+ms.length
 |[],p=>by simp
 |m::r,p=>by
  have c:=AY of aZ row r (zz of aZ row p m);have h:(zz of aZ row p m).2.length<=p.2.length+1:=by
   simp only[zz]
   split<;>simp
  simp only[List.foldl_cons,aA];omega
def Hc{x:Fa}(d:cJ x)(of:aQ)(aZ:ck)(i:Nat):(cK x of aZ i).2.1.length<=i/\(cK x of aZ i).2.2.length<=i/\∀l∈(cK x of aZ i).2.1,l.length<=6000:=by
 induction i with
 |zero=>exact⟨aY _,aY _,λl h=>by cases h⟩
 |succ i f=>
  obtain⟨p,q,c⟩:=f;rw[cK];simp only[]
  split
  .refine⟨by simp;omega,by simp;omega,λl g=>?_⟩;rcases cG.1 g with h|h
   .exact c l h
   rw[dE.1 h];have j:=AY of aZ (x.nx.getD ((cK x of aZ i).1.getD i 0) []) (pV (x.nx.getD ((cK x of aZ i).1.getD i 0) [])) ((cK x of aZ i).1,[]);have r:=sw (x.nx.getD ((cK x of aZ i).1.getD i 0) []);have t:(x.nx.getD ((cK x of aZ i).1.getD i 0) []).length<=6000:=by
    by_cases h:(cK x of aZ i).1.getD i 0<x.nx.length
    .rw[getD_at h];exact d.row h
    rw[dF,Av (by omega)];simp
   simp only[aE]at j;unfold nk;omega
  exact⟨by omega,by omega,c⟩
def ZB(x y:Fa):Prop:=∃u,ng x u/\(u[0]?=some false->y=mY)/\(u[0]?=some true->∃of,VP x u of/\y=oI x of u)
def OZ(x:Fa)(d:cJ x):∃y:Fa,ZB x y/\(y.nx.length<=400/\y.fi.length<=400/\∀l∈y.nx,l.length<=6000)/\∀s,R (.call 108 [.agg x.c] s)=.val (.agg y.c) s:=by
 obtain⟨u,y,g,j,p,r⟩:=ag3 x d;have q:=d.pos;have z:=d.n;refine⟨y,⟨u,g,j,p⟩,?_,r⟩;cases f:u[0]?with
 |none=>have:=F5.1 f;have:=g.1;omega
 |some b=>
  cases b
  .rw[j f];exact⟨by decide,by decide,λl h=>by simp[mY]at h;subst h;simp⟩
  obtain⟨of,_,rfl⟩:=p f;obtain⟨B,C,t⟩:=Hc d of u x.nx.length;exact⟨by unfold oI;simp only;omega,by unfold oI;simp only;omega,t⟩
open Classical in
def gW(x:Fa):Fa:=if h:cJ x then Classical.choose (OZ x h)else mY
def uW{x:Fa}(d:cJ x):ZB x (gW x)/\((gW x).nx.length<=400/\(gW x).fi.length<=400/\∀l∈(gW x).nx,l.length<=6000)/\∀s,R (.call 108 [.agg x.c] s)=.val (.agg (gW x).c) s:=by unfold gW;rw[dif_pos d];exact Classical.choose_spec (OZ x d)
def F6(x:Ax):Prop:=∃y:Fa,x=y.i/\cJ y/\tV y/\gW y=y
def Fa.ZC{x y:Fa}(h:x.i=y.i):x=y:=by
 obtain⟨q,r⟩:=x;obtain⟨t,u⟩:=y;unfold Fa.i at h;simp only[Ax.mk.injEq]at h;obtain⟨c,f⟩:=h;subst f;have g:∀a b:Eg,a.i=b.i->a=b:=λa b h=>by obtain⟨z,d⟩:=a;obtain⟨B,j⟩:=b;simp only[Eg.i,Ei.mk.injEq]at h;obtain⟨c,f⟩:=h;subst c;rw[show d=j by omega]
 have p:∀a b:bA,a.map Eg.i=b.map Eg.i->a=b:=λa b h=>Jk (λx y=>g x y)|>.1 h
 rw[Jk (λx y=>p x y)|>.1 c]
open Classical in
def w76(x:Ax)(C:my x)(s:HS):R (.call 76 [.agg x.c] s)=.val (iV (if F6 x then 0 else 4)) s:=by
 refine q76 ?_;have f:=agu x C;have d:=agv x C;cases t:mz x
 .have:¬F6 x:=by
   rintro⟨y,rfl,r,_,_⟩
   have T:=r.pos;have V:=r.nf;have X:=r.to;have:mz y.i=true:=by unfold mz;simp only[bL,Fa.i,bH];refine⟨T,V,λl Y e Z=>?_⟩;obtain⟨l',D,rfl⟩:=dA.1 Y;obtain⟨e',E,rfl⟩:=dA.1 Z;have:=X l' D e' E;simp only[Eg.i];omega
   rw[this]at t;cases t
  rw[aq this];rw[t]at d;simp only[Ax.c]at f d;simp[U.WV,f,d,aa]
 rw[t]at d;obtain⟨y,rfl,r⟩:=Tu C t;have hc:=Fa.Y2 y;obtain⟨h2,⟨H,M,O⟩,p⟩:=uW r;have g:=agw y r;have j:=agx (gW y) y H M O;have q:F6 y.i↔tV y/\gW y=y:=⟨λ⟨z,h1,_,P,Q⟩=>by have:=Fa.ZC h1;subst this;exact⟨P,Q⟩,λ⟨P,Q⟩=>⟨y,rfl,r,P,Q⟩⟩;rw[hc]at f d ⊢;simp only[Fa.c]at f d g j p;by_cases u:tV y
 .by_cases B:gW y=y
  .rw[ar (q.2 ⟨u,B⟩)];simp only[u,B,eV]at g j p;simp[U.WV,f,d,g,j,p,aa]
  rw[aq (λh=>B (q.1 h).2)];simp only[u,eV]at g;rw[cu B]at j;simp[U.WV,f,d,g,j,p,aa]
 rw[aq (λh=>u (q.1 h).1)];simp only[u,lb]at g;simp[U.WV,f,d,g,aa]
structure Mn where
 op:aP
 lost:Bool
 forced:Bool
 begun:Bool
 deriving DecidableEq,Inhabited
@[simp]def Mn.c(x:Mn):ak:=[.psl (x.op.map Mv.c),.bool x.lost,.bool x.forced,.bool x.begun]
structure Sn where
 st:Nat
 mn:Mn
 deriving DecidableEq,Inhabited
abbrev j8:=List Sn
@[simp]def Sn.c(x:Sn):ak:=[iV x.st,.psl (x.mn.op.map Mv.c),.bool x.mn.lost,.bool x.mn.forced,.bool x.mn.begun]
def Mn.over(x:Mn):Bool:=x.begun&&decide (x.op=[])
def ZD(x:Mn)(s:HS):R (.call 131 [.agg x.c] s)=.val (.bool x.over) s:=by
 refine aeM ?_;obtain⟨op,l,f,b⟩:=x;cases b
 .simp[U.MA,Mn.over,aa]
 cases op with
 |nil=>simp[U.MA,Mn.over,aa]
 |cons m r=>
  have h:¬((r.length:Int)+1=0):=by omega
  simp[U.MA,Mn.over,aa,h]
def ag4(l l':aP)(O:l.length<=400)(s:HS):R (.call 23 [.psl (l.map Mv.c),.psl (l'.map Mv.c)] s)=.val (.bool (decide (l=l'))) s:=by
 refine YG ?_;by_cases y:l.length=l'.length
 case neg=>
  have z:¬(l.length:Int)=l'.length:=by omega
  have h0:¬l=l':=λh=>y (by rw[h])
  rw[cu h0];simp[U.b23,z,aa]
 simp[U.b23,y];generalize C:bK R (.loop U.Dq) _ _=o;have H:=jh C l.length (λi=>∀h:i<l.length,l[i]=l'[i]'(by omega)) (λi=>[(0,.psl (l.map Mv.c)),(1,.psl (l'.map Mv.c)),(5,iV i)]) [] 0 (λ_ o=>∃q,o=.code .ret q s0/\look q 4=some (.bool false)) (by simp)
  (λi e r t d f=>by
   have g:(i:Int)<l.length:=by omega
   have D:i<l'.length:=by omega
   have j:=rC l[i] l'[i];simp only[Mv.c]at j;simp only[ab,ae]at d;by_cases u:l[i]=l'[i]
   .rw[cV u]at j;simp[U.Dq,d,t,g,D,j,bj (n:=400) (show i<400 by omega) (by omega)]at f;subst f;exact .inl ⟨λ_=>u,_,rfl,by simp[d]⟩
   rw[cu u]at j;simp[U.Dq,d,t,g,D,j]at f;subst f;exact .inr ⟨λh=>u (h t),by simp,_,rfl,by simp⟩)
  (λe r d f=>by
   simp only[ab,ae]at d;simp[U.Dq,d]at f;subst f;exact⟨_,rfl,by simp⟩)
 clear C;rcases H with⟨i,t,_,B,q,rfl,M⟩|⟨p,q,rfl,_⟩
 .have h0:¬l=l':=λh=>B (λ_=>by subst h;rfl)
  simp[M,aa,h0]
 have h0:l=l':=qM y λi E P=>p i E E
 simp[aa,h0]
def oi(l:aP):List (Int×Int):=l.map λm=>(m.id,m.arg)
def ag5(l l':aP)(O:l.length<=400)(s:HS):R (.call 130 [.psl (l.map Mv.c),.psl (l'.map Mv.c)] s)=.val (.bool (decide (oi l=oi l'))) s:=by
 refine aeL ?_;by_cases y:l.length=l'.length
 case neg=>
  have z:¬(l.length:Int)=l'.length:=by omega
  have h0:¬oi l=oi l':=λh=>y (by have:=ct List.length h;simpa[oi]using this)
  rw[cu h0];simp[U.QZ,z,aa]
 simp[U.QZ,y];generalize D:bK R (.loop U.tH) _ _=o;have H:=jh D l.length (λi=>∀h:i<l.length,l[i].id=(l'[i]'(by omega)).id/\l[i].arg=(l'[i]'(by omega)).arg) (λi=>[(0,.psl (l.map Mv.c)),(1,.psl (l'.map Mv.c)),(5,iV i)]) [] 0 (λ_ o=>∃t,o=.code .ret t s0/\look t 4=some (.bool false)) (by simp)
  (λi e r g f d=>by
   have j:(i:Int)<l.length:=by omega
   have B:i<l'.length:=by omega
   simp only[ab,ae]at f;by_cases p:l[i].id=l'[i].id
   .by_cases u:l[i].arg=l'[i].arg
    .simp[U.tH,f,g,j,B,p,u,bj (n:=400) (show i<400 by omega) (by omega)]at d;subst d;exact .inl ⟨λ_=>⟨p,u⟩,_,rfl,by simp[f]⟩
    simp[U.tH,f,g,j,B,p,u]at d;subst d;exact .inr ⟨λh=>u (h g).2,by simp,_,rfl,by simp⟩
   simp[U.tH,f,g,j,B,p]at d;subst d;exact .inr ⟨λh=>p (h g).1,by simp,_,rfl,by simp⟩)
  (λe r f d=>by
   simp only[ab,ae]at f;simp[U.tH,f]at d;subst d;exact⟨_,rfl,by simp⟩)
 clear D;rcases H with⟨i,g,_,C,t,rfl,M⟩|⟨q,t,rfl,_⟩
 .have h0:¬oi l=oi l':=λh=>C (λ_=>by
   have:=ct (λl=>l[i]?) h;simpa[oi,g,show i<l'.length by omega]using this)
  simp[M,aa,h0]
 have h0:oi l=oi l':=qM (by simpa[oi]using y) λi E P=>by have:=q i (by simpa[oi]using E) (by simpa[oi]using E);simp[oi,this]
 simp[aa,h0]
def ZE(x y:Sn)(r:x.mn.op.length<=400)(s:HS):R (.call 134 [.agg x.c,.agg y.c] s)=.val (.bool (decide (x=y))) s:=by
 refine aeP ?_;obtain⟨p,op,l,f,b⟩:=x;obtain⟨d,g,t,u,z⟩:=y;have h:=ag4 op g (by simpa using r);by_cases q:p=d
 .subst q;cases l<;>cases t<;>cases f<;>cases u<;>cases b<;>cases z<;>simp[U.Rb,h,aa]
 have j:¬(p:Int)=d:=by omega
 simp[U.Rb,q,j,aa]
def z6(top m:Mv):Bool:=decide (m.id=top.id)&&decide (m.arg=top.arg)&&decide (m.kind=3)&&(decide (top.kind=1)||decide (m.n<=0))
def jq(a:Ar)(x:Mn)(m:Mv):Bool:=
 if eO a m then
  if x.begun then
   match x.op.getLast? with
   |none=>false
   |some top=>
    if x.lost||x.forced then z6 top m&&bQ m
    else if cz m then
     if decide (0<top.id)&&decide (top.arg=0)then decide (m.id=top.id)&&decide (0<m.arg)else decide (0<m.id)&&decide (m.arg=0)
    else if bQ m&&decide (top.arg=0)then z6 top m&&decide (0<top.id)&&a.jumps
    else z6 top m
  else decide (m.id=0)&&cz m
 else false
section
variable{m top:Mv}{e:En}{s:HS}{o:Ky}
def TZ(f:look e 5=some (.ax m.c))(g:look e 7=some (.ptr o 0))(d:ao s.h o=some (.cells (cR top.c) 0 4 o)):bK R U.fS e s=.code .normal (e.qw 8 (.bool (z6 top m))) s:=by
 simp only[Mv.c]at f d;unfold z6;by_cases j:m.id=top.id
 .by_cases p:m.arg=top.arg
  .by_cases q:m.kind=3
   .by_cases r:top.kind=1<;>simp[f,g,d,j,p,q,r]
   simp[f,g,d,j,p,q]
  simp[f,g,d,j,p]
 simp[f,g,d,j]
end
def ZF(a:Ar)(ok:dj a)(Q:aB a=0)(x:Mn)(C:x.op.length<=400)(m:Mv)(s:HS):R (.call 132 [.agg x.c,.agg a.c,.agg m.c] s)=.val (.bool (jq a x m)) s:=by
 refine aeN ?_;obtain⟨op,l,f,b⟩:=x;have d:=Y0 a ok Q m;have g:=YV m;have j:=Tq m;unfold jq;simp only[Ar.c,Mv.c]at d g j;cases D:eO a m
 .rw[D]at d;simp-implicitDefEqProofs[-U.fS,U.Iu,d,aa]
 rw[D]at d;cases b
 .by_cases h0:m.id=0
  .simp only[h0]at g d;simp-implicitDefEqProofs[-U.fS,U.Iu,d,g,aa,h0]
  simp-implicitDefEqProofs[-U.fS,U.Iu,d,aa,h0]
 by_cases E:op.length=0
 .have h:=iJ E;subst h;simp-implicitDefEqProofs[-U.fS,U.Iu,d,aa]
 obtain⟨n,H⟩:∃n,op.length=n+1:=⟨op.length-1,by omega⟩;have C:op.length<=400:=C;have z:n<op.length:=by omega
 have T:bR .i64 ((op.length:Int)-1)=n:=by rw[H];simp;exact bM (by omega) (by omega)
 have p:op.getLast?=some op[n]:=by rw[T0,H];simp
 rw[p];generalize y:op[n]=top;have B:op≠ []:=λh=>E (by rw[h];rfl)
 simp-implicitDefEqProofs[-U.fS,U.Iu,d,B,T,z,y,s0,ah,an];rw[TZ (m:=m) (top:=top) (o:=.e) (by simp) (by simp) (by simp)];generalize z6 top m=M;cases q:(l||f)
 .obtain⟨rfl,rfl⟩:l=false/\f=false:=by revert q;cases l<;>cases f<;>simp
  cases O:cz m
  .rw[O]at g;cases P:bQ m
   .rw[P]at j;simp[-U.fS,g,j,aa]
   rw[P]at j;by_cases r:top.arg=0
   .cases M
    .simp[-U.fS,g,j,r,aa]
    by_cases u:0<top.id<;>simp[-U.fS,g,j,r,u,aa]
   simp[-U.fS,g,j,r,aa]
  rw[O]at g;by_cases u:0<top.id
  .by_cases r:top.arg=0
   .by_cases t:m.id=top.id
    .simp only[t]at g;simp[-U.fS,g,u,r,t,aa]
    simp[-U.fS,g,u,r,t,aa]
   by_cases t:0<m.id<;>simp[-U.fS,g,u,r,t,aa]
  by_cases t:0<m.id<;>simp[-U.fS,g,u,t,aa]
 cases M
 .cases l
  .cases f
   .cases q
   simp[-U.fS,aa]
  simp[-U.fS,aa]
 cases l
 .cases f
  .cases q
  simp[-U.fS,j,aa]
 simp[-U.fS,j,aa]
end Go.Proofs.YtclepinjnoiakaaGreatDoor.K.Hm.S
