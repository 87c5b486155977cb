/- PactKept returns true for every pact and strategy, part 6. -/
import Derived.Test.YtaijlkikejincaaGreatDoorCae
import Derived.Test.YtaijlkikejincaaGreatDoorCad
import Derived.Test.YtaijlkikejincaaGreatDoorCac
import Derived.Test.YtaijlkikejincaaGreatDoorCab
import Derived.ReadAgain
import Derived.ChangeArms
import Derived.ChangeShapes
import GoSem.ClaimWide
import GoSem.ClaimJoined
import Derived.Test.YtaijlkikejincaaGreatDoorProg
set_option linter.all false
open Int renaming toNat_natCast->gD
open List renaming cons_append->bo,length_singleton->dB,length_cons->aB,nil_append->bq,set_cons_zero->aO,length_nil->aC,set_cons_succ->bJ,drop_eq_nil_iff->Tq,getElem_cons_zero->tV
open Function renaming comp_def->tP
open Option renaming getD_some->gB,getD_none->Tp
set_option maxRecDepth 10000
noncomputable section
namespace Go.Proofs.YtaijlkikejincaaGreatDoor.K.Hm.S
open Go
structure Sq where
 s:Nat
 p:Nat
 w:bE
abbrev Sq.k(z:Sq):Nat×Nat:=(z.s,z.p)
structure Fq where
 q:List Sq
 r:Option bE
section
variable(x y:Fa)(b:Bool)
def iv(z:Sq)(g:Fq)(e:Eg):Fq:=
 if bH x z.p e.m= -1 then(if g.r.isNone&&(zD e.m==b)then⟨g.q,some (z.w++[e.m])⟩else g)
 else if(e.to,(bH x z.p e.m).toNat)∈g.q.map Sq.k then g else⟨g.q++[⟨e.to,(bH x z.p e.m).toNat,z.w++[e.m]⟩],g.r⟩
def gu(z:Sq)(g:Fq)(es:bu):Fq:=es.foldl (iv x b z) g
def di:Nat->Fq
 |0=>⟨[⟨0,0,[]⟩],none⟩
 |i+1=>match(di i).q[i]?with|none=>di i|some z=>gu x b z (di i) (cM y z.s)
end
structure KO(x y:Fa)(z:Sq):Prop where
 ls:z.s<y.nx.length
 lp:z.p<x.nx.length
 fy:fm y 0 0 z.w=((z.s:Int),(z.w.length:Int))
 fx:fm x 0 0 z.w=((z.p:Int),(z.w.length:Int))
structure Cd(x y:Fa)(g:Fq):Prop where
 nd:(g.q.map Sq.k).Nodup
 ok:∀z∈g.q,KO x y z
 f0:g.q[0]?=some ⟨0,0,[]⟩
def Cd.len{x y:Fa}{g:Fq}(h:Cd x y g):g.q.length<=y.nx.length*x.nx.length:=by
 have d:(g.q.map Sq.k).length<=((List.range y.nx.length).flatMap λa=>(List.range x.nx.length).map λc=>(a,c)).length:=by refine Tm h.nd (λk f=>?_);obtain⟨z,j,rfl⟩:=cU.1 f;have:=h.ok z j;simp only[qF,fX,cU];exact⟨z.s,this.ls,z.p,this.lp,rfl⟩
 rw[bz]at d;have r:∀n m:Nat,((List.range n).flatMap λa=>(List.range m).map λc=>(a,c)).length=n*m:=by
  intro n m
  induction n with|zero=>simp|succ n u=>rw[yl,uL,bZ,u];simp[iR]
 rwa[r]at d
def pU(y:Fa):Prop:=∀q,∀e∈cM y q,bH y q e.m=(e.to:Int)
section
variable{x y:Fa}{b:Bool}{z:Sq}
def Tn(J:bA x)(M:bA y)(O:pU y)(d:KO x y z){g:Fq}(h:Cd x y g){e:Eg}(C:e∈cM y z.s):Cd x y (iv x b z g e):=by
 unfold iv
 split
 .split
  .exact⟨h.nd,h.ok,h.f0⟩
  exact h
 rename_i D
 split
 .exact h
 rename_i f;rcases fj J d.lp e.m with A|⟨q,A,T⟩
 .exact(D A).elim
 rw[A,gD]at f ⊢;refine⟨?_,λV a=>?_,?_⟩
 .rw[eU,tB];refine⟨h.nd,by simp,λk X k' j e=>?_⟩;simp only[bX,lO,cr]at j;subst e;subst j;exact f X
 .rcases cp.1 a with a|a
  .exact h.ok V a
  rw[cr.1 a];have I:e.to<y.nx.length:=by have Y:cM y z.s=y.nx[z.s]'d.ls:=getD_at d.ls _;rw[Y]at C;exact M.to _ (cb d.ls) e C
  have N:∀(v:bE) (u:Fa) (n:bA u) (q r:Nat),fm u 0 0 v=((q:Int),(v.length:Int))->bH u q e.m=(r:Int)->fm u 0 0 (v++[e.m])=((r:Int),((v++[e.m]).length:Int)):=by intro v u n q r Z h3;have p:=pT n e.m v 0 0 q _ n.pos Z;rw[h3]at p;obtain⟨q',_,h5⟩:=ui n (v++[e.m]) 0 0 n.pos (by rw[p];omega);rw[h5]at p ⊢;simp only at p;rw[p,bn]
  exact⟨I,T,N _ y M _ _ d.fy (O _ e C),N _ x J _ _ d.fx A⟩
 have hl:0<g.q.length:=(aU.1 h.f0).1;rw[dD hl];exact h.f0
def NC(g:Fq)(e:Eg):g.q<+:(iv x b z g e).q:=by
 unfold iv
 split
 .split<;>exact rr _
 split
 .exact rr _
 exact yI _ _
def To(g:Fq)(e:Eg)(h:bH x z.p e.m≠ -1):(e.to,(bH x z.p e.m).toNat)∈(iv x b z g e).q.map Sq.k:=by
 unfold iv;rw[ar h]
 split
 .assumption
 simp
def UW(x:Fa)(b:Bool)(z:Sq)(e:Eg):Prop:=bH x z.p e.m= -1/\zD e.m=b
def KQ{g:Fq}{e:Eg}{w:bE}(h:(iv x b z g e).r=some w):g.r=some w∨(g.r=none/\UW x b z e/\w=z.w++[e.m]):=by
 unfold iv at h
 split at h
 .rename_i d
  split at h
  .rename_i a;simp only[aL,Option.isNone_iff_eq_none,bU]at a;exact .inr ⟨a.1,⟨d,a.2⟩,(lr h).symm⟩
  exact .inl h
 split at h<;>exact .inl h
def KR{g:Fq}{e:Eg}(h:(iv x b z g e).r=none):g.r=none/\¬UW x b z e:=by
 unfold iv at h
 split at h
 .rename_i d
  split at h
  .cases h
  rename_i f;refine⟨h,λa=>f ?_⟩;rw[h,a.2];simp
 rename_i d;refine⟨?_,λa=>d a.1⟩
 split at h<;>exact h
def FZ(A:bA x)(C:bA y)(D:pU y)(I:KO x y z):∀(es:bu) (g:Fq),(∀e∈es,e∈cM y z.s)->Cd x y g->
  Cd x y (gu x b z g es)/\g.q<+:(gu x b z g es).q/\(∀e∈es,bH x z.p e.m≠ -1->(e.to,(bH x z.p e.m).toNat)∈(gu x b z g es).q.map Sq.k)/\
  ((gu x b z g es).r=none->g.r=none/\∀e∈es,¬UW x b z e)/\(∀w,(gu x b z g es).r=some w->g.r=some w∨∃e∈es,UW x b z e/\w=z.w++[e.m])
 |[],g,n,h=>⟨h,rr _,by simp,λh=>⟨h,by simp⟩,λw h=>.inl h⟩
 |e::es,g,n,h=>by
  have N:=Tn (b:=b) A C D I h (n e (by simp));obtain⟨O,J,T,V,X⟩:=FZ A C D I es (iv x b z g e) (λd a=>n d (by simp[a])) N;refine⟨O,(NC g e).trans J,λd a M=>?_,λY=>?_,λw Z=>?_⟩
  .rcases bk.1 a with rfl|a
   .obtain⟨t,ht⟩:=J;show _∈(gu x b z (iv x b z g d) es).q.map Sq.k;rw[<-ht,eU];exact ph _ (To g d M)
   exact T d a M
  .obtain⟨u,f⟩:=V Y;obtain⟨j,k4⟩:=KR u;refine⟨j,λd a=>?_⟩;rcases bk.1 a with rfl|a
   .exact k4
   exact f d a
  rcases X w Z with a|⟨d,u,f,j⟩
  .rcases KQ a with a|⟨_,f,j⟩
   .exact .inl a
   exact .inr ⟨e,by simp,f,j⟩
  exact .inr ⟨d,by simp[u],f,j⟩
end
structure Fnd(x y:Fa)(b:Bool)(i:Nat)(g:Fq):Prop where
 ok:Cd x y g
 nx:∀z∈g.q.take i,∀e∈cM y z.s,bH x z.p e.m≠ -1->(e.to,(bH x z.p e.m).toNat)∈g.q.map Sq.k
 no:g.r=none->∀z∈g.q.take i,∀e∈cM y z.s,¬UW x b z e
 so:∀w,g.r=some w->∃z∈g.q.take i,∃e∈cM y z.s,UW x b z e/\w=z.w++[e.m]
def Ce{x y:Fa}{b:Bool}(A:bA x)(C:bA y)(I:pU y):∀i,Fnd x y b i (di x y b i)
 |0=>by refine⟨⟨by simp[di],λz f=>?_,rfl⟩,by simp,λ_ z f=>by simp at f,λw h=>by cases h⟩;simp only[di,cr]at f;subst f;exact⟨C.pos,A.pos,rfl,rfl⟩
 |i+1=>by
  have d:=Ce (b:=b) A C I i;rw[di];cases f:(di x y b i).q[i]?with
  |none=>
   have D:=Dz.1 f;simp only;have m:(di x y b i).q.take (i+1)=(di x y b i).q.take i:=by rw[fD (by omega),fD D]
   exact⟨d.ok,by rw[m];exact d.nx,by rw[m];exact d.no,by rw[m];exact d.so⟩
  |some z=>
   obtain⟨D,M⟩:=aU.1 f;obtain⟨N,⟨t,m⟩,O,T,V⟩:=FZ (b:=b) A C I (d.ok.ok z (cE f)) (cM y z.s) (di x y b i) (λe h=>h) d.ok;simp only;generalize gu x b z (di x y b i) (cM y z.s)=J at*;have j:J.q.take (i+1)=(di x y b i).q.take i++[z]:=by rw[<-m,Al (by omega),eW D,M]
   have n:∀k,k∈(di x y b i).q.map Sq.k->k∈J.q.map Sq.k:=λk X=>by rw[<-m,eU];exact ph _ X
   refine⟨N,λp a=>?_,λY p a=>?_,λw Z=>?_⟩
   .rw[j]at a;rcases cp.1 a with a|a
    .exact λe he hs=>n _ (d.nx p a e he hs)
    rw[cr.1 a];exact O
   .obtain⟨r,u⟩:=T Y;rw[j]at a;rcases cp.1 a with a|a
    .exact d.no r p a
    rw[cr.1 a];exact u
   rw[j];rcases V w Z with h'|⟨e,r,u,k3⟩
   .obtain⟨p,r,u⟩:=d.so w h';exact⟨p,ph _ r,u⟩
   exact⟨z,by simp,e,r,u,k3⟩
def Cf{x y:Fa}{b:Bool}(m:bA x)(n:bA y)(p:pU y){N:Nat}(A:y.nx.length*x.nx.length<=N):Fnd x y b (di x y b N).q.length (di x y b N):=by have h:=Ce (b:=b) m n p N;have C:=h.ok.len;have r:(di x y b N).q.take N=(di x y b N).q:=fD (by omega);have a:(di x y b N).q.take (di x y b N).q.length=(di x y b N).q:=fD (aV _);obtain⟨u,d,f,j⟩:=h;rw[r]at d f j;exact⟨u,by rw[a];exact d,by rw[a];exact f,by rw[a];exact j⟩
def UX(x y:Fa)(w:bE)(s p:Nat):Prop:=fm y 0 0 w=((s:Int),(w.length:Int))/\fm x 0 0 w=((p:Int),(w.length:Int))
def sN{x:Fa}(d:bA x){w:bE}{m:Mv}{q:Nat}(h:fm x 0 0 (w++[m])=((q:Int),((w++[m]).length:Int))):∃p:Nat,p<x.nx.length/\fm x 0 0 w=((p:Int),(w.length:Int))/\bH x p m=(q:Int):=by
 have n:(fm x 0 0 w).1≠ -1:=by
  intro r;obtain⟨j,I,A,J,f,M,N⟩:=G5 d w 0 0 d.pos r;have key:∀(v u:bE) (p i:Nat),(fm x p i v).1= -1->(fm x p i (v++u)).1= -1:=by
   intro v
   induction v with
   |nil=>intro u p i h;simp[fm]at h
   |cons a v C=>
    intro u p i h;rw[bo,fm];rw[fm]at h
    split
    .rfl
    rename_i D;rw[ar D]at h;exact C u _ _ h
  have:=key w [m] 0 0 r;rw[h]at this;simp only at this;omega
 obtain⟨p,A,f⟩:=ui d w 0 0 d.pos n;rw[bn]at f;refine⟨p,A,f,?_⟩;have:=pT d m w 0 0 p _ d.pos f;rw[h]at this;exact this.symm
def D1{y:Fa}{q:Nat}{m:Mv}{r:Nat}(h:bH y q m=(r:Int)):∃e∈cM y q,e.m=m/\e.to=r:=by unfold bH at h;cases a:(cM y q).find? (λe=>decide (e.m=m))with|none=>rw[a]at h;simp only at h;omega|some e=>rw[a]at h;simp only at h;exact⟨e,Ap a,by simpa using KL a,by omega⟩
def G6{x y:Fa}{b:Bool}(j:bA x)(r:bA y)(C:pU y){N:Nat}(D:y.nx.length*x.nx.length<=N):∀(n:Nat) (w:bE) (s p:Nat),w.length=n->UX x y w s p->(s,p)∈(di x y b N).q.map Sq.k
 |0,w,s,p,u,h=>by have I:=Cf (b:=b) j r C D;have:w=[]:=sf.1 u;subst this;obtain⟨J,M⟩:=h;simp only[fm,gj,tS]at J M;have O:=cE I.ok.f0;have:=Jd (f:=Sq.k) O;rw[show s=0 by omega,show p=0 by omega];exact this
 |n+1,w,s,p,u,h=>by
  have I:=Cf (b:=b) j r C D;rcases sv w with A|⟨v,m,A⟩
  .subst A;simp at u
  rw[tW]at A;subst A;obtain⟨J,M⟩:=h;obtain⟨s',_,Y,Z⟩:=sN r J;obtain⟨p',_,k3,X⟩:=sN j M;have ih:=G6 (b:=b) j r C D n v s' p' (by simpa using u) ⟨Y,k3⟩;obtain⟨z,O,a⟩:=cU.1 ih;simp only[Sq.k,gj]at a;obtain⟨rfl,rfl⟩:=a;obtain⟨e,T,d,V⟩:=D1 Z;have:=I.nx z (by rw[fD (aV _)];exact O) e T (by rw[d,X];omega);rw[d,X,V,gD]at this;exact this
def G7{x y:Fa}{b:Bool}(n:bA x)(u:bA y)(A:pU y){N:Nat}(C:y.nx.length*x.nx.length<=N):
  (di x y b N).r.isSome=true↔∃w s p,UX x y w s p/\∃e∈cM y s,bH x p e.m= -1/\zD e.m=b:=by
 have f:=Cf (b:=b) n u A C;have D:(di x y b N).q.take (di x y b N).q.length=(di x y b N).q:=fD (aV _);constructor
 .intro h;obtain⟨w,I⟩:=Option.isSome_iff_exists.1 h;obtain⟨z,d,e,j,J,_⟩:=f.so w I;rw[D]at d;have:=f.ok.ok z d;exact⟨z.w,z.s,z.p,⟨this.fy,this.fx⟩,e,j,J⟩
 rintro⟨w,s,p,M,e,d,j⟩
 cases O:(di x y b N).r with|some _=>rfl|none=>obtain⟨z,T,a⟩:=cU.1 (G6 (b:=b) n u A C _ w s p rfl M);simp only[Sq.k,gj]at a;obtain⟨rfl,rfl⟩:=a;exact(f.no O z (by rw[D];exact T) e d j).elim
structure Rq where
 t:List (Nat×Nat)
 m:List (Nat×Nat)
section
variable(x y:Fa)
def F0(k:Nat×Nat):Prop:=(y.fi.getD k.1 false=true/\x.fi.getD k.2 false=false)∨∃e∈cM y k.1,bH x k.2 e.m= -1
end
def Il(x y:Fa)(k:Nat×Nat):Prop:=k.1<y.nx.length/\k.2<x.nx.length/\∃w,UX x y w k.1 k.2
structure nX(x y:Fa)(g:Rq):Prop where
 rt:∀k∈g.t,Il x y k
 rm:∀k∈g.m,Il x y k
 nd:g.m.Nodup
 f0:(0,0)∈g.t∨(0,0)∈g.m
 nx:∀k∈g.m,∀e∈cM y k.1,∃q:Nat,bH x k.2 e.m=(q:Int)/\((e.to,q)∈g.t∨(e.to,q)∈g.m)
 gd:∀k∈g.m,¬F0 x y k
section
variable{x y:Fa}{g:Rq}
def nX.len(h:nX x y g):g.m.length<=y.nx.length*x.nx.length:=by
 have d:g.m.length<=((List.range y.nx.length).flatMap λa=>(List.range x.nx.length).map λc=>(a,c)).length:=by refine Tm h.nd (λk f=>?_);obtain⟨j,p,_⟩:=h.rm k f;simp only[qF,fX,cU];exact⟨k.1,j,k.2,p,rfl⟩
 have q:∀n m:Nat,((List.range n).flatMap λa=>(List.range m).map λc=>(a,c)).length=n*m:=by
  intro n m
  induction n with|zero=>simp|succ n r=>rw[yl,uL,bZ,r];simp[iR]
 rwa[q]at d
def nX.start(a:bA x)(d:bA y):nX x y ⟨[(0,0)],[]⟩:=
 ⟨λk f=>by rw[cr.1 f];exact⟨d.pos,a.pos,[],rfl,rfl⟩,by simp,by simp,.inl (by simp),by simp,by simp⟩
def nX.skip{t:List (Nat×Nat)}{k:Nat×Nat}(h:nX x y ⟨t++[k],g.m⟩)(f:k∈g.m):nX x y ⟨t,g.m⟩:=by
 have key:∀d,d∈t++[k]∨d∈g.m->d∈t∨d∈g.m:=by
  intro d a;rcases a with a|a
  .rcases cp.1 a with a|a
   .exact .inl a
   rw[cr.1 a];exact .inr f
  exact .inr a
 exact⟨λk f=>h.rt k (ph _ f),h.rm,h.nd,key _ h.f0,λd j e n=>by
  obtain⟨q,p,r⟩:=h.nx d j e n;exact⟨q,p,key _ r⟩,h.gd⟩
def KT(C:bA x)(D:bA y)(M:pU y){k:Nat×Nat}(N:Il x y k){e:Eg}(f:e∈cM y k.1){q:Nat}(j:bH x k.2 e.m=(q:Int)):Il x y (e.to,q):=by
 obtain⟨I,O,w,n,p⟩:=N;have A:e.to<y.nx.length:=by have T:cM y k.1=y.nx[k.1]:=getD_at I _;rw[T]at f;exact D.to _ (cb I) e f
 have V:q<x.nx.length:=by
  rcases fj C O e.m with h|⟨X,h,Z⟩
  .rw[j]at h;omega
  rw[j]at h;omega
 have J:∀(u:Fa) (a:bA u) (q r:Nat),fm u 0 0 w=((q:Int),(w.length:Int))->bH u q e.m=(r:Int)->fm u 0 0 (w++[e.m])=((r:Int),((w++[e.m]).length:Int)):=by intro u a q r n p;have d:=pT a e.m w 0 0 q _ a.pos n;rw[p]at d;obtain⟨X,_,Y⟩:=ui a (w++[e.m]) 0 0 a.pos (by rw[d];omega);rw[Y]at d ⊢;simp only at d;rw[d,bn]
 exact⟨A,V,w++[e.m],J y D _ _ n (M _ e f),J x C _ _ p j⟩
def nX.next(C:bA x)(D:bA y)(I:pU y){t:List (Nat×Nat)}{k:Nat×Nat}(h:nX x y ⟨t++[k],g.m⟩)(J:k ∉ g.m)(A:¬F0 x y k):nX x y ⟨t++(cM y k.1).map (λe=>(e.to,(bH x k.2 e.m).toNat)),g.m++[k]⟩:=by
 have p:=h.rt k (by simp);have r:∀e∈cM y k.1,∃q:Nat,bH x k.2 e.m=(q:Int):=λe n=>by
  rcases fj C p.2.1 e.m with f|⟨M,f,_⟩
  .exact(A (.inr ⟨e,n,f⟩)).elim
  exact⟨M,f⟩
 have key:∀j,j∈t++[k]∨j∈g.m->j∈t++(cM y k.1).map (λe=>(e.to,(bH x k.2 e.m).toNat))∨j∈g.m++[k]:=by
  intro j f;rcases f with f|f
  .rcases cp.1 f with f|f
   .exact .inl (ph _ f)
   exact .inr (A0 _ f)
  exact .inr (ph _ f)
 refine⟨λj d=>?_,λj d=>?_,?_,key _ h.f0,λj d e n=>?_,λj d=>?_⟩
 .rcases cp.1 d with d|d
  .exact h.rt j (ph _ d)
  obtain⟨e,n,rfl⟩:=cU.1 d;obtain⟨q,u⟩:=r e n;rw[u,gD];exact KT C D I p n u
 .rcases cp.1 d with d|d
  .exact h.rm j d
  rw[cr.1 d];exact p
 .refine tB.2 ⟨h.nd,by simp,λa N b A e=>?_⟩;rw[cr.1 A]at e;exact J (by rw[<-e];exact N)
 .rcases cp.1 d with d|d
  .obtain⟨q,O,T⟩:=h.nx j d e n;exact⟨q,O,key _ T⟩
  rw[cr.1 d]at n ⊢;obtain⟨q,u⟩:=r e n;exact⟨q,u,.inl (A0 _ (cU.2 ⟨e,n,by rw[u,gD]⟩))⟩
 rcases cp.1 d with d|d
 .exact h.gd j d
 rw[cr.1 d];exact A
def nX.fin(I:bA x)(J:bA y){m:List (Nat×Nat)}(h:nX x y ⟨[],m⟩):∀(n:Nat) (w:bE) (s p:Nat),w.length=n->UX x y w s p->(s,p)∈m
 |0,w,s,p,a,f=>by
  have:w=[]:=sf.1 a;subst this;obtain⟨j,r⟩:=f;simp only[fm,gj]at j r;rw[show s=0 by omega,show p=0 by omega];rcases h.f0 with u|u
  .simp at u
  exact u
 |n+1,w,s,p,a,f=>by
  rcases sv w with d|⟨v,m',d⟩
  .subst d;simp at a
  rw[tW]at d;subst d;obtain⟨j,r⟩:=f;obtain⟨s',_,N,O⟩:=sN J j;obtain⟨T,_,V,X⟩:=sN I r;have Y:=nX.fin I J h n v s' T (by simpa using a) ⟨N,V⟩;obtain⟨e,A,C,D⟩:=D1 O;obtain⟨q,M,g2⟩:=h.nx _ Y e A;simp only at M;rw[C,X]at M;have Z:p=q:=by omega
  rw[D,<-Z]at g2;rcases g2 with g2|g2
  .simp at g2
  exact g2
end
section
variable{s:HS}{ao:aW}{L:cq}{K:de}
def cu.sl{v:HV}{sz:Nat}{F:bM}{ak:aP}(h:cu s v sz F ak)(h0:ak≠ []):∃o a b c,v=.sl o a b c:=by
 rcases h.2.2 with⟨_,f⟩|⟨o,t,j,g,d,rfl,_⟩
 .exact(h0 f).elim
 exact⟨_,_,_,_,rfl⟩
end
structure dj(s:HS)(sz:Nat)(F:bM)(v:HV)(ak:aP)(ao:aW)(L:cq)(K:de)(Q:List (Ky×Ob)):Prop where
 k:aI s ao L K
 q:kK s v sz F ak
 fc:∀p,F p->ao p=none
 fk:∀(a:Nat) o c,K[a]?=some (o,c)->¬F o
 mp:∀(a:Nat) o b,Q[a]?=some (o,b)->aj s.h o=some b/\o.toNat<s.nx.toNat/\ao o=none/\¬F o
 nd:∀(a b:Nat) o c c',Q[a]?=some (o,c)->Q[b]?=some (o,c')->a=b
 kq:∀(a b:Nat) o c d,K[a]?=some (o,c)->Q[b]?=some (o,d)->False
section
variable{s s':HS}{sz:Nat}{ao:aW}{L:cq}{K:de}{F G:bM}{v:HV}{ak:aP}{Q:List (Ky×Ob)}
def dj.frame(h:dj s sz F v ak ao L K Q)(d:cV (λ_=>False) s s'):dj s' sz F v ak ao L K Q:=
 ⟨h.k.frame d,h.q.frame d (λ_ _ h=>h),h.fc,h.fk,λa o j m=>by
  obtain⟨n,f,p,r⟩:=h.mp a o j m;exact⟨by rw[d.2.2.1 o f (λh=>h)];exact n,dJ f d.1,p,r⟩,h.nd,h.kq⟩
def dj.cL(h:dj s sz F v ak ao L K Q)(c:ai):dj {h:=av (some (.cells (cP c) 0 c.length s.nx)) s.nx s.h,nx:=s.nx.succ,gr:=av (some [s.nx]) s.nx s.gr,ty:=s.ty} sz F v ak ao L ((s.nx,c)::K) Q:=by
 have n:=cV.alloc (s:=s) (.cells (cP c) 0 c.length s.nx) [s.nx];have j:=h.frame n;refine⟨h.k.cL c,j.q,h.fc,λa o c' f=>?_,j.mp,h.nd,λa b o c' d f m=>?_⟩
 .cases a with
  |zero=>cases f;exact λj=>ec _ (h.q.2.1 _ j)
  |succ a=>exact h.fk a o c' f
 cases a with
 |zero=>cases f;exact ec _ (h.mp b _ d m).2.1
 |succ a=>exact h.kq a b o c' d f m
def dj.sub(h:dj s sz F v ak ao L K Q){p:de}(f:Nat->Nat)(m:∀a r,p[a]?=some r->K[f a]?=some r)(u:∀a b,f a=f b->a=b):dj s sz F v ak ao L p Q:=
 ⟨⟨h.k.mem,λa o c j=>h.k.bm _ o c (m a _ j),λa b o c d j n=>u a b (h.k.nd _ _ o c d (m a _ j) (m b _ n))⟩,h.q,h.fc,λa o c j=>h.fk _ o c (m a _ j),h.mp,h.nd,λa b o c d j n=>h.kq _ b o c d (m a _ j) n⟩
def dj.tail(h:dj s sz F v ak ao L K Q)(n:Nat):dj s sz F v ak ao L (K.drop n) Q:=
 h.sub (λa=>n+a) (λa r d=>by rwa[kX]at d) (λa b h=>by omega)
def dj.cell(h:dj s sz F v ak ao L K Q){a:Nat}{o:Ky}{c c':ai}(j:K[a]?=some (o,c))(D:il s' o c')(m:cV (λp=>p=o) s s'):dj s' sz F v ak ao L (K.set a (o,c')) Q:=by
 have key:∀(b:Nat) p d,(K.set a (o,c'))[b]?=some (p,d)->∃e,K[b]?=some (p,e):=by
  intro b p d f;rw[gl]at f
  split at f
  .rename_i n
   split at f
   .cases f;exact⟨c,by rw[<-n];exact j⟩
   cases f
  exact⟨d,f⟩
 refine⟨h.k.cell j D m,h.q.frame m (λk I e=>h.fk a o c j (by rw[<-e];exact I)),h.fc,λb p d f=>?_,λb p A f=>?_,h.nd,λb J p d M f r=>?_⟩
 .obtain⟨e,u⟩:=key b p d f;exact h.fk b p e u
 .obtain⟨N,C,O,T⟩:=h.mp b p A f;exact⟨by rw[m.2.2.1 p C (λe=>h.kq a b o c A j (by rw[<-e];exact f))];exact N,dJ C m.1,O,T⟩
 obtain⟨e,u⟩:=key b p d f;exact h.kq b J p e M u r
def dj.put(h:dj s sz F v ak ao L K Q){a:Nat}{o:Ky}{c new:ai}(d:K[a]?=some (o,c)){x:HV}(f:cellsOf x=some new)(j:new.length=c.length):∃s',qh c.length (some (.ptr o 0)) (some x) s=.v .undef s'/\dj s' sz F v ak ao L (K.set a (o,new)) Q:=by obtain⟨s',m,n,p,_⟩:=(h.k.bm a o c d).1.put f j;exact⟨s',m,h.cell d n p⟩
def dj.Ca(h:dj s sz F v ak ao L K Q){b:Nat}{o:Ky}{d:Ob}(u:Q[b]?=some (o,d))(C:Ob):dj (s.aJ o C) sz F v ak ao L K (Q.set b (o,C)):=by
 obtain⟨g1,X,O,T⟩:=h.mp b o d u;have V:cV (λp=>p=o) s (s.aJ o C):=⟨aV _,rfl,λp _ Y=>by simp only[HS.aJ];rw[af,ar Y],λ_ _ _=>rfl⟩;have Z:=(aU.1 u).1;have key:∀(a:Nat) p f,(Q.set b (o,C))[a]?=some (p,f)->∃I,Q[a]?=some (p,I):=by
  intro a p f j;rw[gl]at j
  split at j
  .rename_i n
   try rw[au (by omega)]at j
   cases j;exact⟨d,by rw[<-n];exact u⟩
  exact⟨f,j⟩
 refine⟨h.k.ug V (λk i D e=>by rw[e,O]at D;cases D) (λa p c m e=>h.kq a b o c d (by rw[<-e];exact m) u),h.q.frame V (λk D e=>T (by rw[<-e];exact D)),h.fc,h.fk,λa p r m=>?_,λa A p f r j J=>?_,λa A p c es m M=>?_⟩
 .rw[gl]at m
  split at m
  .rename_i n
   try rw[au (by omega)]at m
   cases m;exact⟨by simp only[HS.aJ];rw[af,au rfl],X,O,T⟩
  rename_i n;obtain⟨k1,k2,k3,k4⟩:=h.mp a p r m;have N:p≠o:=λe=>by subst e;exact n (h.nd b a p d r u m)
  exact⟨by simp only[HS.aJ];rw[af,ar N];exact k1,k2,k3,k4⟩
 .obtain⟨_,j⟩:=key a p f j;obtain⟨_,J⟩:=key A p r J;exact h.nd a A p _ _ j J
 obtain⟨_,j⟩:=key A p es M;exact h.kq a A p c _ m j
def dj.Td(h:dj s sz F v ak ao L K Q){new:aP}(D:Sz sz new)(h0:new≠ []){bI:Nat}(I:ak.length+new.length<=bI):
  ∃f s',j0 sz bI none (some v) (some (.psl new)) s=.v f s'/\cellsOf f=some [f]/\dj s' sz (λk=>F k∨k=s.nx) f (ak++new) ao L K Q:=by
 obtain⟨f,s',J,u,m,V⟩:=h.q.append D h0 I;refine⟨f,s',J,u.one,h.k.ug m (λk i A d=>by rw[h.fc k d]at A;cases A) h.fk,u,λp n=>?_,λa o c j d=>?_,λa o M j=>?_,h.nd,h.kq⟩
 .rcases n with n|rfl
  .exact h.fc p n
  cases N:ao s.nx with|none=>rfl|some i=>exact absurd (h.k.mem.bd _ _ N) (ec _)
 .rcases d with d|rfl
  .exact h.fk a o c j d
  exact ec _ (h.k.bm a _ c j).1.2.2
 obtain⟨O,r,T,C⟩:=h.mp a o M j;refine⟨by rw[m.2.2.1 o r C];exact O,dJ r m.1,T,λd=>?_⟩;rcases d with d|rfl
 .exact C d
 exact ec _ r
def dj.KB{e:En}{r:ai}(h:dj s sz F v (r::ak) ao L K Q):∃a,zy (some v) (λd=>fw e d (some (.k (.int .i64 1)))) (λd=>fw e d none) none sz s=.v a s/\cellsOf a=some [a]/\dj s sz F a ak ao L K Q:=by obtain⟨a,j,f⟩:=h.q.tail (e:=e);exact⟨a,j,f.one,h.k,f,h.fc,h.fk,h.mp,h.nd,h.kq⟩
def dj.push(h:dj s sz F v ak ao L K Q)(n:Nat):dj s sz F v ak ao (L++[(.ah,n,[])]) K Q:=⟨h.k.push n,h.q,h.fc,h.fk,h.mp,h.nd,h.kq⟩
def dj.FI(h:dj s sz F v ak ao L K Q)(n:Nat):∃r,dj {h:=av (some (.cells (cP []) 0 0 s.nx)) s.nx s.h,nx:=s.nx.succ,gr:=av (some [s.nx]) s.nx s.gr,ty:=s.ty} sz F v ak r (L++[(.sl s.nx 0 0 n,n,[])]) K Q:=by
 classical
 have J:=Ky.aS s.nx;have M:=cV.alloc (s:=s) (.cells (cP []) 0 0 s.nx) [s.nx];have A:=h.frame M;have N:ao s.nx=none:=by cases O:ao s.nx with|none=>rfl|some i=>exact absurd (h.k.mem.bd _ _ O) (ec _)
 refine⟨λk=>if k=s.nx then some L.length else ao k,⟨⟨λk i d=>?_,λk i d=>?_,λi w m D f=>?_⟩,λa o c u=>?_,h.k.nd⟩,A.q,λp I=>?_,h.fk,λa o b u=>?_,h.nd,h.kq⟩
 .split at d
  .rename_i e;subst e;simp only;omega
  have:=h.k.mem.bd k i d;simp only;omega
 .rw[bZ,dB]
  split at d
  .cases d;omega
  have:=h.k.mem.top k i d;omega
 .rcases wo i L.length with C|C|C
  .rw[dD C]at f;refine(A.k.mem.own i w m D f).mono (λk d=>?_) (λk d=>?_)
   .have hb:=(h.k.mem.own i w m D f).2.1 k d;show(if k=s.nx then some L.length else ao k)=some i;rw[ar λe=>by subst e;omega];exact d
   have d:(if k=s.nx then some L.length else ao k)=some i:=d
   split at d
   .cases d;omega
   have:=h.k.mem.bd k i d;simp only;omega
  .subst C;simp only[List.getElem?_concat_length,bQ,gj]at f;obtain⟨rfl,rfl,rfl⟩:=f;refine⟨Sz.nil,λk d=>?_,.inr ⟨s.nx,cP [],0,s.nx,[],rfl,by simp only;rw[af,au rfl],by simp,λj T=>by simp at T,by simp only;rw[af,au rfl],by simp,λm V=>?_,?_⟩⟩
   .have d:(if k=s.nx then some L.length else ao k)=some L.length:=d
    split at d
    .rename_i e;subst e;simp only;omega
    have:=h.k.mem.bd k _ d;simp only;omega
   .rw[cr.1 V];show(if s.nx=s.nx then some L.length else ao s.nx)=some L.length;rw[au rfl]
   show(if s.nx=s.nx then some L.length else ao s.nx)=some L.length;rw[au rfl]
  rw[qz (by simp;omega)]at f;cases f
 .obtain⟨X,Y⟩:=A.k.bm a o c u;have:=(h.k.bm a o c u).1.2.2;exact⟨X,by rw[ar λe=>by subst e;omega];exact Y⟩
 .have:=h.q.2.1 p I;rw[ar λe=>by subst e;omega];exact h.fc p I
 obtain⟨Z,k2,k3,k4⟩:=A.mp a o b u;have:=(h.mp a o b u).2.1;exact⟨Z,k2,by rw[ar λe=>by subst e;omega];exact k3,k4⟩
def dj.KC(h:dj s sz F v ak ao L K Q)(i:Nat){w:HV}{n:Nat}{es:aP}(I:L[i]?=some (w,n,es)){new:aP}(J:Sz n new)(h0:new≠ []){bI:Nat}(M:es.length+new.length<=bI):
  ∃w' s' d,j0 n bI none (some w) (some (.psl new)) s=.v w' s'/\cellsOf w'=some [w']/\dj s' sz F v ak d (L.set i (w',n,es++new)) K Q:=by
 obtain⟨N,s',O,T,V,f⟩:=h.k.mem.sx i I J h0 M;refine⟨N,s',_,O,T,⟨V,λa p c j=>?_,h.k.nd⟩,h.q.frame f (λk X e=>by rw[h.fc k X]at e;cases e),λp r=>?_,h.fk,λa o m j=>?_,h.nd,h.kq⟩
 .obtain⟨u,A⟩:=h.k.bm a p c j;have Y:=u.2.2;exact⟨u.frame f (by rw[A];simp),by rw[ar λe=>by subst e;omega];exact A⟩
 .have:=h.q.2.1 p r;rw[ar λe=>by subst e;omega];exact h.fc p r
 obtain⟨Z,C,D,k4⟩:=h.mp a o m j;exact⟨by rw[f.2.2.1 o C (by show¬ao o=some i;rw[D];simp)];exact Z,dJ C f.1,by rw[ar λe=>by subst e;omega];exact D,k4⟩
def dj.af5(h:dj s sz F v ak ao L K Q)(b:Ob):dj {h:=av (some b) s.nx s.h,nx:=s.nx.succ,gr:=s.gr,ty:=s.ty} sz F v ak ao L K (Q++[(s.nx,b)]):=by
 have O:=Ky.aS s.nx;have I:cV (λ_=>False) s {h:=av (some b) s.nx s.h,nx:=s.nx.succ,gr:=s.gr,ty:=s.ty}:=⟨by simp only;omega,rfl,λp D _=>by simp only;rw[af,ar λe=>by subst e;omega],λ_ _ _=>rfl⟩;have A:=h.frame I;have key:∀(a:Nat) o j,(Q++[(s.nx,b)])[a]?=some (o,j)->(a<Q.length/\Q[a]?=some (o,j))∨(a=Q.length/\o=s.nx/\j=b):=by
  intro a o j f;rcases wo a Q.length with r|r|r
  .rw[dD r]at f;exact .inl ⟨r,f⟩
  .subst r;simp at f;exact .inr ⟨rfl,f.1.symm,f.2.symm⟩
  rw[qz (by simp;omega)]at f;cases f
 refine⟨A.k,A.q,h.fc,h.fk,λa o j f=>?_,λa b o j n f C=>?_,λa b o c d f C=>?_⟩
 .rcases key a o j f with⟨_,m⟩|⟨_,rfl,rfl⟩
  .exact A.mp a o j m
  refine⟨by simp only;rw[af,au rfl],by simp only;omega,?_,λD=>ec _ (h.q.2.1 _ D)⟩;cases J:ao s.nx with|none=>rfl|some i=>exact absurd (h.k.mem.bd _ _ J) (ec _)
 .rcases key a o j f with⟨M,m⟩|⟨M,m,_⟩<;>rcases key b o n C with⟨N,u⟩|⟨N,u,_⟩
  .exact h.nd a b o j n m u
  .subst u;exact(ec _ (h.mp a _ j m).2.1).elim
  .subst m;exact(ec _ (h.mp b _ n u).2.1).elim
  omega
 rcases key b o d C with⟨_,m⟩|⟨_,rfl,_⟩
 .exact h.kq a b o c d f m
 exact ec _ (h.k.bm a _ c f).1.2.2
def dj.kill{o:Ky}{b:Ob}(h:dj s sz F v ak ao L K (Q++[(o,b)])):dj (s.kill o) sz F v ak ao L K Q:=by
 have n:(Q++[(o,b)])[Q.length]?=some (o,b):=by simp
 obtain⟨X,Y,D,I⟩:=h.mp Q.length o b n;have C:cV (λp=>p=o) s (s.kill o):=⟨aV _,rfl,λp _ J=>by rw[sh,ar J],λ_ _ _=>rfl⟩;have key:∀(a:Nat) r,Q[a]?=some r->(Q++[(o,b)])[a]?=some r:=λa r f=>by rw[dD (aU.1 f).1];exact f
 refine⟨h.k.ug C (λk i m e=>by rw[e,D]at m;cases m) (λa p c f e=>h.kq a _ o c b (by rw[<-e];exact f) n),h.q.frame C (λk m e=>I (by rw[<-e];exact m)),h.fc,h.fk,λa p d f=>?_,λa u p d M f j=>h.nd a u p d M (key _ _ f) (key _ _ j),λa u p c d f j=>h.kq a u p c d f (key _ _ j)⟩;obtain⟨N,O,T,V⟩:=h.mp a p d (key _ _ f);have A:p≠o:=λe=>by subst e;have Z:=h.nd a Q.length p d b (key _ _ f) n;have h2:=(aU.1 f).1;omega
 exact⟨by rw[sh,ar A];exact N,O,T,V⟩
end
def oB(n:Nat):az:=if h:n=0 then []else(48+n%2)::oB (n/2)
def rA:oB 0=[]:=by rw[oB];simp
def rC{n:Nat}(h:0<n):oB n=(48+n%2)::oB (n/2):=by rw[oB];rw[dif_neg (by omega)]
def ND:∀(n:Nat),∀c∈oB n,c<256/\c≠44:=by
 intro n
 induction n using Nat.strongRecOn with
 |_ n d=>
  intro c a;by_cases h:0<n
  .rw[rC h]at a;rcases bk.1 a with rfl|a
   .omega
   exact d _ (by omega) c a
  rw[show n=0 by omega,rA]at a;cases a
def za(n:Nat):(oB n).length<=n:=by
 induction n using Nat.strongRecOn with
 |_ n a=>
  by_cases h:0<n
  .rw[rC h,aB];have:=a (n/2) (by omega);omega
  rw[show n=0 by omega,rA];simp
def KU:∀(a b:Nat) (r d:az),oB a++44::r=oB b++44::d->a=b/\r=d:=by
 intro a
 induction a using Nat.strongRecOn with
 |_ a m=>
  intro b r d h;by_cases j:0<a
  .by_cases f:0<b
   .rw[rC j,rC f,bo,bo,n6]at h;obtain⟨p,n⟩:=m (a/2) (by omega) (b/2) r d h.2;exact⟨by omega,n⟩
   rw[rC j,show b=0 by omega,rA,bo,bq,n6]at h;omega
  by_cases f:0<b
  .rw[rC f,show a=0 by omega,rA,bo,bq,n6]at h;omega
  rw[show a=0 by omega,show b=0 by omega,rA,bq,bq,n6]at h;exact⟨by omega,h.2⟩
def jy(l:az):az:=l.flatMap λn=>oB n++[44]
def Im(l:az)(n:Nat):jy (l++[n])=jy l++(oB n++[44]):=by simp[jy]
def D2:∀(a b:az),jy a=jy b->a=b
 |[],[],_=>rfl
 |[],n::b,h=>by simp[jy]at h
 |n::a,[],h=>by simp[jy]at h
 |n::a,m::b,h=>by
  have e:∀(n:Nat) (a:az),jy (n::a)=oB n++44::jy a:=λn a=>by simp[jy]
  rw[e,e]at h;obtain⟨d,f⟩:=KU _ _ _ _ h;rw[d,D2 a b f]
def NG(l:az):∀c∈jy l,c<256:=by
 intro c a;obtain⟨n,_,a⟩:=qF.1 a;rcases cp.1 a with a|a
 .exact(ND n c a).1
 simp at a;omega
def zb:∀(l:az),(∀n∈l,n<=100000)->(jy l).length<=100001*l.length
 |[],_=>by simp[jy]
 |n::l,h=>by
  have d:=zb l (λm a=>h m (by simp[a]));have f:=za n;have j:=h n (by simp);have e:(jy (n::l)).length=(oB n).length+1+(jy l).length:=by simp[jy];omega
  rw[e,aB];omega
section
variable{o3:Ky}
def Zh{l:ai}{i:Nat}{p:Nat}{d:az}(hd:d.length+p<=200000000000){e:En}{s:HS}{o:Out}{pp v v7:HV}{ao:aW}(N:p<=100000)
  (n:bB e [(3,.ptr o3 0),(5,iV p),(6,.psl (l.map λa=>[a])),(7,v7),(8,iV i)])
  (u:aI s ao [(v,1,d.map uC)] [(o3,[pp,v])])(A:lA s o3 pp v)(O:bO R (.loop U.tC) e s=o):
  ∃e' s' ao pp v,o=.code (.exit 2) e' s'/\bB e' [(3,.ptr o3 0),(6,.psl (l.map λa=>[a])),(7,v7),(8,iV i)]/\aI s' ao [(v,1,(d++oB p).map uC)] [(o3,[pp,v])]/\lA s' o3 pp v:=by
 refine bh O p
  (λj e s=>∃(ao:aW) (pp v:HV) (m:Nat) (C:az),m+j<=p/\C++oB m=d++oB p/\bB e [(3,.ptr o3 0),(5,iV m),(6,.psl (l.map λa=>[a])),(7,v7),(8,iV i)]/\aI s ao [(v,1,C.map uC)] [(o3,[pp,v])]/\lA s o3 pp v)
  (λo=>∃e' s' ao pp v,o=.code (.exit 2) e' s'/\bB e' [(3,.ptr o3 0),(6,.psl (l.map λa=>[a])),(7,v7),(8,iV i)]/\aI s' ao [(v,1,(d++oB p).map uC)] [(o3,[pp,v])]/\lA s' o3 pp v)
  0 (by omega) ⟨ao,pp,v,p,d,by omega,rfl,n,u,A⟩
  (λj e s r hj ⟨ao,pp,v,m,C,T,f,n,u,A⟩ q=>by
   simp only[ab,ae]at n;by_cases h0:0<m
   .have V:(0:Int)<m:=by omega
    have hlen:C.length+1<=140737488355328:=by have:=ch List.length f;have h2:=za p;rw[bZ,bZ]at this;omega
    obtain⟨X,s1,Y,M,D,I⟩:=SH (a:=0) (i:=0) u rfl rfl A (48+m%2) hlen;simp only[aO]at D;have e1:∀s,mj false .rem (some (iV m)) (some (.int .i64 2)) s=.v (iV ((m%2:Nat):Int)) s:=λ_=>rfl
    have J:∀s,mj false .quo (some (iV m)) (some (.int .i64 2)) s=.v (.int .i64 (bT .i64 ((m/2:Nat):Int))) s:=λ_=>rfl
    have Z:bT .i64 (48+(m:Int)%2)=48+(m:Int)%2:=cx (by omega) (by omega);have e4:bT .u8 (48+(m:Int)%2)=48+(m:Int)%2:=by
     have:(m:Int)%2=0∨(m:Int)%2=1:=by omega
     rcases this with h|h<;>rw[h]<;>decide
    rw[show((48+m%2:Nat):Int)=48+(m:Int)%2 by omega]at M;have e5:bT .i64 (((m/2:Nat):Int))=((m/2:Nat):Int):=cx (by omega) (by omega);rw[e5]at J;simp only[iV]at e1 J;simp[U.tC,n,h0,e1,J,Z,e4,M]at q;subst q;refine .inl ⟨_,_,rfl,Y,_,X,m/2,C++[48+m%2],by omega,?_,by simp[n,iV],D,I⟩;rw[<-f,rC h0];simp
   obtain rfl:m=0:=by omega
   simp[U.tC,n]at q;subst q;rw[rA,qE]at f;subst f;exact .inr ⟨by simp,_,_,ao,pp,v,rfl,by simp[n],u,A⟩)
  (λe s r ⟨ao,pp,v,m,C,T,f,n,u,A⟩ q=>by
   simp only[ab,ae]at n;obtain rfl:m=0:=by omega
   simp[U.tC,n]at q;subst q;rw[rA,qE]at f;subst f;exact⟨by simp,_,_,ao,pp,v,rfl,by simp[n],u,A⟩)
def af6(l:az)(h0:l≠ [])(hl:l.length<=1000000)(O:∀n∈l,n<=100000)(s:HS):R (.call 48 [.psl (l.map nC)] s)=.val (.str (jy l)) s:=by
 refine acR ?_;have T:aI s0 (λ_=>none) [] []:=⟨dV.start (by simp),by simp,by simp⟩;have f:=(((T.cL [.dE,.ah]).ty (av (some (159,2)) s0.nx s0.ty)).push 1);have j:lA (HS.mk (av (some (.cells (cP [.dE,.ah]) 0 2 s0.nx)) s0.nx s0.h) s0.nx.succ (av (some [s0.nx]) s0.nx s0.gr) (av (some (159,2)) s0.nx s0.ty)) s0.nx .dE .ah:=⟨by simp only;rw[af,au rfl],.inl rfl,λo a b c h=>by cases h⟩;simp only[bq,aB,aC,bn,Nat.reduceAdd]at f;generalize V:HS.mk _ _ _ _=S1 at f j;simp[U.VN,V];generalize ho:bO R (.loop U.Bc) _ _=o;have hq:∃A s' ao pp v,o=.code (.exit 0) A s'/\look A 3=some (.ptr s0.nx 0)/\aI s' ao [(v,1,(jy l).map uC)] [(s0.nx,[pp,v])]/\lA s' s0.nx pp v:=by
  refine bh ho l.length
   (λi e s=>∃(ao:aW) (pp v:HV),bB e [(3,.ptr s0.nx 0),(6,.psl (l.map nC)),(7,iV l.length),(8,iV i)]/\aI s ao [(v,1,(jy (l.take i)).map uC)] [(s0.nx,[pp,v])]/\lA s s0.nx pp v)
   (λo=>∃A s' ao pp v,o=.code (.exit 0) A s'/\look A 3=some (.ptr s0.nx 0)/\aI s' ao [(v,1,(jy l).map uC)] [(s0.nx,[pp,v])]/\lA s' s0.nx pp v)
   0 (by omega) ⟨_,.dE,.ah,by simp[iV],by simpa[jy]using f,j⟩
   (λi e s r N ⟨ao,pp,v,m,C,D⟩ p=>by
    have X:(i:Int)<l.length:=by omega
    have hw:=br N (by omega);have Y:=O _ (cb N);have q:=zb (l.take i) (λn hm=>O n (j6 hm));rw[od]at q;have q:(jy (l.take i)).length<=100001000000:=by
     have:min i l.length<=1000000:=by omega
     omega
    simp only[ab,ae]at m;simp[U.Bc,m,N,X]at p;generalize I:bO R (.loop U.tC) _ _=o1 at p;obtain⟨e1,s1,c1,h5,v1,rfl,u,f,j⟩:=Zh (l:=l.map λn:Nat=>iV (n:Int)) (i:=i) (v7:=iV l.length) (d:=jy (l.take i)) (by omega) Y (by simp[m,iV,tP]) C D I;clear I;have hb:=za l[i];obtain⟨v2,s2,c2,Z,J,h1⟩:=SH (a:=0) (i:=0) f rfl rfl j 44 (by rw[bZ];omega);have Z:R (.call 77 [.ptr s0.nx 0,.int .u8 44] s1)=.val .fU s2:=Z;simp only[aO]at J;simp only[ab,ae]at u;simp[u,Z,hw]at p;subst p;refine .inl ⟨_,_,rfl,c2,_,v2,by simp[u,iV,tP],?_,h1⟩;rw[eW N,Im,<-List.append_assoc];exact J)
   (λe s r ⟨ao,pp,v,m,C,D⟩ p=>by
    rw[fD (aV _)]at C;simp only[ab,ae]at m;simp[U.Bc,m]at p;subst p;exact⟨by simp,_,_,ao,pp,v,rfl,by simp[m],C,D⟩)
 clear ho;obtain⟨A,s',ao,pp,v,rfl,h3,C,D⟩:=hq;have h4:jy l≠ []:=by cases l with|nil=>exact(h0 rfl).elim|cons n l=>simp[jy]
 have q:=zb l O;obtain⟨s3,M⟩:=YA (a:=0) (i:=0) C rfl rfl D h4 (by omega) (NG l);simp[h3,M,aa]
end
def uR(p:Nat×Nat):HV:=.str (jy [p.1,p.2])
def KV(p:Nat×Nat):pX KS (uR p)=true:=rfl
def KW(a b:Nat×Nat):pW KS (uR a) (uR b)=some (decide (a=b)):=by
 unfold uR;rw[B3]
 congr 1
 rw[KX];constructor
 .intro h;have:=D2 _ _ h;simp only[n6,yp]at this;exact Prod.ext this.1 this.2
 intro h;rw[h]
def w99(p:Nat×Nat)(q:p.1<=100000)(r:p.2<=100000)(s:HS):R (.call 47 [.agg [iV p.1,iV p.2]] s)=.val (uR p) s:=by
 refine q99 ?_;have j:aI s0 (λ_=>none) [] []:=⟨dV.start (by simp),by simp,by simp⟩;obtain⟨u,a⟩:=j.DI (sz:=1) (t:=[p.1,p.2].map nC) (Sz.map (f:=nC) (λ_=>rfl) _);generalize d:HS.mk _ _ _ _=m at a;have h:R (.call 48 [.sl s0.nx 0 2 1] m)=.val (.str (jy [p.1,p.2])) m:=
  acS (by simp[cI,cm]) (.cons ((a.mem.own 0 (.sl s0.nx 0 2 1) 1 ([p.1,p.2].map nC) rfl).vw (n:=14) (cD (λx=>by simp) _)) .nil) (by simp) rfl (af6 [p.1,p.2] (by simp) (by simp) (by simp;omega))
 simp only[bX,lO,iV,cj,gS,bZ,aB,aC,bn,Nat.reduceAdd,qE,bo,bq]at d;unfold uR;simp[U.b99,d,h,aa]
def G8(f:Nat)(F:HF)(w v:HV)(s s':HS)(r:U.prog f=some F)(m:pG LU f=true)(u:F.pu=false)(A:1=F.np)(C:w=.ah∨∃o a b c,w=.sl o a b c)(h:∃x e s1,ev R F.c (bc [w] 0) s=.code x e s1/\(x=.normal∨x=.ret)/\ml (dF e s1 F.rs) s1=.val v s'):
  R (.call f [w] s)=.val v s':=by
 refine dm ?_ trivial;show rF LU f [w] s (bG U.prog R f [w] s)=_;have d:∀K,rF LU f [w] s K=K:=by
  intro K;unfold pG at m;simp only[pf,yd]at m;obtain⟨⟨⟨n,p⟩,j⟩,q⟩:=m;have D:gz LU f [w] s K=K:=by unfold gz;rcases C with rfl|⟨_,_,_,_,rfl⟩<;>cases zi f LU.Iu<;>rfl
  unfold rF;rw[n,p,j,D];cases I:LU.ve with|none=>rfl|some t=>rw[I]at q;simp only[cond_false,bR];rw[show Nat.beq f t=false from q];rfl
 rw[d];unfold bG;rw[r];simp only[bR,u,cond_false];unfold dO;rw[cC,show [w].length=F.np from A,cR];simp only[eV];obtain⟨x,e,s1,n,p,j⟩:=h;rw[n];rcases p with rfl|rfl
 .show leave F e s1=_;rw[ij];exact j
 show leave F e s1=_;rw[ij];exact j
def NH{s:HS}{v w:HV}{sz bI:Nat}{F:bM}{ak:aP}(h:cu s w sz F ak)(a:gZ v=true):j0 sz bI none (some v) (some w) s=j0 sz bI none (some v) (some (.psl ak)) s:=by
 have f:=h;obtain⟨j,_,m⟩:=h;rcases m with⟨rfl,h0⟩|⟨o,t,p,g,d,rfl,_⟩
 .have:ak=[]:=by simpa using h0
  subst this;rw[agY a,kQ a]
 have n:=f.cells.2;show(bif gZ v then(bif Nat.beq ak.length 0 then cX.v v s else bR (s.bF o 0 (ak.length*sz)) (λl=>s.append sz bI none v l ak.length) .bad)else .bad)=(bif gZ v then(bif Nat.beq (aM ak) 0 then cX.v v s else bif dk sz ak then s.append sz bI none v (aD ak) (aM ak)else .bad)else .bad);rw[gI,n,cC,mK j];rfl
def Cp(L:cq)(w:HV)(l:bE):Prop:=(w=.ah/\l=[])∨∃i:Nat,L[i]?=some (w,4,l.map Mv.c)
def Cp.more{L:cq}{w:HV}{l:bE}(h:Cp L w l)(x:tO):Cp (L++[x]) w l:=by
 rcases h with h|⟨i,h⟩
 .exact .inl h
 exact .inr ⟨i,by rw[dD (aU.1 h).1];exact h⟩
section
variable{s:HS}{sz:Nat}{ao:aW}{L:cq}{K:de}{F:bM}{v:HV}{ak:aP}{Q:List (Ky×Ob)}
def af7(M:dj s sz F v ak ao L K Q){w:HV}{l:bE}(Y:Cp L w l)(hl:l.length<=100000):∃w' s' d,R (.call 79 [w] s)=.val w' s'/\dj s' sz F v ak d (L++[(w',4,l.map Mv.c)]) K Q:=by
 have p:∀l:bE,l=[]->∃w' s' d,R (.call 79 [.ah] s)=.val w' s'/\dj s' sz F v ak d (L++[(w',4,l.map Mv.c)]) K Q:=by
  rintro _ rfl
  have u:∃h,ev R U.E3 (bc [.ah] 0) s=.code .ret h s/\look h 2=some .ah:=by generalize C:ev R U.E3 (bc [.ah] 0) s=r;simp[U.E3]at C;subst C;exact⟨_,rfl,by simp⟩
  obtain⟨h,u,N⟩:=u;exact⟨.ah,s,ao,G8 79 U.f137 _ _ s s rfl rfl rfl rfl (.inl rfl) ⟨.ret,_,s,u,.inr rfl,by show ml (dF h s [.tmp 2]) s=_;simp[N]⟩,by simpa using M.push 4⟩
 rcases Y with⟨rfl,h0⟩|⟨i,O⟩
 .exact p l h0
 have Z:=M.k.mem.own i _ _ _ O;rcases Z.2.2 with⟨rfl,h0⟩|⟨o,t,hh,g,X,hv,_⟩
 .exact p l (by simpa using h0)
 have A:l=[]∨l≠ []:=Classical.em _;obtain⟨D,j⟩:=M.FI 4;have T:(L++[(HV.sl s.nx 0 0 4,4,([]:aP))])[i]?=some (w,4,l.map Mv.c):=by rw[dD (aU.1 O).1];exact O
 generalize V:HS.mk _ _ _ _=S1 at j;have q:=NH (bI:=4398046511104) (j.k.mem.own i _ _ _ T) (v:=.sl s.nx 0 0 4) rfl;have key:∃w' s2 a,j0 4 4398046511104 none (some (.sl s.nx 0 0 4)) (some w) S1=.v w' s2/\dj s2 sz F v ak a (L++[(w',4,l.map Mv.c)]) K Q:=by
  rcases A with rfl|A
  .exact⟨_,_,D,by rw[q];exact kQ rfl,j⟩
  obtain⟨w',s2,a,J,k2,m⟩:=j.KC L.length (w:=.sl s.nx 0 0 4) (n:=4) (es:=[]) (by simp) (new:=l.map Mv.c) (Sz.map (f:=Mv.c) (λx=>rfl) _) (by simpa using A) (bI:=4398046511104) (by simp;omega);have I:(L++[(HV.sl s.nx 0 0 4,4,([]:aP))]).set L.length (w',4,[]++l.map Mv.c)=L++[(w',4,l.map Mv.c)]:=by simp
  rw[I]at m;exact⟨w',s2,a,by rw[q];exact J,m⟩
 obtain⟨w',s2,a,J,m⟩:=key;subst hv;have u:∃h,ev R U.E3 (bc [.sl o 0 (l.map Mv.c).length 4] 0) s=.code .ret h s2/\look h 2=some w':=by generalize C:ev R U.E3 (bc [.sl o 0 (l.map Mv.c).length 4] 0) s=r;simp only[bz]at C J;simp[U.E3,V,J]at C;subst C;exact⟨_,rfl,by simp⟩
 obtain⟨h,u,N⟩:=u;exact⟨w',s2,a,G8 79 U.f137 _ _ s s2 rfl rfl rfl rfl (.inr ⟨_,_,_,_,rfl⟩) ⟨.ret,_,s2,u,.inr rfl,by show ml (dF h s2 [.tmp 2]) s2=_;simp[N]⟩,m⟩
def w97(n:dj s sz F v ak ao L K Q)(p:Nat×Nat)(o8 o9:Ky):∃s' oa,R (.call 45 [.agg [iV p.1,iV p.2],.ptr o9 0,.ptr o8 0] s)=.val (.fn 46 [] [.ptr o9 0,.ptr oa 0,.ptr o8 0]) s'/\dj s' sz F v ak ao L ((oa,[iV p.1,iV p.2])::K) Q:=by
 have a:=n.cL [iV p.1,iV p.2];generalize d:HS.mk _ _ _ _=f at a;simp only[iV,aB,aC,bn,Nat.reduceAdd]at d;have h:∃j,ev R U.ZO (bc [.agg [iV p.1,iV p.2],.ptr o9 0,.ptr o8 0] 0) s=.code .ret j f/\look j 4=some (.fn 46 [] [.ptr o9 0,.ptr s.nx 0,.ptr o8 0]):=by generalize m:ev R U.ZO (bc [.agg [iV p.1,iV p.2],.ptr o9 0,.ptr o8 0] 0) s=r;simp[U.ZO,d]at m;subst m;exact⟨_,rfl,by simp⟩
 obtain⟨j,h,q⟩:=h;exact⟨f,s.nx,n97 rfl ⟨.ret,_,f,h,.inr rfl,by simp[q]⟩,a⟩
end
section
variable{l:Ky}{s s1:HS}{e e1:En}{gV body:HC}
def KY{v1 v2:HV}{f j:Nat}{r:En}{s2:HS}(u:aj s.h l=sg 0 none e [f,j] gV body)(A:ev R gV (.cons f v1 (.cons j v2 e)) s=.code .normal e1 s1)(C:aj s1.h l=sg 0 none e [f,j] gV body)
    (D:ev R body e1 (s1.aJ l (.loop 2 none e [f,j] gV body))=.code .normal r s2)(I:aj s2.h l=sg 2 none e [f,j] gV body):
    R (.round l [v1,v2] s)=.val (.bool true) (s2.aJ l (.loop 0 none e [f,j] gV body)):=by
  refine dm ?_ trivial;show fB R l [v1,v2] s=_;unfold fB;rw[u];show(match ev R gV (.cons f v1 (.cons j v2 e)) s with
      |.code .normal e1 s1=>(match aj s1.h l with
        |some (.loop n p q m d a)=>bif Nat.beq n 0 then(match ev R body e1 (s1.aJ l (.loop 2 p q m d a))with
          |.code .normal _ s2=>fK l 0 none s2
          |.code .ret _ s2=>fK l 1 (some .ret) s2
          |.code (.exit i) _ s2=>fK l 1 (some (.exit i)) s2
          |_=>.bad 11)else .bad 17
        |_=>.bad 18)
      |_=>.bad 12)=_
  rw[A];show(match aj s1.h l with
        |some (.loop n p q m d a)=>bif Nat.beq n 0 then(match ev R body e1 (s1.aJ l (.loop 2 p q m d a))with
          |.code .normal _ s2=>fK l 0 none s2
          |.code .ret _ s2=>fK l 1 (some .ret) s2
          |.code (.exit i) _ s2=>fK l 1 (some (.exit i)) s2
          |_=>.bad 11)else .bad 17
        |_=>.bad 18)=_
  rw[C];show(match ev R body e1 (s1.aJ l (.loop 2 none e [f,j] gV body))with
          |.code .normal _ s2=>fK l 0 none s2
          |.code .ret _ s2=>fK l 1 (some .ret) s2
          |.code (.exit i) _ s2=>fK l 1 (some (.exit i)) s2
          |_=>.bad 11)=_
  rw[D];show fK l 0 none s2=_;unfold fK;rw[I];rfl
end
def D9(p:Sq×HV):ai:=[iV p.1.s,iV p.1.p,p.2]
def lE(q:List Sq):List ((Nat×Nat)×HV):=q.map λz=>(z.k,.bool true)
def Cg(k:Nat×Nat):∀q:List Sq,lkp k (lE q)=if k∈q.map Sq.k then some (.bool true)else none
 |[]=>by simp[lE,lkp]
 |z::q=>by
  have a:=Cg k q;show(if k=z.k then some (HV.bool true)else lkp k (lE q))=_;rw[a,bX];by_cases h:k=z.k
  .simp[h]
  simp[h]
def kK.Ou{s:HS}{v:HV}{F:bM}{a b c:HV}{ak:aP}(h:kK s v 3 F ([a,b,c]::ak)):∃o bj,(∀k (s1:HS),Fp (some v) (some (.int k 0)) 3 s1=.v (.ptr o bj) s1)/\F o/\fQ (aj s.h o) bj 2=some [a,b]/\eN (aj s.h o) (bj+2)=some c:=by
 obtain⟨u,A,o,t,m,bj,d,g,n,rfl,p,q,f,j,C,D,r,I⟩:=h;rw[aB,iR]at f j;refine⟨o,bj,λk s1=>by simp,r o dr,?_,?_⟩
 .rw[p];show(if m<=bj then if bj+2<=d then mr t 2 bj else none else none)=_;rw[au q,au (by omega),nQ t [a,b] 2 bj (λi d=>by rw[j i (by omega),cj];match i,d with|0,_=>rfl|1,_=>rfl) rfl]
 rw[p];show(if m<=bj+2 then if bj+2<d then fI t (bj+2)else none else none)=_;rw[au (by omega),au (by omega),j 2 (by omega),cj];rfl
def oC(L:cq)(rx:HV)(r:Option bE):Prop:=match r with|none=>rx=.ah|some w=>Cp L rx w
def oC.more{L:cq}{rx:HV}{r:Option bE}(h:oC L rx r)(x:tO):oC (L++[x]) rx r:=by cases r with|none=>exact h|some w=>exact Cp.more h x
abbrev lK(o8 o9:Ky)(b:Bool):ai:=[iV 0,iV 0,.fn 47 [] [],.fn 45 [] [.ptr o9 0,.ptr o8 0],iV 0,.bool b]
section
variable{x y:Fa}{b:Bool}{z:Sq}{g:Fq}{e:Eg}{E:En}{s:HS}{F:bM}{v w rx:HV}{W:List (Sq×HV)}{ao:aW}{L:cq}{l om oa ox o2 o3 o4 o5 o6 o7 o8 o9:Ky}{to:HV}
def af8(hz:KO x y z)(hg:Cd x y g)(hn:y.nx.length<=400)(hm:x.nx.length<=400)(kj:z.w.length<=100000)(ku:e.to<y.nx.length)(hx:bA x)
  (hE:bB E [(1,.aw (lK o8 o9 b)),(2,.ptr o2 0),(3,.ptr o3 0),(4,.ptr o4 0),(5,.ptr o5 0),(6,.ptr o6 0)])
  (hW:∀p∈(z,w)::W,Cp L p.2 p.1.w)(kv:W.length<=200000)(hR:oC L rx g.r)
  (kk:(bH x z.p e.m= -1/\to=.dE)∨(bH x z.p e.m≠ -1/\to=.ptr o7 0))
  (hM:dj s 3 F v (((z,w)::W).map D9) ao L [(o7,[iV e.to,iV (bH x z.p e.m)]),(ox,e.c),(oa,[iV z.s,iV z.p]),(o6,[v]),(o5,[.mp om]),(o4,[iV 0]),(o3,[.bool g.r.isSome]),(o2,[rx]),(o9,y.c),(o8,x.c)]
   [(om,.mp (eX uR (lE g.q))),(l,.loop 0 none E [33,34] (.seq U.hX U.hY) U.gH)]):
  ∃F' v' C L' J s' W',R (.round l [.agg e.m.c,to] s)=.val (.bool true) s'/\(iv x b z g e).q=g.q++W'.map Prod.fst/\(∀p∈(z,w)::(W++W'),Cp L' p.2 p.1.w)/\oC L' J (iv x b z g e).r/\
   dj s' 3 F' v' (((z,w)::(W++W')).map D9) C L' [(o7,[iV e.to,iV (bH x z.p e.m)]),(ox,e.c),(oa,[iV z.s,iV z.p]),(o6,[v']),(o5,[.mp om]),(o4,[iV 0]),(o3,[.bool (iv x b z g e).r.isSome]),(o2,[J]),(o9,y.c),(o8,x.c)]
   [(om,.mp (eX uR (lE (iv x b z g e).q))),(l,.loop 0 none E [33,34] (.seq U.hX U.hY) U.gH)]:=by
 have hk:=hM.cL e.m.c;generalize k3:HS.mk _ _ _ _=S1 at hk;obtain⟨ob,k5⟩:∃ob,ob=s.nx:=⟨_,rfl⟩;have ha:ev R (.seq U.hX U.hY) (.cons 33 (.agg e.m.c) (.cons 34 to E)) s=.code .normal ((En.cons 33 (.agg e.m.c) (.cons 34 to E)).oE 7 (.ptr ob 0)|>.oE 8 to) S1:=by simp only[Mv.c,aB,aC,bn,Nat.reduceAdd]at k3;simp[k3,k5,aq,aA]
 have kl:=(hM.mp 1 _ _ rfl).1;have km:=(hk.mp 1 _ _ rfl).1;have M:=hk.Ca (b:=1) rfl (.loop 2 none E [33,34] (.seq U.hX U.hY) U.gH);simp only[bJ,aO]at M;generalize kn:HS.aJ S1 l _=S2 at M;rw[<-k5]at M;generalize k7:((En.cons 33 (HV.agg e.m.c) (.cons 34 to E)).oE 7 (.ptr ob 0)|>.oE 8 to)=E1 at ha;have hl:bB E1 [(1,.aw (lK o8 o9 b)),(2,.ptr o2 0),(3,.ptr o3 0),(4,.ptr o4 0),(5,.ptr o5 0),(6,.ptr o6 0),(7,.ptr ob 0),(8,to)]:=by subst k7;simp only[ab,ae]at hE;simp[hE]
 clear k7 hE;obtain⟨o,kx,ko,_,ky,kp⟩:=kK.Ou (a:=iV z.s) (b:=iV z.p) (c:=w) M.q;obtain⟨w1,S3,c3,k8,k9⟩:=af7 M (w:=w) (l:=z.w) (hW (z,w) (by simp)) kj;have d6:=(M.k.bm 4 _ _ rfl).1.1;have d7:=(M.k.bm 0 _ _ rfl).1.1;have ka:=(k9.k.bm 0 _ _ rfl).1.1;obtain⟨Z,N,c4,h4,k4,j⟩:=k9.KC L.length (w:=w1) (n:=4) (es:=z.w.map Mv.c) (by simp) (new:=[e.m.c]) (Sz.cons rfl Sz.nil) (by simp) (bI:=4398046511104) (by simp;omega);have kb:(L++[(w1,4,z.w.map Mv.c)]).set L.length (Z,4,z.w.map Mv.c++[e.m.c])=L++[(Z,4,(z.w++[e.m]).map Mv.c)]:=by simp
 rw[kb]at j;have kc:Cp (L++[(Z,4,(z.w++[e.m]).map Mv.c)]) Z (z.w++[e.m]):=.inr ⟨L.length,by simp⟩;have hd:∀p∈(z,w)::W,Cp (L++[(Z,4,(z.w++[e.m]).map Mv.c)]) p.2 p.1.w:=λp hp=>(hW p hp).more _
 have ho:=hR.more (Z,4,(z.w++[e.m]).map Mv.c);have q7:∃Y,ev R U.EW E1 S2=.code .normal Y N/\bB Y [(1,.aw (lK o8 o9 b)),(2,.ptr o2 0),(3,.ptr o3 0),(4,.ptr o4 0),(5,.ptr o5 0),(6,.ptr o6 0),(7,.ptr ob 0),(8,to),(9,Z)]:=by generalize A:ev R U.EW E1 S2=r;simp only[Mv.c,aB,aC,bn,Nat.reduceAdd]at d6 d7 ka h4;simp only[ab,ae]at hl;simp[hl,d6,d7,ka,ko,kp,k8,h4,an]at A;subst A;exact⟨_,rfl,by simp[hl]⟩
 obtain⟨Y,q7,f⟩:=q7
 suffices kd:∃u S5 F' v' C L' J W',ev R U.iG Y N=.code .normal u S5/\look u 1=some (.aw (lK o8 o9 b))/\(iv x b z g e).q=g.q++W'.map Prod.fst/\(∀p∈(z,w)::(W++W'),Cp L' p.2 p.1.w)/\oC L' J (iv x b z g e).r/\
   dj S5 3 F' v' (((z,w)::(W++W')).map D9) C L' [(ob,e.m.c),(o7,[iV e.to,iV (bH x z.p e.m)]),(ox,e.c),(oa,[iV z.s,iV z.p]),(o6,[v']),(o5,[.mp om]),(o4,[iV 0]),(o3,[.bool (iv x b z g e).r.isSome]),(o2,[J]),(o9,y.c),(o8,x.c)]
   [(om,.mp (eX uR (lE (iv x b z g e).q))),(l,.loop 2 none E [33,34] (.seq U.hX U.hY) U.gH)] by
  obtain⟨u,S5,F',v',C,L',J,W',k4,h1,h2,h3,h5,h6⟩:=kd;have hs:∃E4,ev R U.Be u S5=.code .normal E4 S5/\look E4 90=some (.bool false):=by generalize A:ev R U.Be u S5=r;simp[h1]at A;subst A;exact⟨_,rfl,by simp⟩
  obtain⟨E4,hs,kq⟩:=hs;have ht:ev R U.gH E1 S2=.code .normal E4 S5:=by unfold U.gH;rw[lu,oA q7,oA k4,oA hs,DZ kq];rfl
  have kr:=(h6.mp 1 _ _ rfl).1;have h7:=h6.Ca (b:=1) rfl (.loop 0 none E [33,34] (.seq U.hX U.hY) U.gH);simp only[bJ,aO]at h7;exact⟨F',v',C,L',J,_,W',KY kl ha km (by rw[kn];exact ht) kr,h2,h3,h5,h7.tail 1⟩
 have d3:=(j.k.bm 7 _ _ rfl).1.1;have hy:=(j.k.bm 0 _ _ rfl).1.1;have d5:=(j.k.bm 5 _ _ rfl).1.1;have k0:=w50 e.m;simp only[Mv.c]at k0;simp only[Mv.c,aB,aC,bn,Nat.reduceAdd]at d3 hy d5;rcases kk with⟨V,rfl⟩|⟨V,rfl⟩
 .have X:∀(s:HS),zx 3 false (some .dE) s=.v (.bool true) s:=λ_=>rfl
  by_cases hc:g.r.isNone=true/\zD e.m=b
  .have O:iv x b z g e=⟨g.q,some (z.w++[e.m])⟩:=by unfold iv;rw[au V,au (by simp[hc.1,hc.2])]
   have h8:g.r.isSome=false:=by cases ks:g.r with|none=>rfl|some _=>rw[ks]at hc;simp at hc
   obtain⟨S5,a5,D⟩:=j.put (a:=8) rfl (x:=Z) k4 rfl;obtain⟨S6,a6,hf⟩:=D.put (a:=7) rfl (x:=.bool true) rfl rfl;simp only[bJ,aO]at D hf;simp only[aB,aC,bn,Nat.reduceAdd]at a5 a6;rw[h8]at d3;have d:∃u,ev R U.iG Y N=.code .normal u S6/\look u 1=some (.aw (lK o8 o9 b)):=by generalize A:ev R U.iG Y N=r;simp only[ab,ae]at f;simp[U.iG,f,X,d3,hy,k0,hc.2,a5,a6,an]at A;subst A;exact⟨_,rfl,by simp[f]⟩
   obtain⟨u,d,l1⟩:=d;rw[O];exact⟨u,S6,F,v,c4,_,Z,[],d,l1,by simp,by simpa using hd,kc,by simpa using hf⟩
  have O:iv x b z g e=g:=by unfold iv;rw[au V,ar λh=>hc ?_];simpa using h
  have d:∃u,ev R U.iG Y N=.code .normal u N/\look u 1=some (.aw (lK o8 o9 b)):=by
   generalize A:ev R U.iG Y N=r;simp only[ab,ae]at f;cases h8:g.r.isSome with
   |true=>rw[h8]at d3;simp[U.iG,f,X,d3]at A;subst A;exact⟨_,rfl,by simp[f]⟩
   |false=>
    rw[h8]at d3;have kt:(zD e.m==b)=false:=by cases hb:(zD e.m==b)with|false=>rfl|true=>exact(hc ⟨by simpa using h8,by simpa using hb⟩).elim
    simp[U.iG,f,X,d3,hy,k0,kt,an]at A;subst A;exact⟨_,rfl,by simp[f]⟩
  obtain⟨u,d,l1⟩:=d;rw[O];exact⟨u,N,F,v,c4,_,rx,[],d,l1,by simp,by simpa using hd,ho,by simpa using j⟩
 have X:∀(s:HS),zx 3 false (some (.ptr o7 0)) s=.v (.bool false) s:=λ_=>rfl
 rcases fj hx hz.lp e.m with h1|⟨q,h1,hq⟩
 .exact(V h1).elim
 have k1:=w99 (e.to,q) (by simp only;omega) (by simp only;omega);have h9:=(j.k.bm 1 _ _ rfl).1.1;have T:=Nj (K:=KS) KW KV (j.mp 0 _ _ rfl).1 (e.to,q) (.bool false);rw[Cg]at T;rw[h1]at h9 j;simp only[iV]at k1 h9;simp only[aB,aC,bn,Nat.reduceAdd]at h9;by_cases I:(e.to,q)∈g.q.map Sq.k
 .have O:iv x b z g e=g:=by unfold iv;rw[ar V,h1,gD,au I]
  rw[au I]at T;simp only[gB]at T;have d:∃u,ev R U.iG Y N=.code .normal u N/\look u 1=some (.aw (lK o8 o9 b)):=by generalize A:ev R U.iG Y N=r;simp only[ab,ae,iV]at f;simp[U.iG,f,X,h9,d5,k1,T,an]at A;subst A;exact⟨_,rfl,by simp[f,iV]⟩
  obtain⟨u,d,l1⟩:=d;rw[O,h1];exact⟨u,N,F,v,c4,_,rx,[],d,l1,by simp,by simpa using hd,ho,by simpa using j⟩
 have O:iv x b z g e=⟨g.q++[⟨e.to,q,z.w++[e.m]⟩],g.r⟩:=by unfold iv;rw[ar V,h1,gD,ar I]
 rw[ar I]at T;simp only[Tp]at T;have k2:=Tc (K:=KS) KW KV (j.mp 0 _ _ rfl).1 (e.to,q) (.bool true);have ke:j5 (e.to,q) (HV.bool true) (lE g.q)=lE (g.q++[⟨e.to,q,z.w++[e.m]⟩]):=by unfold j5;rw[Cg,ar I];simp[lE,Sq.k]
 rw[ke]at k2;have D:=j.Ca (b:=0) rfl (.mp (eX uR (lE (g.q++[⟨e.to,q,z.w++[e.m]⟩]))));simp only[aO]at D;generalize kz:HS.aJ N om _=S5 at D k2;have kg:=(D.k.bm 4 _ _ rfl).1.1;have hj:=(D.k.bm 1 _ _ rfl).1.1;obtain⟨v',S6,a6,k6,hf⟩:=D.Td (new:=[D9 (⟨e.to,q,z.w++[e.m]⟩,Z)]) (Sz.cons rfl Sz.nil) (by simp) (bI:=3518437208883) (by simp;omega);obtain⟨S7,a7,ki⟩:=hf.put (a:=4) rfl (x:=v') k6 rfl;simp only[bJ,aO]at ki;simp only[D9,iV,aB,aC,bn,Nat.reduceAdd]at a6 a7 kg hj;have d:∃u,ev R U.iG Y N=.code .normal u S7/\look u 1=some (.aw (lK o8 o9 b)):=by generalize A:ev R U.iG Y N=r;simp only[ab,ae,iV]at f;simp[U.iG,f,X,h9,d5,k1,T,k2,kg,hj,k4,a6,a7,an]at A;subst A;exact⟨_,rfl,by simp[f,iV]⟩
 obtain⟨u,d,l1⟩:=d;rw[O,h1];refine⟨u,S7,_,v',c4,_,rx,[(⟨e.to,q,z.w++[e.m]⟩,Z)],d,l1,by simp,λp hp=>?_,ho,by simpa[D9,iV]using ki⟩;rw[<-List.cons_append]at hp;rcases cp.1 hp with hp|hp
 .exact hd p hp
 rw[cr.1 hp];exact kc
end
def Io(x:Fa)(b:Bool)(z:Sq)(g:Fq)(row:bu){k:Nat}(a:k<row.length):gu x b z g (row.take (k+1))=iv x b z (gu x b z g (row.take k)) row[k]:=by unfold gu;rw[eW a,List.foldl_append];rfl
section
variable{x y:Fa}{b:Bool}{z:Sq}{g:Fq}{E:En}{s:HS}{F:bM}{v w rx:HV}{W:List (Sq×HV)}{ao:aW}{L:cq}{l om oa o2 o3 o4 o5 o6 o8 o9:Ky}
def w98(hx:bA x)(hy:bA y)(ho:pU y)(hz:KO x y z)(hg:Cd x y g)(hs:z.w.length<=100000)
  (hE:bB E [(1,.aw (lK o8 o9 b)),(2,.ptr o2 0),(3,.ptr o3 0),(4,.ptr o4 0),(5,.ptr o5 0),(6,.ptr o6 0)])
  (hW:∀p∈(z,w)::W,Cp L p.2 p.1.w)(k3:W.length<=g.q.length)(hR:oC L rx g.r)
  (hM:dj s 3 F v (((z,w)::W).map D9) ao L [(oa,[iV z.s,iV z.p]),(o6,[v]),(o5,[.mp om]),(o4,[iV 0]),(o3,[.bool g.r.isSome]),(o2,[rx]),(o9,y.c),(o8,x.c)]
   [(om,.mp (eX uR (lE g.q))),(l,.loop 0 none E [33,34] (.seq U.hX U.hY) U.gH)]):
  ∃u j a f d s' h,R (.call 46 [.iK l,.ptr o9 0,.ptr oa 0,.ptr o8 0] s)=.val (.cO []) s'/\(gu x b z g (cM y z.s)).q=g.q++h.map Prod.fst/\(∀p∈(z,w)::(W++h),Cp f p.2 p.1.w)/\oC f d (gu x b z g (cM y z.s)).r/\
   dj s' 3 u j (((z,w)::(W++h)).map D9) a f [(oa,[iV z.s,iV z.p]),(o6,[j]),(o5,[.mp om]),(o4,[iV 0]),(o3,[.bool (gu x b z g (cM y z.s)).r.isSome]),(o2,[d]),(o9,y.c),(o8,x.c)]
   [(om,.mp (eX uR (lE (gu x b z g (cM y z.s)).q))),(l,.loop 0 none E [33,34] (.seq U.hX U.hY) U.gH)]:=by
 obtain⟨row,A⟩:∃row,row=cM y z.s:=⟨_,rfl⟩;have h7:y.nx[z.s]'hz.ls=row:=by rw[A];exact(getD_at hz.ls _).symm
 have k4:row.length<=6000:=by rw[<-h7];exact hy.row hz.ls
 have hd:=hz.ls;have k2:(z.s:Int)<y.nx.length:=by omega
 have d9:=(hM.k.bm 6 _ _ rfl).1.1;have da:=(hM.k.bm 0 _ _ rfl).1.1;simp only[Fa.c,iV,aB,aC,bn,Nat.reduceAdd]at d9 da;rw[<-A];have hq:∃e' u j a f d s' h,ev R U.ZP (bc [.iK l,.ptr o9 0,.ptr oa 0,.ptr o8 0] 0) s=.code .normal e' s'/\(gu x b z g row).q=g.q++h.map Prod.fst/\(∀p∈(z,w)::(W++h),Cp f p.2 p.1.w)/\oC f d (gu x b z g row).r/\
   dj s' 3 u j (((z,w)::(W++h)).map D9) a f [(oa,[iV z.s,iV z.p]),(o6,[j]),(o5,[.mp om]),(o4,[iV 0]),(o3,[.bool (gu x b z g row).r.isSome]),(o2,[d]),(o9,y.c),(o8,x.c)]
   [(om,.mp (eX uR (lE (gu x b z g row).q))),(l,.loop 0 none E [33,34] (.seq U.hX U.hY) U.gH)]:=by
  generalize I:ev R U.ZP (bc [.iK l,.ptr o9 0,.ptr oa 0,.ptr o8 0] 0) s=r;simp[U.ZP,U.N3,d9,da,hd,h7]at I;generalize hf:ev R (.loop U.Df) _ _=o at I;have ht:∃e' u j a f d s' h,o=.code (.exit 0) e' s'/\(gu x b z g row).q=g.q++h.map Prod.fst/\(∀p∈(z,w)::(W++h),Cp f p.2 p.1.w)/\oC f d (gu x b z g row).r/\
    dj s' 3 u j (((z,w)::(W++h)).map D9) a f [(oa,[iV z.s,iV z.p]),(o6,[j]),(o5,[.mp om]),(o4,[iV 0]),(o3,[.bool (gu x b z g row).r.isSome]),(o2,[d]),(o9,y.c),(o8,x.c)]
    [(om,.mp (eX uR (lE (gu x b z g row).q))),(l,.loop 0 none E [33,34] (.seq U.hX U.hY) U.gH)]:=by
   refine eI hf row.length
    (λk e s=>∃(F:bM) (v:HV) (ao:aW) (L:cq) (rx:HV) (Wk:List (Sq×HV)),bB e [(0,.iK l),(1,.ptr o9 0),(2,.ptr oa 0),(3,.ptr o8 0),(14,.psl (row.map Eg.c)),(15,iV row.length),(16,iV k)]/\(gu x b z g (row.take k)).q=g.q++Wk.map Prod.fst/\(∀p∈(z,w)::(W++Wk),Cp L p.2 p.1.w)/\oC L rx (gu x b z g (row.take k)).r/\
     dj s 3 F v (((z,w)::(W++Wk)).map D9) ao L [(oa,[iV z.s,iV z.p]),(o6,[v]),(o5,[.mp om]),(o4,[iV 0]),(o3,[.bool (gu x b z g (row.take k)).r.isSome]),(o2,[rx]),(o9,y.c),(o8,x.c)]
     [(om,.mp (eX uR (lE (gu x b z g (row.take k)).q))),(l,.loop 0 none E [33,34] (.seq U.hX U.hY) U.gH)])
    (λo=>∃e' u j a f d s' h,o=.code (.exit 0) e' s'/\(gu x b z g row).q=g.q++h.map Prod.fst/\(∀p∈(z,w)::(W++h),Cp f p.2 p.1.w)/\oC f d (gu x b z g row).r/\
     dj s' 3 u j (((z,w)::(W++h)).map D9) a f [(oa,[iV z.s,iV z.p]),(o6,[j]),(o5,[.mp om]),(o4,[iV 0]),(o3,[.bool (gu x b z g row).r.isSome]),(o2,[d]),(o9,y.c),(o8,x.c)]
     [(om,.mp (eX uR (lE (gu x b z g row).q))),(l,.loop 0 none E [33,34] (.seq U.hX U.hY) U.gH)])
    0 (by omega) ⟨F,v,ao,L,rx,[],by simp[iV],by simp[gu],by simpa using hW,hR,by simpa[gu]using hM⟩
    (λk e s r hk ⟨F,v,ao,L,rx,Wk,hL,hq,h8,M,N⟩ I=>?_)
    (λe s r ⟨F,v,ao,L,rx,Wk,hL,hq,h8,M,N⟩ I=>?_)
   .have hj:(k:Int)<row.length:=by omega
    have hl:=br hk (by omega);rw[Io x b z g row hk];obtain⟨gk,_⟩:=FZ (b:=b) hx hy ho hz (row.take k) g (λe he=>by rw[<-A];exact j6 he) hg;have hlen:=gk.len;generalize gu x b z g (row.take k)=gg at*;have k5:row[k]∈cM y z.s:=by rw[<-A];exact cb hk
    have k0:row[k].to<y.nx.length:=hy.to _ (cb hd) _ (by rw[h7];exact cb hk);have D:=N.cL (row[k]).c;obtain⟨ox,h9⟩:∃ox,ox=s.nx:=⟨_,rfl⟩;rw[<-h9]at D;have dx:=(D.k.bm 0 _ _ rfl).1.1;have O:=(D.k.bm 1 _ _ rfl).1.1;have T:=(D.k.bm 8 _ _ rfl).1.1;generalize ha:HS.mk _ _ _ _=S1 at D dx O T;have V:=w90 hx hz.lp row[k].m;have J:=D.cL [iV row[k].to,iV (bH x z.p row[k].m)];obtain⟨o7,hb⟩:∃o7,o7=S1.nx:=⟨_,rfl⟩;rw[<-hb]at J;have d7:=(J.k.bm 0 _ _ rfl).1.1;have X:=(J.k.bm 1 _ _ rfl).1.1;generalize Y:HS.mk _ _ _ _=S2 at J d7 X;have hp:(W++Wk).length<=200000:=by have Z:=ch List.length hq;rw[bZ,bz]at Z;rw[bZ];have h2:=FT hy.n hx.n;omega
    have C:=λ(to:HV) (k1:(bH x z.p row[k].m= -1/\to=.dE)∨(bH x z.p row[k].m≠ -1/\to=.ptr o7 0))=>af8 hz gk hy.n hx.n hs k0 hx hE h8 hp M k1 J
    simp only[Fa.c,Eg.c,Mv.c,iV,aB,aC,bn,Nat.reduceAdd]at dx O T ha V Y d7 X;simp only[ab,ae]at hL;by_cases h6:bH x z.p row[k].m= -1
    .obtain⟨u,j,a,f,d,s',h,Z,h2,h3,h4,h5⟩:=C .dE (.inl ⟨h6,rfl⟩);rw[h6]at V Y d7;simp only[Mv.c]at Z;simp[U.Df,U.Jl,hL,hk,hj,<-h9,<-hb,ha,dx,O,T,V,Y,d7,X,Z,hl,aq,aA,an]at I;subst I;exact .inl ⟨_,_,rfl,u,j,a,f,d,Wk++h,by simp[hL,iV],by rw[h2,hq];simp,by rw[<-List.append_assoc];exact h3,h4,by rw[<-List.append_assoc];exact h5.tail 2⟩
    obtain⟨u,j,a,f,d,s',h,Z,h2,h3,h4,h5⟩:=C (.ptr o7 0) (.inr ⟨h6,rfl⟩);simp only[Mv.c]at Z;simp[U.Df,U.Jl,hL,hk,hj,<-h9,<-hb,ha,dx,O,T,V,Y,d7,X,h6,Z,hl,aq,aA,an]at I;subst I;exact .inl ⟨_,_,rfl,u,j,a,f,d,Wk++h,by simp[hL,iV],by rw[h2,hq];simp,by rw[<-List.append_assoc];exact h3,h4,by rw[<-List.append_assoc];exact h5.tail 2⟩
   rw[fD (aV _)]at hq M N;simp only[ab,ae]at hL;simp[U.Df,hL]at I;subst I;exact⟨by simp,_,F,v,ao,L,rx,s,Wk,rfl,hq,h8,M,N⟩
  clear hf;obtain⟨e',u,j,a,f,d,s',h,rfl,h2,h3,h4,h5⟩:=ht;simp at I;subst I;exact⟨_,u,j,a,f,d,s',h,rfl,h2,h3,h4,h5⟩
 obtain⟨e',u,j,a,f,d,s',h,Z,h2⟩:=hq;exact⟨u,j,a,f,d,s',h,n98 rfl ⟨.normal,_,s',Z,.inl rfl,by simp⟩,h2⟩
end
section
variable{s:HS}{K:de}{Q:List (Ky×List (HV×HV))}
def iJ.toX(h:iJ s K Q){sz:Nat}{t:aP}(u:Sz sz t):dj {h:=av (some (.cells (cP (aD t)) 0 (aD t).length s.nx)) s.nx s.h,nx:=s.nx.succ,gr:=av (some [s.nx]) s.nx s.gr,ty:=s.ty} sz (λk=>k=s.nx) (.sl s.nx 0 t.length sz) t (λ_=>none) [] K (Q.map λp=>(p.1,.mp p.2)):=by
 have C:=Ky.aS s.nx;have D:=cV.alloc (s:=s) (.cells (cP (aD t)) 0 (aD t).length s.nx) [s.nx];have A:=h.frame D;have key:∀(a:Nat) o b,(Q.map λp=>(p.1,Ob.mp p.2))[a]?=some (o,b)->∃f,Q[a]?=some (o,f)/\b=.mp f:=by intro a o b q;rw[fV,lR]at q;obtain⟨⟨M,f⟩,j,m⟩:=q;cases m;exact⟨f,j,rfl⟩
 refine⟨A.k,?_,λ_ _=>rfl,λa o c n e=>?_,λa o b n=>?_,λa b o c c' n q=>?_,λa b o c d n q=>?_⟩
 .refine cu.toO ⟨u,λk I=>by subst I;simp only;omega,.inr ⟨s.nx,cP (aD t),(aD t).length,s.nx,[],rfl,?_,by rw[ct u];exact aV _,by simp,?_,by simp,by simp,rfl⟩⟩ (by simp)
  .simp only;rw[af,au rfl]
  simp only;rw[af,au rfl]
 .have:=(h.k.bm a o c n).1.2.2;rw[e]at this;exact ec _ this
 .obtain⟨f,j,rfl⟩:=key a o b n;obtain⟨m,J⟩:=A.mp a o f j;refine⟨m,J,rfl,λe=>?_⟩;have:=(h.mp a o f j).2;rw[e]at this;exact ec _ this
 .obtain⟨f,j,_⟩:=key a o c n;obtain⟨r,m,_⟩:=key b o c' q;exact h.nd a b o f r j m
 obtain⟨f,j,_⟩:=key b o d q;have m:=(h.k.bm a o c n).1.1;rw[(h.mp b o f j).1]at m;cases m
end
def Ch(x y:Fa)(b:Bool):∀(i:Nat),∀z∈(di x y b i).q,z.w.length<=i
 |0,z,a=>by simp[di]at a;subst a;simp
 |i+1,z,a=>by
  rw[di]at a;cases f:(di x y b i).q[i]?with
  |none=>rw[f]at a;have:=Ch x y b i z a;omega
  |some c=>
   rw[f]at a;simp only at a;have j:=Ch x y b i c (cE f);have key:∀(d:bu) (g:Fq),(∀z∈g.q,z.w.length<=i+1)->∀z∈(gu x b c g d).q,z.w.length<=i+1:=by
    intro d
    induction d with
    |nil=>intro g h;exact h
    |cons e d m=>
     intro g h;refine m (iv x b c g e) λz a=>?_
     unfold iv at a
     split at a
     .split at a<;>exact h z a
     split at a
     .exact h z a
     rcases cp.1 a with a|a
     .exact h z a
     rw[cr.1 a];simp;omega
   exact key _ _ (λz a=>by have:=Ch x y b i z a;omega) z a
section
variable{x y:Fa}{b:Bool}{om o2 o3 o4 o5 o8 o9:Ky}
def Zi(hx:bA x)(hy:bA y)(ho:pU y){N:Nat}(hN:y.nx.length*x.nx.length<=N)(kl:N<=100000){e:En}{s:HS}{o:Out}{F:bM}{v:HV}{ao:aW}{o6:Ky}
  (C:bB e [(1,.aw (lK o8 o9 b)),(2,.ptr o2 0),(3,.ptr o3 0),(4,.ptr o4 0),(5,.ptr o5 0),(6,.ptr o6 0)])
  (A:dj s 3 F v ([((⟨0,0,[]⟩:Sq),HV.ah)].map D9) ao [] [(o6,[v]),(o5,[.mp om]),(o4,[iV 0]),(o3,[.bool false]),(o2,[.ah]),(o9,y.c),(o8,x.c)] [(om,.mp (eX uR (lE [⟨0,0,[]⟩])))])
  (k5:ev R (.loop U.py) e s=o):
  ∃e' F' T f V n s' j W',o=.code (.exit 0) e' s'/\bB e' [(2,.ptr o2 0),(3,.ptr o3 0),(4,.ptr o4 0)]/\oC V n (di x y b N).r/\
   dj s' 3 F' T W' f V [(j,[T]),(o5,[.mp om]),(o4,[iV 0]),(o3,[.bool (di x y b N).r.isSome]),(o2,[n]),(o9,y.c),(o8,x.c)] [(om,.mp (eX uR (lE (di x y b N).q)))]:=by
 have I:∀(i:Nat) (e:En) (s:HS) (F:bM) (v:HV) (ao:aW) (L:cq) (rx:HV) (o6:Ky),(di x y b i).q.drop i=[]->i<=N->bB e [(1,.aw (lK o8 o9 b)),(2,.ptr o2 0),(3,.ptr o3 0),(4,.ptr o4 0),(5,.ptr o5 0),(6,.ptr o6 0)]->oC L rx (di x y b i).r->
   dj s 3 F v [] ao L [(o6,[v]),(o5,[.mp om]),(o4,[iV 0]),(o3,[.bool (di x y b i).r.isSome]),(o2,[rx]),(o9,y.c),(o8,x.c)] [(om,.mp (eX uR (lE (di x y b i).q)))]->
   ∃e',ev R U.py e s=.code (.exit 0) e' s/\bB e' [(2,.ptr o2 0),(3,.ptr o3 0),(4,.ptr o4 0)]/\oC L rx (di x y b N).r/\
    dj s 3 F v [] ao L [(o6,[v]),(o5,[.mp om]),(o4,[iV 0]),(o3,[.bool (di x y b N).r.isSome]),(o2,[rx]),(o9,y.c),(o8,x.c)] [(om,.mp (eX uR (lE (di x y b N).q)))]:=by
  intro i e s F v ao L rx o6 hd hi C hR A;have k8:∀d,di x y b (i+d)=di x y b i:=by
   intro d
   induction d with
   |zero=>rfl
   |succ d ih=>
    rw[show i+(d+1)=(i+d)+1 by omega,di,ih];have:(di x y b i).q[i+d]?=none:=by have:=Tq.1 hd;exact qz (by omega)
    rw[this]
  have hb:=k8 (N-i);rw[show i+(N-i)=N by omega]at hb;rw[hb];have hl:=A.q.len (s1:=s);have d6:=(A.k.bm 0 _ _ rfl).1.1;generalize m:ev R U.py e s=r;simp only[aB,aC,bn,Nat.reduceAdd]at d6 hl;simp only[ab,ae]at C;simp[U.py,C,d6,hl]at m;subst m;exact⟨_,rfl,by simp[C],hR,A⟩
 refine eI k5 N
  (λi e s=>∃(F:bM) (v:HV) (ao:aW) (L:cq) (rx:HV) (o6:Ky) (W:List (Sq×HV)),bB e [(1,.aw (lK o8 o9 b)),(2,.ptr o2 0),(3,.ptr o3 0),(4,.ptr o4 0),(5,.ptr o5 0),(6,.ptr o6 0)]/\W.map Prod.fst=(di x y b i).q.drop i/\(∀p∈W,Cp L p.2 p.1.w)/\oC L rx (di x y b i).r/\
   dj s 3 F v (W.map D9) ao L [(o6,[v]),(o5,[.mp om]),(o4,[iV 0]),(o3,[.bool (di x y b i).r.isSome]),(o2,[rx]),(o9,y.c),(o8,x.c)] [(om,.mp (eX uR (lE (di x y b i).q)))])
  (λo=>∃e' F' T f V n s' j W',o=.code (.exit 0) e' s'/\bB e' [(2,.ptr o2 0),(3,.ptr o3 0),(4,.ptr o4 0)]/\oC V n (di x y b N).r/\
   dj s' 3 F' T W' f V [(j,[T]),(o5,[.mp om]),(o4,[iV 0]),(o3,[.bool (di x y b N).r.isSome]),(o2,[n]),(o9,y.c),(o8,x.c)] [(om,.mp (eX uR (lE (di x y b N).q)))])
  0 (by omega) ⟨F,v,ao,[],.ah,o6,[(⟨0,0,[]⟩,.ah)],C,rfl,λp hp=>by rw[cr.1 hp];exact .inl ⟨rfl,rfl⟩,rfl,A⟩
  (λi e s r hi ⟨F,v,ao,L,rx,o6,W,C,hW,hH,hR,A⟩ m=>?_)
  (λe s r ⟨F,v,ao,L,rx,o6,W,C,hW,hH,hR,A⟩ m=>?_)
 .cases W with|nil=>obtain⟨e',X,h2,h3,h4⟩:=I i e s F v ao L rx o6 hW.symm (by omega) C hR A;rw[m]at X;exact .inr ⟨by rw[X];simp,e',F,v,ao,L,rx,s,o6,[],X,h2,h3,h4⟩|cons zw W=>
   obtain⟨z,w⟩:=zw;have hf:=Ce (b:=b) hx hy ho i;have Y:(di x y b i).q[i]?=some z:=by have:=ch (λl:List Sq=>l[0]?) hW;simp only[bX,List.getElem?_cons_zero,kX,Nat.add_zero]at this;exact this.symm
   have gP:W.map Prod.fst=(di x y b i).q.drop (i+1):=by have:=ch List.tail hW;rw[bX,List.tail_cons,List.tail_drop]at this;exact this
   have hg:=cE Y;have hz:=hf.ok.ok z hg;have Z:di x y b (i+1)=gu x b z (di x y b i) (cM y z.s):=by rw[di,Y]
   have km:=Ch x y b i z hg;have k9:W.length<=(di x y b i).q.length:=by have:=ch List.length gP;rw[bz,Ej]at this;omega
   have hl:=A.q.len (s1:=s);have d6:=(A.k.bm 0 _ _ rfl).1.1;obtain⟨oq,kn,ka,_,hj,_⟩:=kK.Ou (a:=iV z.s) (b:=iV z.p) (c:=w) A.q;obtain⟨s1,oa,h5,hk⟩:=w97 A (z.s,z.p) o8 o9;simp only at h5 hk;simp only[aB,aC,bn,Nat.reduceAdd]at d6 hl;have q4:∃e1,ev R (.seq U.EU (.cond (.t 23) .skip (.exit 0))) e s=.code .normal e1 s/\bB e1 [(1,.aw (lK o8 o9 b)),(2,.ptr o2 0),(3,.ptr o3 0),(4,.ptr o4 0),(5,.ptr o5 0),(6,.ptr o6 0)]:=by
    generalize m:ev R (.seq U.EU (.cond (.t 23) .skip (.exit 0))) e s=r;simp only[ab,ae]at C;simp only[bX,aB,bz]at hl;have hq:(0:Int)<(W.length:Int)+1:=by omega
    simp[C,d6,hl,hq]at m;subst m;exact⟨_,rfl,by simp[C]⟩
   obtain⟨e1,q4,h6⟩:=q4;have q5:∃D,ev R U.EV e1 s=.code .normal D s1/\bB D [(1,.aw (lK o8 o9 b)),(2,.ptr o2 0),(3,.ptr o3 0),(4,.ptr o4 0),(5,.ptr o5 0),(6,.ptr o6 0)]/\look D 32=some (.fn 46 [] [.ptr o9 0,.ptr oa 0,.ptr o8 0]):=by generalize m:ev R U.EV e1 s=r;simp only[ab,ae]at h6;simp only[iV]at h5 hj;simp[h6,d6,ka,hj,h5]at m;subst m;exact⟨_,rfl,by simp[h6,iV],by simp⟩
   obtain⟨D,q5,J,kb⟩:=q5;have kc:=hk.af5 (.loop 0 none D [33,34] (.seq U.hX U.hY) U.gH);obtain⟨F',T,f,V,n,s3,W',kd,hs,ke,ht,h7⟩:=w98 (l:=s1.nx) (E:=D) hx hy ho hz hf.ok (by omega) J hH k9 hR kc;have k0:=(vR (L:=LU) (prog:=U.prog) (x:=.t 32) (s:=s1) (e:=D) (ps:=[33,34]) (gV:=.seq U.hX U.hY) (body:=U.gH) (e':=D) (UI:=[33,34]) (H4:=.seq U.hX U.hY) (Am:=U.gH) (by rw[CB];exact kb) kd).1 (h7.mp 1 _ _ rfl).1;rw[<-Z]at hs ht h7;have M:=dj.kill (Q:=[(om,.mp (eX uR (lE (di x y b (i+1)).q)))]) h7;generalize s3.kill s1.nx=S4 at k0 M;have k1:=(M.k.bm 1 _ _ rfl).1.1;have O:=M.cL [T];have k6:=M.q.one;obtain⟨j,k2⟩:∃j,j=S4.nx:=⟨_,rfl⟩;rw[<-k2]at O;have h8:=(O.k.bm 0 _ _ rfl).1.1;generalize k3:HS.mk _ _ _ _=S5 at O h8;obtain⟨v2,a7,k7,kg⟩:=O.KB (e:=D);have a7:zy (some T) (λ_=>some 1) (λd=>some d) none 3 S5=.v v2 S5:=a7;obtain⟨S7,a8,k4⟩:=kg.put (a:=0) rfl (x:=v2) k7 rfl;simp only[aO]at k4;simp only[aB,aC,bn,Nat.reduceAdd]at k1 h8 k3 a8;have h9:∃e3,ev R (.seq (.seq U.Bf U.Bg) U.Bh) D S4=.code .normal e3 S7/\bB e3 [(1,.aw (lK o8 o9 b)),(2,.ptr o2 0),(3,.ptr o3 0),(4,.ptr o4 0),(5,.ptr o5 0),(6,.ptr j 0)]:=by generalize m:ev R (.seq (.seq U.Bf U.Bg) U.Bh) D S4=r;simp only[ab,ae]at J;simp[J,k1,<-k2,k6,k3,h8,a7,a8,aq,aA,an]at m;subst m;exact⟨_,rfl,by simp[J]⟩
   obtain⟨e3,h9,ki⟩:=h9;have u:ev R U.py e s=.code .normal e3 S7:=by
    unfold U.py;rw[oA q4];have kj:ev R U.EX e1 s=.code .normal D S4:=by unfold U.EX;rw[lu,oA q5];unfold U.Jm;rw[lu,WE,k0];rfl
    rw[oA kj];exact h9
   rw[m]at u;refine .inl ⟨e3,S7,u,F',v2,f,V,n,j,W++W',ki,?_,λp hp=>ke p (cY _ hp),ht,?_⟩
   .rw[eU,gP,hs,RQ];have:=(aU.1 Y).1;omega
   exact k4.sub (λa=>if a=0 then 0 else a+2) (λa r ha=>by
    cases a with
    |zero=>exact ha
    |succ a=>rw[ar (by omega)];exact ha) (λa b h=>by split at h<;>split at h<;>omega)
 have hlen:=(Ce (b:=b) hx hy ho N).ok.len;have hd:(di x y b N).q.drop N=[]:=Tq.2 (by omega);rw[hd]at hW;have kk:W=[]:=by simpa using hW
 subst kk;obtain⟨e',X,h2,h3,h4⟩:=I N e s F v ao L rx o6 hd (aV _) C hR A;rw[m]at X;exact⟨by rw[X];simp,e',F,v,ao,L,rx,s,o6,[],X,h2,h3,h4⟩
end
abbrev KP:Kd:=⟨true,[0,0]⟩
def uj(k:Nat×Nat):ai:=[iV k.1,iV k.2]
def NI(k:Nat×Nat):HV:=.agg (uj k)
def Ov(p:Nat×Nat):pX KP (NI p)=true:=rfl
def Ow(a b:Nat×Nat):pW KP (NI a) (NI b)=some (decide (a=b)):=by
 unfold NI uj;rw[qj _ _ _ rfl rfl,dy _ _ _ _ _ _ (eA ..) (dy _ _ _ _ _ _ (eA ..) qi)];obtain⟨d,f⟩:=a;obtain⟨h,j⟩:=b;have m:decide ((d:Int)=h)=decide (d=h):=by rw[KX];omega
 have n:decide ((f:Int)=j)=decide (f=j):=by rw[KX];omega
 simp[yn,m,n]
def Ci(m:List (Nat×Nat)):List ((Nat×Nat)×HV):=m.map λk=>(k,.bool true)
def zc(k:Nat×Nat):∀m:List (Nat×Nat),lkp k (Ci m)=if k∈m then some (.bool true)else none
 |[]=>by simp[Ci,lkp]
 |z::q=>by have a:=zc k q;show(if k=z then some (HV.bool true)else lkp k (Ci q))=_;rw[a];by_cases h:k=z<;>simp[h]
def cS.af9{s:HS}{ao:aW}{L:cq}{K:de}{o:Ky}{es:List (HV×HV)}(h:cS s ao L K o es){a:Nat}{p:Ky}{c new:ai}(d:K[a]?=some (p,c)){x:HV}(j:cellsOf x=some new)(m:new.length=c.length):∃s',qh c.length (some (.ptr p 0)) (some x) s=.v .undef s'/\cS s' ao L (K.set a (p,new)) o es:=by obtain⟨s',n,q,f,r⟩:=(h.k.bm a p c d).1.put j m;exact⟨s',n,h.k.cell d q f,by rw[f.2.2.1 o h.lt (h.ne d)];exact h.mp,by rw[r];exact h.lt,h.co⟩
def cS.cut{s:HS}{ao:aW}{L:cq}{K:de}{o:Ky}{es:List (HV×HV)}(h:cS s ao L K o es)(i:Nat){v:HV}{sz:Nat}{ak:aP}(d:L[i]?=some (v,sz,ak))(n:Nat)(f:n<=ak.length)(h0:ak≠ []):∃a,v=.sl a 0 ak.length sz/\cS s ao (L.set i (.sl a 0 n sz,sz,ak.take n)) K o es:=by obtain⟨a,j,m⟩:=h.k.cut i d n f h0;exact⟨a,j,m,h.mp,h.lt,h.co⟩
section
variable{x y:Fa}{e:En}{s:HS}{o:Out}{om o7 o8 o11:Ky}
def Ts(hx:bA x)(hy:bA y){k:Nat×Nat}(h1:k.1<y.nx.length)(h2:k.2<x.nx.length){t:List (Nat×Nat)}(ht:t.length<=10000000){row:bu}(h7:row.length<=6000){ao:aW}{v:HV}{es:List (HV×HV)}
  (C:bB e [(7,.ptr o7 0),(8,.ptr o8 0),(9,.mp om),(10,v),(11,.ptr o11 0),(72,.psl (row.map Eg.c)),(73,iV row.length),(74,iV 0)])
  (V:cS s ao [(v,2,t.map uj)] [(o11,uj k),(o8,x.c),(o7,y.c)] om es)(ho:bO R (.loop U.qf) e s=o):
  ((∃e∈row,bH x k.2 e.m= -1)/\∃e' s',o=.code .ret e' s'/\look e' 4=some (.bool false)/\look e' 5=some (iV 0))∨
  ((∀e∈row,bH x k.2 e.m≠ -1)/\∃e' s' f v',o=.code (.exit 2) e' s'/\bB e' [(7,.ptr o7 0),(8,.ptr o8 0),(9,.mp om),(10,v')]/\cS s' f [(v',2,(t++row.map λe=>(e.to,(bH x k.2 e.m).toNat)).map uj)] [(o11,uj k),(o8,x.c),(o7,y.c)] om es):=by
 refine bh ho row.length
  (λi e s=>∃(ao:aW) (v:HV),(∀e∈row.take i,bH x k.2 e.m≠ -1)/\bB e [(7,.ptr o7 0),(8,.ptr o8 0),(9,.mp om),(10,v),(11,.ptr o11 0),(72,.psl (row.map Eg.c)),(73,iV row.length),(74,iV i)]/\
   cS s ao [(v,2,(t++(row.take i).map λe=>(e.to,(bH x k.2 e.m).toNat)).map uj)] [(o11,uj k),(o8,x.c),(o7,y.c)] om es)
  (λo=>((∃e∈row,bH x k.2 e.m= -1)/\∃e' s',o=.code .ret e' s'/\look e' 4=some (.bool false)/\look e' 5=some (iV 0))∨
   ((∀e∈row,bH x k.2 e.m≠ -1)/\∃e' s' f v',o=.code (.exit 2) e' s'/\bB e' [(7,.ptr o7 0),(8,.ptr o8 0),(9,.mp om),(10,v')]/\cS s' f [(v',2,(t++row.map λe=>(e.to,(bH x k.2 e.m).toNat)).map uj)] [(o11,uj k),(o8,x.c),(o7,y.c)] om es))
  0 (by omega) ⟨ao,v,by simp,C,by simpa using V⟩
  (λi e s r X ⟨ao,v,hn,C,V⟩ M=>?_) (λe s r ⟨ao,v,hn,C,V⟩ M=>?_)
 .have h3:(i:Int)<row.length:=by omega
  have h5:=br X (by omega);have h:=V.cL (row[i]).c;have D:=(h.k.bm 0 _ _ rfl).1.1;have I:=(h.k.bm 1 _ _ rfl).1.1;have d8:=(h.k.bm 2 _ _ rfl).1.1;generalize N:HS.mk _ _ _ _=S1 at h D I d8;have j:=w90 hx h2 row[i].m;have n:=h.cL [iV 0,iV 0];have J:=(n.k.bm 1 _ _ rfl).1.1;generalize p:HS.mk _ _ _ _=h8 at n J;obtain⟨S2,Y,O⟩:=n.af9 (a:=0) rfl (x:=.agg [iV row[i].to,iV (bH x k.2 row[i].m)]) (new:=[iV row[i].to,iV (bH x k.2 row[i].m)]) rfl rfl;have u:=fZ (l:=[iV row[i].to,iV (bH x k.2 row[i].m)]) Y rfl rfl;simp only[aO]at O;have A:=(O.k.bm 0 _ _ rfl).1.1;obtain⟨v2,S3,c3,a3,k3,T⟩:=O.append 0 rfl (new:=[[iV row[i].to,iV (bH x k.2 row[i].m)]]) (Sz.cons rfl Sz.nil) (by simp) (bI:=8796093022208) (by simp;omega);simp only[aO]at T;simp only[Fa.c,Eg.c,Mv.c,uj,iV,aB,aC,bn,Nat.reduceAdd]at D I d8 N j Y u A J p a3;simp only[ab,ae]at C;rcases fj hx h2 row[i].m with d|⟨q,d,hq⟩
  .rw[d]at j Y u A;simp[U.qf,C,X,h3,N,D,I,d8,j,p,J,Y,u,A,aq,aA,an]at M;subst M;exact .inr ⟨by simp,.inl ⟨⟨row[i],cb X,d⟩,_,_,rfl,by simp,by simp[iV]⟩⟩
  have h4:¬(q:Int)= -1:=by omega
  rw[d]at j Y u A a3 T;simp[U.qf,C,X,h3,N,D,I,d8,j,p,J,Y,u,A,h4,a3,h5,aq,aA,an]at M;subst M;refine .inl ⟨_,_,rfl,c3,v2,λe Z=>?_,by simp[C,iV],?_⟩
  .rw[eW X]at Z;rcases cp.1 Z with Z|Z
   .exact hn e Z
   rw[cr.1 Z,d];exact h4
  have:=T.tail.tail;have h6:(t++(row.take (i+1)).map λe=>(e.to,(bH x k.2 e.m).toNat)).map uj=(t++(row.take i).map λe=>(e.to,(bH x k.2 e.m).toNat)).map uj++[[iV row[i].to,iV q]]:=by rw[eW X];simp only[eU,bX,lO,uj,d,gD,yt]
  rw[h6];exact this
 rw[fD (aV _)]at hn V;simp only[ab,ae]at C;simp[U.qf,C]at M;subst M;exact⟨by simp,.inr ⟨hn,_,_,ao,v,rfl,by simp[C],V⟩⟩
end
section
variable{x y:Fa}{b:Bool}{o8 o9:Ky}
def aga(hx:bA x)(hy:bA y)(ho:pU y){N:Nat}(hN:y.nx.length*x.nx.length<=N)(hd:N<=100000){s:HS}(hV:iJ s [(o9,y.c),(o8,x.c)] []):
  ∃F v ak ao L rx s' K Q,R (.call 49 [.agg (lK o8 o9 b)] s)=.val (.cO [rx,.bool (di x y b N).r.isSome,iV 0]) s'/\oC L rx (di x y b N).r/\dj s' 3 F v ak ao L K Q:=by
 have M1:=hV.cL [.ah];obtain⟨o2,D⟩:∃o,o=s.nx:=⟨_,rfl⟩;rw[<-D]at M1;generalize I:HS.mk _ _ _ _=s1 at M1;have M2:=M1.cL [.bool false];obtain⟨o3,J⟩:∃o,o=s1.nx:=⟨_,rfl⟩;rw[<-J]at M2;generalize M:HS.mk _ _ _ _=s2 at M2;have M3:=M2.cL [iV 0];obtain⟨o4,O⟩:∃o,o=s2.nx:=⟨_,rfl⟩;rw[<-O]at M3;generalize T:HS.mk _ _ _ _=s3 at M3;simp only[iV,aB,aC,bn]at I M T;have q0:∃V,ev R U.ES (bc [.agg (lK o8 o9 b)] 0) s=.code .normal V s3/\bB V [(1,.aw (lK o8 o9 b)),(2,.ptr o2 0),(3,.ptr o3 0),(4,.ptr o4 0)]:=by generalize d:ev R U.ES (bc [.agg (lK o8 o9 b)] 0) s=r;simp[<-D,I,<-J,M,<-O,T]at d;subst d;exact⟨_,rfl,by simp⟩
 obtain⟨V,q0,L0⟩:=q0;have M4:=M3.NA [];obtain⟨om,X⟩:∃o,o=s3.nx:=⟨_,rfl⟩;rw[<-X]at M4;have u4:=Tc (K:=KS) (f:=uR) (l:=[]) KW KV (M4.mp 0 _ _ rfl).1 (0,0) (.bool true);generalize hf:HS.mk _ _ _ _=s4 at M4 u4;have M5:=M4.KJ (eX uR (j5 (0,0) (.bool true) []));generalize hj:HS.aJ _ _ _=s5 at M5 u4;have M6:=M5.cL [.mp om];obtain⟨o5,Y⟩:∃o,o=s5.nx:=⟨_,rfl⟩;rw[<-Y]at M6;generalize Z:HS.mk _ _ _ _=q at M6;have n:=w99 (0,0) (by simp) (by simp);simp only[iV,aB,aC,bn]at Z n;have n:∀s,R (.call 47 [.agg [.int .i64 0,.int .i64 0]] s)=.val (uR (0,0)) s:=n;have q1:∃e1,ev R U.ET V s3=.code .normal e1 q/\bB e1 [(1,.aw (lK o8 o9 b)),(2,.ptr o2 0),(3,.ptr o3 0),(4,.ptr o4 0),(5,.ptr o5 0)]:=by generalize d:ev R U.ET V s3=r;simp only[ab,ae,iV]at L0;simp[L0,<-X,hf,n,u4,<-Y,Z,aq,aA]at d;subst d;exact⟨_,rfl,by simp[L0,iV]⟩
 obtain⟨e1,q1,L1⟩:=q1;have M7:=M6.toX (sz:=3) (t:=[D9 (⟨0,0,[]⟩,.ah)]) (Sz.cons rfl Sz.nil);simp only[cj,gS,qE,bX,lO]at M7;obtain⟨C,h1⟩:∃o,o=q.nx:=⟨_,rfl⟩;rw[<-h1]at M7;generalize h2:HS.mk _ _ _ _=s7 at M7;have M8:=M7.cL [.sl C 0 1 3];obtain⟨o6,h3⟩:∃o,o=s7.nx:=⟨_,rfl⟩;rw[<-h3]at M8;generalize h4:HS.mk _ _ _ _=s8 at M8;simp only[D9,iV,aB,aC,bn,Nat.reduceAdd]at h2 h4;have q2:∃e2,ev R U.Bd e1 q=.code .normal e2 s8/\bB e2 [(1,.aw (lK o8 o9 b)),(2,.ptr o2 0),(3,.ptr o3 0),(4,.ptr o4 0),(5,.ptr o5 0),(6,.ptr o6 0)]:=by generalize d:ev R U.Bd e1 q=r;simp only[ab,ae,iV]at L1;have h5:HS.mk (av (some (.cells (cP [iV 0,iV 0,HV.ah]) 0 3 C)) C q.h) C.succ (av (some [C]) C q.gr) q.ty=s7:=h2;simp[L1,<-h1,h5,<-h3,h4,aq,aA]at d;subst d;exact⟨_,rfl,by simp[L1,iV]⟩
 obtain⟨e2,q2,L2⟩:=q2;generalize h6:ev R (.loop U.py) e2 s8=o;obtain⟨e3,F,v,ao,L,j,s9,hl,W',rfl,L3,hR,M9⟩:=Zi (b:=b) hx hy ho hN hd L2 M8 h6;have hg:cellsOf j=some [j]:=by
  cases d:(di x y b N).r with
  |none=>rw[d]at hR;rw[show j=.ah from hR];rfl
  |some w=>
   rw[d]at hR;rcases hR with⟨h,_⟩|⟨i,h⟩
   .rw[h];rfl
   exact(M9.k.mem.own i _ _ _ h).one
 have c2:=(M9.k.bm 4 _ _ rfl).1.1;have c3:=(M9.k.bm 3 _ _ rfl).1.1;obtain⟨hp,h7,u⟩:=M9.put (a:=4) rfl (x:=j) hg rfl;have h8:=(u.k.bm 3 _ _ rfl).1.1;obtain⟨hq,h9,ha⟩:=u.put (a:=3) rfl (x:=.bool (di x y b N).r.isSome) rfl rfl;obtain⟨p,hb,m⟩:=ha.put (a:=2) rfl (x:=iV 0) rfl rfl;simp only[bJ,aO]at u ha m;have f2:=(m.k.bm 4 _ _ rfl).1.1;have f3:=(m.k.bm 3 _ _ rfl).1.1;have f4:=(m.k.bm 2 _ _ rfl).1.1;simp only[iV,aB,aC,bn]at c2 c3 h8 h7 h9 hb f2 f3 f4;have A:∃e4,ev R U.Bi e3 s9=.code .normal e4 p/\bB e4 [(2,.ptr o2 0),(3,.ptr o3 0),(4,.ptr o4 0)]:=by generalize d:ev R U.Bi e3 s9=r;simp only[ab,ae]at L3;simp[L3,c2,c3,h8,h7,h9,hb]at d;subst d;exact⟨_,rfl,by simp[L3]⟩
 obtain⟨e4,A,L4⟩:=A;have hE:ev R U.PQ (bc [.agg (lK o8 o9 b)] 0) s=.code .ret e4 p:=by
  unfold U.PQ;rw[oA q0,oA q1];have hk:ev R (.seq U.Bd U.EY) e1 q=.code .normal e3 s9:=by rw[oA q2];unfold U.EY;rw[lu,h6];rfl
  rw[oA hk,oA A];rfl
 simp only[ab,ae]at L4;exact⟨F,v,W',ao,L,j,p,_,_,acT rfl ⟨.ret,e4,p,hE,.inr rfl,by simp[L4,f2,f3,f4,iV]⟩,hR,m⟩
end
def oD(x y:Fa)(b:Bool):Option bE:=(di x y b (y.nx.length*x.nx.length)).r
def w71{ax ay:Ar}{x y:Fa}(O:bA x)(T:bA y)(V:pU y)(X:y.nx.length*x.nx.length<=100000)(b:Bool)(s:HS):
  R (.call 23 [.agg (ib ax x),.agg (ib ay y),.bool b] s)=.val (.cO [.psl (((oD x y b).getD []).map Mv.c),.bool (oD x y b).isSome]) s:=by
 refine q71 ?_;obtain⟨A,j,C⟩:∃A,({h:=av (some (.cells (cP [.ah,.ah]) 0 2 s0.nx.succ)) s0.nx.succ (av (some (.cells (cP [.ah,.ah]) 0 2 s0.nx)) s0.nx s0.h),nx:=s0.nx.succ.succ,gr:=av (some [s0.nx.succ]) s0.nx.succ (av (some [s0.nx]) s0.nx s0.gr),ty:=s0.ty}:HS)=A/\iJ A [(s0.nx.succ,[.ah,.ah]),(s0.nx,[.ah,.ah])] []:=
  ⟨_,rfl,((iJ.start s0).cL [.ah,.ah]).cL [.ah,.ah]⟩
 obtain⟨S3,D,m⟩:=C.put (a:=1) rfl (x:=.agg x.c) (new:=x.c) rfl rfl;have f:=fZ (l:=x.c) D rfl rfl;simp only[aO,bJ]at m;obtain⟨S4,I,p⟩:=m.put (a:=0) rfl (x:=.agg y.c) (new:=y.c) rfl rfl;have q:=fZ (l:=y.c) I rfl rfl;simp only[aO,bJ]at p;obtain⟨F,v,ak,ao,L,J,s',K,Q,d,u,Y⟩:=aga (b:=b) O T V (aV _) X p;simp only[iV]at d;simp only[Fa.c,aB,aC,bn,Nat.reduceAdd]at D f I q;have M:=ch HS.h j;simp only at M;rw[<-M]at f;simp[U.b71,j,D,f,I,q,d];unfold oD;cases N:(di x y b (y.nx.length*x.nx.length)).r with
 |none=>rw[N]at u;rw[show J=.ah from u];exact aY (.cO (.cons .ah (.data (by simp))))
 |some w=>
  rw[N]at u;rcases u with⟨h,Z⟩|⟨i,h⟩
  .rw[h,Z];exact aY (.cO (.cons .ah (.data (by simp))))
  exact aY (.cO (.cons ((Y.k.mem.own i _ _ _ h).vw (n:=13) (cD (λx=>by simp) _)) (.data (by simp))))
def w70{a:Ar}{x y:Fa}(ok:fz a)(O:∀s,R (.call 43 [.agg (ib a x)] s)=.val (iV 0) s)(T:∀s,R (.call 43 [.agg (ib a y)] s)=.val (iV 0) s)(s:HS):R (.call 22 [.agg (ib a x),.agg (ib a y)] s)=.val (iV 0) s:=by
 refine q70 ?_;have m:=w85 a a ok;rw[dq rfl]at m;have I:aI s0 (λ_=>none) [] []:=⟨dV.start (by simp),by simp,by simp⟩;obtain⟨c1,n⟩:=I.DI (sz:=6) (t:=[ib a x,ib a y]) (Sz.cons rfl (Sz.cons rfl Sz.nil));generalize A:HS.mk _ _ _ _=S1 at n;simp only[ib,cj,gS,qE,bq,bo,aB,aC,bn,Nat.reduceAdd]at A n;simp only[ib,iV]at O T;simp only[Ar.c]at m;simp[U.b70,ib,A];generalize V:bO R (.loop U.Da) _ _=o;have hq:∃j s',o=.code (.exit 0) j s'/\look j 2=some (.aw (ib a x))/\look j 3=some (.aw (ib a y)):=by
  refine bh V 2
   (λi e s=>∃ao K,bB e [(2,.aw (ib a x)),(3,.aw (ib a y)),(10,.sl s0.nx 0 2 6),(11,iV 2),(12,iV i)]/\aI s ao [(.sl s0.nx 0 2 6,6,[ib a x,ib a y])] K)
   (λo=>∃j s',o=.code (.exit 0) j s'/\look j 2=some (.aw (ib a x))/\look j 3=some (.aw (ib a y)))
   0 (by omega) ⟨c1,[],by simp[ib,iV],by simpa[ib]using n⟩
   (λi e s r J ⟨ao,K,h,D⟩ p=>by
    have hO:=D.mem.own 0 _ _ _ rfl;obtain⟨o1,X,g2,g3,u⟩:=hO.at (k:=.i64) i (by simpa using J);have C:o1=s0.nx:=by simp[J]at X;exact X.symm
    simp only[ab,ae,ib]at h;have h1:=br J (by omega);have h4:(i:Int)<2:=by omega
    have M:bT .i64 1=1:=rfl;have N:bT .i64 2=2:=rfl;rcases(by omega:i=0∨i=1)with rfl|rfl
    .have d:=D.cL (ib a x);have q:=(d.bm 0 _ _ rfl).1.1;generalize f:HS.mk _ _ _ _=S2 at d q;simp only[ib,tV,aB,aC,bn,Nat.reduceAdd,Nat.zero_mul]at f q u;rw[C]at u;simp[U.Da,h,u,f,q,O,M,aq,aA,an]at p;subst p;exact .inl ⟨_,_,rfl,ao,_,by simp[h,iV,ib],d⟩
    have d:=D.cL (ib a y);have q:=(d.bm 0 _ _ rfl).1.1;generalize f:HS.mk _ _ _ _=S2 at d q;simp only[ib,tV,List.getElem_cons_succ,aB,aC,bn,Nat.reduceAdd,Nat.one_mul]at f q u;rw[C]at u;simp[U.Da,h,u,f,q,T,N,aq,aA,an]at p;subst p;exact .inl ⟨_,_,rfl,ao,_,by simp[h,iV,ib],d⟩)
   (λe s r ⟨ao,K,h,D⟩ p=>by
    simp only[ab,ae]at h;simp[U.Da,h]at p;subst p;exact⟨by simp,_,_,rfl,by simp[h],by simp[h]⟩)
 clear V;obtain⟨j,s',rfl,Y,Z⟩:=hq;simp only[ib]at Y Z;simp[Y,Z,m,aa]
def w33{a:Ar}{x y:Fa}(ok:fz a)(m:bA x)(n:bA y)(p:pU y)(q:y.nx.length*x.nx.length<=100000)(d:∀s,R (.call 43 [.agg (ib a x)] s)=.val (iV 0) s)(f:∀s,R (.call 43 [.agg (ib a y)] s)=.val (iV 0) s)(b:Bool)(s:HS):
  R (.call 7 [.agg (ib a x),.agg (ib a y),.bool b] s)=.val (.cO [.bool (!(oD x y b).isSome),iV 0]) s:=by
 refine q33 ?_;have h:=w70 ok d f;have j:=w71 (ax:=a) (ay:=a) m n p q b;simp only[ib,iV]at h j;simp[U.b33,ib,h,j,aa]
def Pn{N a tl f i B:Nat}(j:a+1<=N)(h:(N-a)*6001+(tl+1)+i<=B)(m:f<=6000):(N-(a+1))*6001+(tl+f)+(i+1)<=B:=by obtain⟨d,rfl⟩:∃d,N=a+1+d:=⟨N-(a+1),by omega⟩;rw[show a+1+d-a=d+1 by omega,oR]at h;rw[show a+1+d-(a+1)=d by omega];rw[Nat.one_mul]at h;generalize d*6001=X at*;omega
section
variable{x y:Fa}{e:En}{s:HS}{o:Out}{om o7 o8:Ky}
def Tt(hx:bA x)(hy:bA y)(ho:pU y){N:Nat}(hN:y.nx.length*x.nx.length<=N)(hs:N<=1000){ao:aW}{v:HV}
  (q:bB e [(7,.ptr o7 0),(8,.ptr o8 0),(9,.mp om),(10,v)])
  (Z:cS s ao [(v,2,[((0:Nat),(0:Nat))].map uj)] [(o8,x.c),(o7,y.c)] om (eX NI (Ci [])))(hz:bO R (.loop U.lV) e s=o):
  (∃k e' s',Il x y k/\F0 x y k/\o=.code .ret e' s'/\look e' 4=some (.bool false)/\look e' 5=some (iV 0))∨
  (∃m e' s',nX x y ⟨[],m⟩/\o=.code (.exit 0) e' s'):=by
 refine bh hz (N*6001+1)
  (λi e s=>∃(ao:aW) (v:HV) (t m:List (Nat×Nat)),nX x y ⟨t,m⟩/\(N-m.length)*6001+t.length+i<=N*6001+1/\bB e [(7,.ptr o7 0),(8,.ptr o8 0),(9,.mp om),(10,v)]/\
   cS s ao [(v,2,t.map uj)] [(o8,x.c),(o7,y.c)] om (eX NI (Ci m)))
  (λo=>(∃k e' s',Il x y k/\F0 x y k/\o=.code .ret e' s'/\look e' 4=some (.bool false)/\look e' 5=some (iV 0))∨
   (∃m e' s',nX x y ⟨[],m⟩/\o=.code (.exit 0) e' s'))
  0 (by omega) ⟨ao,v,[(0,0)],[],nX.start hx hy,by simp,q,Z⟩
  (λi e s r hi ⟨ao,v,t,m,hO,C,q,Z⟩ a=>?_) (λe s r ⟨ao,v,t,m,hO,C,q,Z⟩ a=>?_)
 .have hl:=(Z.k.mem.own 0 _ _ _ rfl).len (s1:=s);rcases sv t with ht|⟨j,k,ht⟩
  .subst ht;simp only[ab,ae]at q;simp only[lO,aC]at hl;simp[U.lV,q,hl]at a;subst a;exact .inr ⟨by simp,.inr ⟨m,_,_,hO,rfl⟩⟩
  rw[tW]at ht;subst ht;have k0:=hO.len;simp only at k0;obtain⟨k1,k2,hd⟩:=hO.rt k (by simp);have ke:j.length<=6002000:=by simp only[bZ,dB]at C;have:N*6001<=1000*6001:=ji _ hs;omega
  have kg:=hx.nf;have kb:=hy.nf;have k3:=(Z.k.mem.own 0 _ _ _ rfl).at (k:=.i64) j.length (by simp);obtain⟨oq,g1,_,_,g4⟩:=k3;have k4:((j++[k]).map uj)[j.length]'(by simp)=uj k:=by simp
  rw[k4]at g4;have D:=Z.cL (uj k);obtain⟨o11,p⟩:∃o11,o11=s.nx:=⟨_,rfl⟩;rw[<-p]at D;have I:=(D.k.bm 0 _ _ rfl).1.1;generalize X:HS.mk _ _ _ _=S1 at D I;obtain⟨ov,rfl,u⟩:=D.cut 0 rfl j.length (by simp) (by simp);rw[show((j++[k]).map uj).take j.length=j.map uj by rw[<-List.map_take];simp]at u;simp only[aO]at u;have f:=Nj (K:=KP) Ow Ov u.mp k (.bool false);rw[zc]at f;have h6:bT .i64 (j.length:Int)=j.length:=cx (by omega) (by omega);have J:(0:Int)<(j.length:Int)+1:=by omega
  simp only[bz,bZ,dB]at hl g1 Z D;have hl:vm 0 (some (.sl ov 0 (j.length+1) 2)) s=.v (.int .i64 ((j.length:Int)+1)) s:=by simpa using hl
  simp only[uj,iV,aB,aC,bn,Nat.reduceAdd]at g4 X I;simp only[NI,uj,iV]at f;simp only[ab,ae,bz,bZ,dB]at q;by_cases M:k∈m
  .rw[au M]at f;simp only[gB]at f;simp[U.lV,q,J,h6,g1,g4,<-p,X,I,f,aq,aA,an]at a;subst a;refine .inl ⟨_,_,rfl,ao,_,j,m,nX.skip (g:=⟨[],m⟩) hO M,by simp at C ⊢;omega,by simp[q],u.tail⟩
  rw[ar M]at f;simp only[Tp]at f;have O:=Tc (K:=KP) Ow Ov u.mp k (.bool true);have hf:j5 k (HV.bool true) (Ci m)=Ci (m++[k]):=by unfold j5;rw[zc,ar M];simp[Ci]
  rw[hf]at O;have T:=u.put (eX NI (Ci (m++[k])));have d:=(T.k.bm 0 _ _ rfl).1.1;have d8:=(T.k.bm 1 _ _ rfl).1.1;have d7:=(T.k.bm 2 _ _ rfl).1.1;generalize ki:HS.aJ _ _ _=S3 at T O d d8 d7;have V:k.1<y.fi.length:=by omega
  have kc:(k.1:Int)<y.fi.length:=by omega
  have Y:k.2<x.fi.length:=by omega
  have kd:(k.2:Int)<x.fi.length:=by omega
  have k5:(k.1:Int)<y.nx.length:=by omega
  simp only[Fa.c,NI,uj,iV,aB,aC,bn,Nat.reduceAdd]at O d d8 d7;by_cases n:y.fi.getD k.1 false=true/\x.fi.getD k.2 false=false
  .have h1:=n.1;have h2:=n.2;rw[getD_at V]at h1;rw[getD_at Y]at h2;simp[U.lV,q,J,h6,g1,g4,<-p,X,I,f,O,d,d8,d7,V,Y,h1,h2,aq,aA,an]at a;subst a;exact .inr ⟨by simp,.inl ⟨k,_,_,⟨k1,k2,hd⟩,.inl n,rfl,by simp,by simp[iV]⟩⟩
  have k6:∀(A:En),bB A [(7,.ptr o7 0),(8,.ptr o8 0),(11,.ptr o11 0)]->∃e1,bO R U.r7 A S3=.code .normal e1 S3/\e1=A.oE 65 (.bool false):=by
   intro A h0;generalize a:bO R U.r7 A S3=r;simp only[ab,ae]at h0;cases h1:y.fi[k.1]with
   |false=>simp[h0,d,d8,d7,V,h1]at a;subst a;exact⟨_,rfl,rfl⟩
   |true=>
    have h2:x.fi[k.2]=true:=by cases h2:x.fi[k.2]with|true=>rfl|false=>exact(n ⟨by rw[getD_at V];exact h1,by rw[getD_at Y];exact h2⟩).elim
    simp[h0,d,d8,d7,V,Y,h1,h2]at a;subst a;exact⟨_,rfl,rfl⟩
  have h3:y.nx[k.1]=cM y k.1:=(getD_at k1 _).symm;have hg:(cM y k.1).length<=6000:=by rw[<-h3];exact hy.row k1
  have hj:∀(A:En),look A 7=some (.ptr o7 0)->look A 8=some (.ptr o8 0)->look A 11=some (.ptr o11 0)->bO R U.r7 A S3=.code .normal (A.oE 65 (.bool false)) S3:=λA h7 h8 k7=>by obtain⟨e1,h1,rfl⟩:=k6 A (by simp[h7,h8,k7]);exact h1
  simp[-U.r7,U.lV,q,J,h6,g1,g4,<-p,X,I,f,O,hj,d,d7,k1,k5,h3,aq,aA,an]at a;generalize k8:bO R (.loop U.qf) _ _=o2 at a;have h4:=T;rw[show(List.map uj j)=j.map uj from rfl]at h4;rcases Ts (o11:=o11) hx hy k1 k2 (t:=j) (by omega) hg (by simp[q,iV]) h4 k8 with⟨⟨ed,h9,ha⟩,e',s',rfl,l4,l5⟩|⟨hk,e',s',hp,v',rfl,k9,ka⟩
  .simp at a;subst a;exact .inr ⟨by simp,.inl ⟨k,_,_,⟨k1,k2,hd⟩,.inr ⟨ed,h9,ha⟩,rfl,l4,l5⟩⟩
  simp at a;subst a;have hb:¬F0 x y k:=by
   rintro(h|⟨ed,h9,ha⟩)
   .exact n h
   exact hk ed h9 ha
  have hq:=nX.next (g:=⟨[],m⟩) hx hy ho hO M hb
  have h5:=hq.len;simp only[bZ,dB]at h5 C;refine .inl ⟨_,_,rfl,hp,v',_,m++[k],hq,?_,k9,ka.tail⟩;simp only[bZ,dB,bz];exact Pn (fu h5 hN) C hg
 have ht:t=[]:=sf.1 (by omega);subst ht;have hl:=(Z.k.mem.own 0 _ _ _ rfl).len (s1:=s);simp only[ab,ae]at q;simp only[lO,aC]at hl;simp[U.lV,q,hl]at a;subst a;exact⟨by simp,.inr ⟨m,_,_,hO,rfl⟩⟩
end
def cS.Tu{s:HS}{ao:aW}{L:cq}{K:de}{o:Ky}{es:List (HV×HV)}(h:cS s ao L K o es){sz:Nat}{t:aP}(n:Sz sz t):∃d,cS {h:=av (some (.cells (cP (aD t)) 0 (aD t).length s.nx)) s.nx s.h,nx:=s.nx.succ,gr:=av (some [s.nx]) s.nx s.gr,ty:=s.ty} d (L++[(.sl s.nx 0 t.length sz,sz,t)]) K o es:=by
 classical
 have u:=Ky.aS s.nx;have q:=h.lt;have f:=cV.alloc (s:=s) (.cells (cP (aD t)) 0 (aD t).length s.nx) [s.nx];have j:¬o=s.nx:=λe=>by rw[e]at q;omega
 refine⟨_,⟨⟨h.k.mem.join f (F:=λk=>k=s.nx) ⟨n,λk m=>by subst m;simp only;omega,.inr ⟨s.nx,cP (aD t),(aD t).length,s.nx,[],rfl,?_,by rw[ct n];exact aV _,by simp,?_,by simp,by simp,rfl⟩⟩ (λk m=>by subst m;exact aV _),λa p c A=>?_,h.k.nd⟩,?_,by simp only;omega,?_⟩⟩
 .simp only;rw[af,au rfl]
 .simp only;rw[af,au rfl]
 .obtain⟨r,C⟩:=h.k.bm a p c A;have D:¬p=s.nx:=λe=>by have:=r.2.2;rw[e]at this;omega
  refine⟨r.frame f (λh=>h),?_⟩;simp only[D,bD];exact C
 .rw[f.2.2.1 o q (λh=>h)];exact h.mp
 simp only[j,bD];exact h.co
def Zj{a:Ar}{x y:Fa}(ok:fz a)(hx:bA x)(hy:bA y)(ho:pU y)(hn:y.nx.length*x.nx.length<=1000)(C:∀s,R (.call 43 [.agg (ib a x)] s)=.val (iV 0) s)(D:∀s,R (.call 43 [.agg (ib a y)] s)=.val (iV 0) s):
  ∃r:Bool,(∀s,R (.call 9 [.agg (ib a y),.agg (ib a x)] s)=.val (.cO [.bool r,iV 0]) s)/\(r=true↔∀w p q,UX x y w p q->¬F0 x y (p,q)):=by
 have I:=w70 ok D C;obtain⟨Z,J,h1⟩:∃Z,({h:=av (some (.cells (cP [.ah,.ah]) 0 2 s0.nx.succ)) s0.nx.succ (av (some (.cells (cP [.ah,.ah]) 0 2 s0.nx)) s0.nx s0.h),nx:=s0.nx.succ.succ,gr:=av (some [s0.nx.succ]) s0.nx.succ (av (some [s0.nx]) s0.nx s0.gr),ty:=s0.ty}:HS)=Z/\aI Z (λ_=>none) [] [(s0.nx.succ,[.ah,.ah]),(s0.nx,[.ah,.ah])]:=
  ⟨_,rfl,(((iJ.start s0).cL [.ah,.ah]).cL [.ah,.ah]).k⟩
 obtain⟨S3,k3,M⟩:=h1.put (a:=1) rfl (v:=.agg y.c) (new:=y.c) rfl rfl;have j:=fZ (l:=y.c) k3 rfl rfl;simp only[aO,bJ]at M;obtain⟨S4,k4,N⟩:=M.put (a:=0) rfl (v:=.agg x.c) (new:=x.c) rfl rfl;have O:=fZ (l:=x.c) k4 rfl rfl;simp only[aO,bJ]at N;have n:=N.mkm;obtain⟨om,T⟩:∃om,om=S4.nx:=⟨_,rfl⟩;rw[<-T]at n;generalize h2:HS.mk _ _ _ _=Y at n;obtain⟨c6,d⟩:=n.Tu (sz:=2) (t:=[((0:Nat),(0:Nat))].map uj) (Sz.cons rfl Sz.nil);simp only[bq,bX,lO,cj,gS,qE]at d;obtain⟨u,V⟩:∃u,u=Y.nx:=⟨_,rfl⟩;rw[<-V]at d;generalize h3:HS.mk _ _ _ _=S6 at d;obtain⟨r,A⟩:∃r,bO R U.Jk (bc [.agg (ib a y),.agg (ib a x)] 0) s0=r:=⟨_,rfl⟩;have X:=A;have hh:=ch HS.h J;simp only at hh;have f:HS.mk (av (some (.cells (cP [iV 0,iV 0]) 0 2 u)) u Y.h) u.succ (av (some [u]) u Y.gr) Y.ty=S6:=h3;simp only[ib,iV]at I;simp only[iV]at f;simp only[Fa.c,aB,aC,bn,Nat.reduceAdd]at k3 j k4 O;rw[<-hh]at j;simp[U.Jk,ib,I,J,k3,j,k4,O,<-T,h2,<-V,f]at A;generalize h4:bO R (.loop U.lV) _ _=o at A;rcases Tt hx hy ho (aV _) hn (by simp) d h4 with⟨k,e',s',hk,hb,rfl,l4,l5⟩|⟨m,e',s',hO,rfl⟩
 .simp at A;subst A;obtain⟨_,_,w,hw⟩:=hk;exact⟨false,λs=>N9 (by rw[X];simp[l4,l5,aa]) rfl (by simp[ib]),(λh=>by cases h),λh=>(h w k.1 k.2 hw hb).elim⟩
 simp at A;subst A;exact⟨true,λs=>N9 (by rw[X];simp[aa]) rfl (by simp[ib]),λ_ w p q hw=>hO.gd _ (hO.fin hx hy _ w p q rfl hw),λ_=>rfl⟩
def DP.mono{l:jT}{ak:aP}{D a:Nat}(h:DP l ak D)(d:D<=a):DP l ak a:=⟨h.len,h.row,λx f=>fu (h.op x f) d⟩
def agb(a:Ar)(ok:fz a)(hc:aQ a=0)(x:Fa)(hx:bA x){N D:Nat}(hN:Kr a x N D){i:Nat}(hi:i<N){g:Lg}(hg:ft a x i=some g){e:En}{s:HS}{r:Out}{v4 v5 v6 v7 v8:HV}{ao:aW}{E6 ak:aP}
  (hL:bB e [(2,.aw a.c),(3,.aw x.c),(4,v4),(5,v5),(6,v6),(7,v7),(8,v8),(9,iV i)])
  (hM:aI s ao [(v6,1,E6),(v7,1,g.kn.map bC),(v8,5,ak)] [])(hE:Ih g.op E6)(hS:DP g.l ak D)(p:i<g.l.length)(T:bO R U.lW e s=r)(j:B6 x g g.l[i]=false)(h7:(g.l[i]).st<x.nx.length):
  ((∃k,∃h:k<x.nx[(g.l[i]).st].length,ir a (g.l[i]).mn x.nx[(g.l[i]).st][k].m=false)/\∃e' s',r=.code .ret e' s'/\look e' 4=some .ah/\look e' 5=some (.bool false))∨
  ((∀k,(h:k<x.nx[(g.l[i]).st].length)->ir a (g.l[i]).mn x.nx[(g.l[i]).st][k].m=true)/\∃(e':En) (s':HS),r=.code .normal e' s'/\∃(ao:aW) (v6 v7 v8:HV) (E6 ak:aP),bB e' [(2,.aw a.c),(3,.aw x.c),(4,v4),(5,v5),(6,v6),(7,v7),(8,v8),(9,iV (i+1:Nat))]/\
   aI s' ao [(v6,1,E6),(v7,1,(g.kn.set (g.l[i]).st true).map bC),(v8,5,ak)] []/\Ih (g.op.set (g.l[i]).st (g.l[i]).mn.op) E6/\DP (jx g.l[i] g.l x.nx[(g.l[i]).st]) ak (D+1)):=by
 obtain⟨hq,hs,h8,kg,ht,V⟩:=hN.st i g hg;have hD:=hN.d;have hn:=hx.n;have ki:=hx.nf;have kc:=hx.pos;have hle:=hN.le i g g.l[i] hg (aX p);generalize J:g.l[i]=f at*;have h9:f∈g.l:=by rw[<-J];exact cb p
 have u:=h7;have hy:=(hq f h9).2;rw[getD_at u]at hle;have hB:=hle;obtain⟨o6,rfl⟩:=(hM.mem.own 0 _ _ _ rfl).gP (by intro h;have:=hE.len;rw[h]at this;simp at this;omega);obtain⟨o7,rfl⟩:=(hM.mem.own 1 _ _ _ rfl).gP (by intro h;have:=ch List.length h;simp at this;rw[this]at V;simp at V;omega);obtain⟨o8,rfl⟩:=(hM.mem.own 2 _ _ _ rfl).gP (by intro h;have h1:=hS.len;rw[h]at h1;exact h8 (ja h1.symm));rw[hE.len,ht,bz,V,hS.len]at hL hM;obtain⟨vo,q,M⟩:=(hS.row i p).ex;rw[J]at q M;obtain⟨ob,g1,_,_,g4⟩:=(hM.mem.own 2 _ _ _ rfl).at (k:=.i64) i (by rw[hS.len];exact p);have hz:ob=o8:=by simp[p]at g1;exact g1.symm
 subst hz;rw[M]at g4;have A:=hM.cL [iV f.st,vo,.bool f.mn.lost,.bool f.mn.forced,.bool f.mn.begun];have hC:=(A.bm 0 _ _ rfl).1.1;generalize X:HS.mk _ _ _ _=S1 at A hC;obtain⟨vq,k0,k1,kj⟩:=hE.row f.st (by omega);have g6:eN (aj S1.h o6) f.st=some vq:=by rw[(A.mem.own 0 _ _ _ rfl).cell f.st (by rw[hE.len];omega),k0];rfl
 have g7:eN (aj S1.h o7) f.st=some (.bool (g.kn[f.st]'(by omega))):=ly (A.mem.own 1 _ _ _ rfl) (aX (by omega));have C:=Ok vq vo _ _ k1 q (by have:=hs _ (cb (show f.st<g.op.length by omega));omega);have I:=Oj _ f.mn q.mn;unfold B6 at j;rw[getD_at (by omega),getD_at (by omega),getD_at (by omega),getD_at (by omega)]at j;have O:(i:Int)<g.l.length:=by omega
 have kd:(f.st:Int)<x.nx.length:=by omega
 have ha:f.st<x.fi.length:=by omega
 have ke:(f.st:Int)<x.fi.length:=by omega
 have k2:0<x.fi.length:=by omega
 simp only[ab,ae]at hL;simp only[aB,aC,bn,Nat.reduceAdd,iV]at hC X g4;have hw:bT .i64 ((i:Int)+1)=(i:Int)+1:=br (n:=3518437208883) (show i<3518437208883 by have:=hN.n;omega) (by omega);have k3:=hS.mono (show D<=D+1 by omega);obtain⟨p6,S2,a6,b6,Y⟩:=A.jQ 0 rfl f.st (by rw[hE.len];omega) q.one;simp only[aO]at Y;have Z:=(Y.bm 0 _ _ rfl).1.1;obtain⟨p7,S3,a7,b7,h3⟩:=Y.jQ 1 rfl f.st (by rw[bz];omega) (x:=.bool true) rfl;simp only[bJ,aO]at h3;rw[show List.set (g.kn.map bC) f.st [HV.bool true]=(g.kn.set f.st true).map bC by rw[mR]]at h3;simp[u]at a6 a7;subst a6;subst a7;simp only[jl]at b6 b7;simp only[aB,aC,bn,Nat.reduceAdd,iV]at Z;have k4:x.fi[f.st]=f.mn.over∨(¬x.fi[f.st]=f.mn.over/\x.nx.length=1/\x.fi[0]=false):=by
  by_cases h:x.fi[f.st]=f.mn.over
  .exact .inl h
  refine .inr ⟨h,?_⟩;rw[yd]at j;have h2:=j.2;rw[show(x.fi[f.st] != f.mn.over)=true by simpa using h,j7]at h2;simpa using h2
 have hp:g.kn[f.st]'(by omega)=true->nU g.op[f.st]=nU f.mn.op:=λhk=>by rw[yd,hk,j7]at j;simpa using j.1
 cases hk:g.kn[f.st]'(by omega)<;>rw[hk]at g7<;>(try rw[dq (hp hk)]at C)<;>rcases k4 with k5|⟨k6,kk,hf⟩<;>first
  |(rw[<-k5]at I;simp-implicitDefEqProofs[U.lW,hL,p,O,g4,X,aq,aA,an,hC,Z,u,g6,g7,I,ha,b6,b7,C]at T)
  |(have hb:(x.nx.length:Int)=1:=(by omega);simp-implicitDefEqProofs[U.lW,hL,p,O,g4,X,aq,aA,an,hC,Z,u,g6,g7,I,ha,b6,b7,C,k6,hb,k2,hf]at T)
 all_goals
  generalize ho:bO R (.loop U.Ab) _ _=o at T;rcases afR a ok hc x hx f u (by omega) hy g.l hB q (v4:=v4) (v5:=v5) (v6:=.sl o6 0 x.nx.length 1) (v7:=.sl o7 0 x.nx.length 1) (v8:=.sl ob 0 g.l.length 5) (v9:=iV i) (o10:=s.nx) (by simp[hL]) h3 k3 h8 ho with⟨k,k7,k8,e',s',rfl,h4,h5⟩|⟨hd,e',s',hj,k9,hl,rfl,h6,ka,kb⟩
  .simp at T;subst T;exact .inl ⟨⟨k,k7,k8⟩,_,_,rfl,h4,h5⟩
  simp only[ab,ae]at h6;simp[h6,hw]at T;subst T;exact .inr ⟨hd,_,_,rfl,hj,_,_,k9,_,hl,by simp[h6],ka,hE.set q,kb⟩
def Ip{a:Ar}{x:Fa}{i:Nat}(h:ft a x i=none)(d:Nat):ft a x (i+d)=none:=by induction d with|zero=>exact h|succ d f=>show ft a x ((i+d)+1)=none;rw[ft,f];rfl
def Iq{a:Ar}{x:Fa}{i:Nat}{g:Lg}(h:ft a x i=some g)(j:g.l.length<=i)(d:Nat):ft a x (i+d)=some g:=by induction d with|zero=>exact h|succ d f=>show ft a x ((i+d)+1)=some g;rw[ft,f,Option.bind_some,og,qz (by omega)]
def Zk{e:En}{s:HS}{i:Nat}{g:Lg}{ak h j:aP}{v2 v3 v4 v5 v6 v7 v8:HV}{ao:aW}{D:Nat}{r:Out}
  (d:bB e [(2,v2),(3,v3),(4,v4),(5,v5),(6,v6),(7,v7),(8,v8),(9,iV i)])(m:aI s ao [(v6,1,h),(v7,1,j),(v8,5,ak)] [])(n:DP g.l ak D)(p:¬i<g.l.length)(f:bO R U.lW e s=r):
  r=.code (.exit 0) (e.oE 29 (.bool false)) s:=by
 have hlen:=m.mem.len 2 rfl s;rw[n.len]at hlen;have a:¬(i:Int)<g.l.length:=by omega
 simp only[ab,ae]at d;simp[U.lW,d,hlen,a]at f;exact f.symm
def agc(a:Ar)(ok:fz a)(hc:aQ a=0)(x:Fa)(hx:bA x){N D:Nat}(M:Kr a x N D){g0:Lg}(h3:ft a x 0=some g0){e:En}{s:HS}{o:Out}{v4 v5 v6 v7 v8:HV}{ao:aW}{f ak:aP}
  (n:bB e [(2,.aw a.c),(3,.aw x.c),(4,v4),(5,v5),(6,v6),(7,v7),(8,v8),(9,iV 0)])
  (u:aI s ao [(v6,1,f),(v7,1,g0.kn.map bC),(v8,5,ak)] [])(C:Ih g0.op f)(I:DP g0.l ak D)(ho:bO R (.loop U.lW) e s=o):
  (ft a x N=none/\∃e' s',o=.code .ret e' s'/\look e' 4=some .ah/\look e' 5=some (.bool false))∨
  (∃g,ft a x N=some g/\∃(e':En) (s':HS) (ao:aW) (v6 v7 v8:HV) (f ak:aP),o=.code (.exit 0) e' s'/\look e' 6=some v6/\aI s' ao [(v6,1,f),(v7,1,g.kn.map bC),(v8,5,ak)] []/\Ih g.op f):=by
 refine bh ho N
  (λi e s=>∃(g:Lg) (ao:aW) (v6 v7 v8:HV) (f ak:aP),ft a x i=some g/\bB e [(2,.aw a.c),(3,.aw x.c),(4,v4),(5,v5),(6,v6),(7,v7),(8,v8),(9,iV i)]/\aI s ao [(v6,1,f),(v7,1,g.kn.map bC),(v8,5,ak)] []/\Ih g.op f/\DP g.l ak D)
  (λo=>(ft a x N=none/\∃e' s',o=.code .ret e' s'/\look e' 4=some .ah/\look e' 5=some (.bool false))∨
  (∃g,ft a x N=some g/\∃(e':En) (s':HS) (ao:aW) (v6 v7 v8:HV) (f ak:aP),o=.code (.exit 0) e' s'/\look e' 6=some v6/\aI s' ao [(v6,1,f),(v7,1,g.kn.map bC),(v8,5,ak)] []/\Ih g.op f))
  0 (by omega) ⟨g0,ao,v6,v7,v8,f,ak,h3,n,u,C,I⟩
  (λi e s r hi ⟨g,ao,v6,v7,v8,f,ak,A,n,u,C,I⟩ O=>by
   by_cases j:i<g.l.length
   .have p:=aX j;have J:=((M.st i g A).1 _ (cb j)).1;have q:ft a x (i+1)=none->ft a x N=none:=λh=>by have:=Ip h (N-(i+1));rwa[show i+1+(N-(i+1))=N by omega]at this
    have m:ft a x (i+1)=og a x g i:=by rw[ft,A];rfl
    cases d:B6 x g g.l[i]
    .rcases agb a ok hc x hx M hi A n u C I j O d J with⟨⟨k,hk,T⟩,e',s',rfl,h4,h5⟩|⟨V,e',s',rfl,X,h6,h7,h8,h9,Y,ha,hb,hd,Z⟩
     .refine .inr ⟨by simp,.inl ⟨q ?_,_,_,rfl,h4,h5⟩⟩;rw[m,og,p];simp only[d];rw[getD_at J,ar (by simp),ar];simp only[BX,JO];exact⟨_,cb hk,by simp[T]⟩
     have h1:ft a x (i+1)=some ⟨jx g.l[i] g.l x.nx[(g.l[i]).st],g.op.set (g.l[i]).st (g.l[i]).mn.op,g.kn.set (g.l[i]).st true⟩:=by rw[m,og,p];simp only[d];rw[getD_at J,ar (by simp),au];rw[fG];intro e he;obtain⟨k,hk,rfl⟩:=eO.1 he;exact V k hk
     refine .inl ⟨_,_,rfl,_,X,h6,h7,h8,h9,Y,h1,ha,hb,hd,Z.len,Z.row,λy hy=>((M.st _ _ h1).1 y hy).2⟩
    obtain⟨e',s',rfl,h4,h5⟩:=afS a ok hc x hx M hi A n u C I j O d;refine .inr ⟨by simp,.inl ⟨q ?_,_,_,rfl,h4,h5⟩⟩;rw[m,og,p];simp only[d,bp]
   have:=Zk n u I j O;subst this;have h2:=Iq A (by omega) (N-i);rw[show i+(N-i)=N by omega]at h2;simp only[ab,ae]at n;exact .inr ⟨by simp,.inr ⟨g,h2,_,_,ao,v6,v7,v8,f,ak,rfl,by simp[n],u,C⟩⟩)
  (λe s r ⟨g,ao,v6,v7,v8,f,ak,A,n,u,C,I⟩ O=>by
   have j:¬N<g.l.length:=by have:=M.fin g A;omega
   have:=Zk n u I j O;subst this;simp only[ab,ae]at n;exact⟨by simp,.inr ⟨g,A,_,_,ao,v6,v7,v8,f,ak,rfl,by simp[n],u,C⟩⟩)
def aI.Tu{s:HS}{ao:aW}{L:cq}{K:de}(h:aI s ao L K){sz:Nat}{t:aP}(f:Sz sz t):∃a,aI {h:=av (some (.cells (cP (aD t)) 0 (aD t).length s.nx)) s.nx s.h,nx:=s.nx.succ,gr:=av (some [s.nx]) s.nx s.gr,ty:=s.ty} a (L++[(.sl s.nx 0 t.length sz,sz,t)]) K:=by
 have j:=Ky.aS s.nx;refine h.join (cV.alloc _ _) (F:=λk=>k=s.nx) ⟨f,λk d=>by subst d;simp only;omega,.inr ⟨s.nx,cP (aD t),(aD t).length,s.nx,[],rfl,?_,by rw[ct f];exact aV _,by simp,?_,by simp,by simp,rfl⟩⟩ (λk d=>by subst d;exact aV _)
 .simp only;rw[af,au rfl]
 simp only;rw[af,au rfl]
def w96(a:Ar)(ok:fz a)(hc:aQ a=0)(x:Fa)(X:bA x){N D:Nat}(hN:Kr a x N D):∃v,∀s,R (.call 30 [.agg a.c,.agg x.c] s)=.val (.cO [v,.bool (ft a x N).isSome]) s:=by
 have hn:=X.n
 suffices h:∃v,pF [.tmp 4,.tmp 5] (bO R U.b96 (bc [.agg a.c,.agg x.c] 0) s0)=some (.cO [v,.bool (ft a x N).isSome]) by obtain⟨v,h⟩:=h;exact⟨v,λs=>q96 h⟩
 have h0:aI s0 (λ_=>none) [] []:=⟨dV.start (by simp),by simp,by simp⟩;obtain⟨s1,m1,r,u⟩:=lZ (s:=s0) (n:=x.nx.length) (bI:=5864062014805) (by omega) .ah;obtain⟨c1,A⟩:=h0.join u r (λk C=>by subst C;exact aV _);obtain⟨s2,m2,I,J⟩:=lZ (s:=s1) (n:=x.nx.length) (bI:=140737488355328) (by omega) (.bool false);obtain⟨c2,M⟩:=A.join J I (λk C=>by subst C;exact aV _);obtain⟨c3,d⟩:=M.Tu (sz:=5) (t:=[[.int .i64 0,.ah,.bool false,.bool false,.bool false]]) (Sz.cons rfl Sz.nil);simp only[bq,bo]at d;generalize p:HS.mk _ _ _ _=S3 at d;simp only[cj,gS,bo,bq,aB,aC,bn,Nat.reduceAdd]at p d;simp[U.b96,m1,m2,p];generalize ho:bO R (.loop U.lW) _ _=o;have hS:DP [⟨0,⟨[],false,false,false⟩⟩] [[.int .i64 0,.ah,.bool false,.bool false,.bool false]] D:=by
  refine⟨rfl,λi h=>?_,λy hy=>?_⟩
  .have h0:i=0:=by simpa using h
   subst h0;exact .inr ⟨rfl,rfl⟩
  rw[cr.1 hy];exact fN _
 rw[show List.replicate x.nx.length [HV.bool false]=(List.replicate x.nx.length false).map bC by simp]at d;rcases agc a ok hc x X hN (g0:=⟨[⟨0,⟨[],false,false,false⟩⟩],List.replicate x.nx.length [],List.replicate x.nx.length false⟩) rfl (v4:=.ah) (v5:=.bool false) (by simp) d (Ih.start _) hS ho with⟨O,e',s',rfl,h4,h5⟩|⟨g,O,e',s',ao,v6,v7,v8,m,ak,rfl,h6,hM,q⟩
 .rw[O];refine⟨.psl [],?_⟩;simp[h4,h5];exact aY (.cO (.cons .ah (.data (by simp))))
 rw[O];refine⟨.psl ((List.range m.length).map λi=>[.psl ((g.op.getD i []).map Mv.c)]),?_⟩;simp[h6];refine aY (.cO (.cons ?_ (.data (by simp))));have T:m=(List.range m.length).map λi=>[(m.getD i []).getD 0 .ah]:=by
  refine qD (by simp) λi Y h2=>?_
  obtain⟨v,V,_,_⟩:=q.row i (by rw[<-q.len];exact Y);simp only[BR,B4,getD_at Y,V];rfl
 have Z:=hM.mem.own 0 _ _ _ rfl;rw[T]at Z;have hv:=Z.vwH (f:=λi=>(m.getD i []).getD 0 .ah) (g:=λi=>HV.psl ((g.op.getD i []).map Mv.c)) (n:=14) (λi hi=>?_)
 .simpa using hv
 have j:i<m.length:=by simpa using hi
 obtain⟨v,V,k2,_⟩:=q.row i (by rw[<-q.len];exact j);simp only[getD_at j,V,getD_at (show i<g.op.length by rw[<-q.len];exact j)];rcases k2 with rfl|⟨h0,rfl⟩
 .exact .data (by simp)
 rw[h0];exact .ah
def w29(t:Sx)(V:∀r∈t.x.nx,r.length<=70368744177664):∃b,(∀s,R (.call 4 [.agg t.c] s)=.val (.bool b) s)/\(b=true->∃x,t.x=x.i/\Rt t.a x):=by
 obtain⟨Gj,f,C⟩:=w10 t V;simp only[Sx.c]at f;cases Gj with
 |false=>refine⟨false,λs=>?_,λh=>by cases h⟩;refine Xs ?_;simp[U.Ua,f,aa]
 |true=>
  obtain⟨n,M,Y,N⟩:=C rfl;have m:mN t.x:=⟨by omega,by omega,by omega⟩;by_cases j:aQ t.a=0
  .by_cases D:FH t.x
   .obtain⟨y,p,A,O,T⟩:=D;have q:y.nx.length<=24:=by rw[p]at M;simpa[Fa.i]using M
    have u:(y.nx.map List.length).sum<=120:=by rw[p]at N;simpa[Fa.i,tP]using N
    have X:=Tb A j (KM n j) q u;obtain⟨v,I⟩:=w96 t.a n.ok j y A X;have d:=w66 t n.ok m v (ft t.a y 3518437208883).isSome (λ_ _ s=>by rw[p,Fa.XH];exact I s);rw[au j,au ⟨y,p,A,O,T⟩]at d;simp only[Sx.c,iV]at d;cases J:ft t.a y 3518437208883 with
    |none=>rw[J]at d;refine⟨false,λs=>?_,λh=>by cases h⟩;refine Xs ?_;simp only[Option.isSome_none,df,bD]at d;simp[U.Ua,f,d,aa]
    |some g=>rw[J]at d;refine⟨true,λs=>?_,λ_=>⟨y,p,⟨n,j,A,O,T,q,u,⟨g,J⟩⟩⟩⟩;refine Xs ?_;simp only[Option.isSome_some,bp]at d;simp[U.Ua,f,d,aa]
   have d:=w66 t n.ok m (iV 0) false (λ_ h=>(D h).elim);rw[au j,ar D]at d;simp only[Sx.c,iV]at d;refine⟨false,λs=>?_,λh=>by cases h⟩;refine Xs ?_;simp[U.Ua,f,d,aa]
  have d:=w66 t n.ok m (iV 0) false (λh=>(j h).elim);rw[ar j]at d;simp only[Sx.c,iV]at d;refine⟨false,λs=>?_,λh=>by cases h⟩;refine Xs ?_;simp[U.Ua,f,d,j,aa]
def NJ(a:Ar)(x:Fa):(Sx.mk a x.i).c=ib a x:=by have:=x.XH;simp only[Ax.c,Fa.c,n6]at this;simp only[Sx.c,ib,this.1,this.2.1]
def NK{x:Fa}(d:rj x)(q:Nat):tR (cM x q):=by
 by_cases a:q<x.nx.length
 .rw[show cM x q=x.nx[q] from getD_at a _];exact d _ (cb a)
 have:cM x q=[]:=by unfold cM;rw[er,qz (by omega)];rfl
 rw[this];intro k h;simp at h
def KZ{x:Fa}(h:rj x):pU x:=by
 intro q e f;unfold bH;cases a:(cM x q).find? (λd=>decide (d.m=e.m))with
 |none=>have:=BQ.1 a e f;simp at this
 |some d=>
  have j:=Ap a;have n:d.m=e.m:=by simpa using KL a
  rw[(NK h q).uniq j f n]
def Rt.some{a:Ar}{x:Fa}(h:Rt a x):x=j8∨¬(x.nx.length=1/\x.fi.getD 0 false=false):=by
 rcases MT h.hx h.ha h.hl with d|d
 .exact .inl d
 refine .inr λ⟨r,j⟩=>?_
 have key:∀i,Lv x i->i<x.nx.length->False:=by
  intro i hl
  induction hl with
  |@fin i m=>
   intro n;have f:i=0:=by omega
   subst f;rw[er,m]at j;cases j
  |Fy hl p _ q=>intro n;exact q (h.hx.to _ (cE hl) _ p)
 exact key 0 (d.live 0 h.hx.pos) h.hx.pos
def Ir{y:Fa}(d:bA y)(f:pU y)(b:Bool):(oD y y b).isSome=false:=by cases h:(oD y y b).isSome with|false=>rfl|true=>obtain⟨w,p,q,⟨j,a⟩,e,m,n,_⟩:=(G7 d d f (aV _)).1 h;rw[j]at a;simp only[gj,tS,yp]at a;subst a;rw[f _ e m]at n;omega
def K0{a:Ar}{x y:Fa}(hx:Rt a x)(r:Rt a y):((!(oD x y true).isSome)&&(!(oD x y false).isSome))=true↔∀w p q,UX x y w p q->¬F0 x y (p,q):=by
 have C:=KZ r.ha;have key:=λb=>G7 (b:=b) hx.hx r.hx C (aV (y.nx.length*x.nx.length))
 constructor
 .intro h w p q f j;simp only[aL,pf]at h;have D:∀e∈cM y p,bH x q e.m≠ -1:=λe u A=>by
   have:=(key (zD e.m)).2 ⟨w,p,q,f,e,u,A,rfl⟩;cases j:zD e.m with
   |true=>rw[j]at this;have d:=h.1;unfold oD at d;rw[this]at d;cases d
   |false=>rw[j]at this;have d:=h.2;unfold oD at d;rw[this]at d;cases d
  rcases j with⟨d,I⟩|⟨e,u,A⟩
  .simp only at d I;have J:¬(y.nx.length=1/\y.fi.getD 0 false=false):=by
    rintro⟨k1,Z⟩
    obtain⟨T,h3,V⟩:=ui r.hx w 0 0 r.hx.pos (by rw[f.1];simp only;omega);rw[f.1]at V;simp only[gj,tS]at V;rw[show p=0 by omega,Z]at d;cases d
   obtain⟨T,X⟩:=r.wn J (w:=w) (by rw[f.1];simp only;omega);have hp:T=p:=by have:=X.fol;rw[f.1]at this;simp only[gj,tS,yp]at this;exact this.symm
   subst hp;have M:=X.fin.2 d;rcases hx.some with hn|N
   .cases w with|nil=>unfold Av at M;simp[gn,tU]at M|cons m w=>obtain⟨_,n⟩:=f;rw[hn]at n;have:bH j8 0 m= -1:=rfl;rw[fm,this,au rfl]at n;simp only[gj]at n;omega
   obtain⟨q',Y⟩:=hx.wn N (w:=w) (by rw[f.2];simp only;omega);have hq:q'=q:=by have:=Y.fol;rw[f.2]at this;simp only[gj,tS,yp]at this;exact this.symm
   subst hq;rw[Y.fin.1 M]at I;cases I
  exact D e u A
 intro h;have j:∀b,(oD x y b).isSome=false:=λb=>by cases A:(oD x y b).isSome with|false=>rfl|true=>obtain⟨w,p,q,f,e,u,O,_⟩:=(key b).1 A;exact(h w p q f (.inr ⟨e,u,O⟩)).elim
 rw[j,j];rfl
def Ox{n m:Nat}(a:n<=24)(d:m<=24):n*m<=1000:=fu (FT a d) (by decide)
def Tv{a:Ar}{x y:Fa}(hx:Rt a x)(d:Rt a y)(n:∀s,R (.call 4 [.agg (ib a x)] s)=.val (.bool true) s)(p:∀s,R (.call 4 [.agg (ib a y)] s)=.val (.bool true) s)(s:HS):
  R (.call 3 [.agg (ib a x),.agg (ib a y)] s)=.val (.bool true) s:=by
 refine Gy ?_ rfl (by simp[ib]);have N:=Og;have ok:=hx.th.ok;have hn:=Ox d.hn hx.hn;have V:=Ox d.hn d.hn;have ha:a.ids.length<=9:=hx.th.1;have J:∀t∈a.ids,t.ps.length<=6:=λt h=>(hx.th.2.2 t h).1
 have A:=w30 a a ok;rw[dq rfl]at A;have f:=w32 ⟨a,x.i⟩ ha J hx.hx.ok;rw[NJ]at f;have j:=w32 ⟨a,y.i⟩ ha J d.hx.ok;rw[NJ]at j;have C:=λb=>w33 ok hx.hx d.hx (KZ d.ha) (by omega) hx.Ot d.Ot b
 have q:=C true;have u:=C false;have O:=λb=>w33 ok d.hx d.hx (KZ d.ha) (by omega) d.Ot d.Ot b
 have D:=O true;have I:=O false;rw[Ir d.hx (KZ d.ha)]at D I;obtain⟨r,m,T⟩:=Zj ok hx.hx d.hx (KZ d.ha) hn hx.Ot d.Ot;have M:=K0 hx d;rw[<-T]at M;have M:((!(oD x y true).isSome)&&(!(oD x y false).isSome))=r:=by cases h:((!(oD x y true).isSome)&&(!(oD x y false).isSome))<;>cases r<;>simp_all
 generalize(oD x y true).isSome=X at*;generalize(oD x y false).isSome=Y at*;clear T C O;simp only[ib,iV,Ar.c]at n p A f j q u D I m;cases X<;>cases Y<;>(simp only[mB,ua,Bool.and_self,jL,yz]at M;subst M;simp-implicitDefEqProofs[U.C6,ib,Ar.c,n,p,A,f,j,q,u,D,I,m,N,aa])
def K3(t u:Sx)(D:∀r∈t.x.nx,r.length<=70368744177664)(I:∀r∈u.x.nx,r.length<=70368744177664)(s:HS):
  R (.call 3 [.agg t.c,.agg u.c] s)=.val (.bool true) s:=by
 have d:=Og;obtain⟨J,h,M⟩:=w29 t D;obtain⟨N,n,O⟩:=w29 u I;have j:=h;have m:=n;simp only[Sx.c]at h n;cases J
 .refine Gy ?_;simp-implicitDefEqProofs[U.C6,h,d,aa]
 cases N
 .refine Gy ?_;simp-implicitDefEqProofs[U.C6,h,n,d,aa]
 obtain⟨x,q,rx⟩:=M rfl;obtain⟨y,A,C⟩:=O rfl;by_cases p:t.a=u.a
 .obtain⟨T,tx⟩:=t;obtain⟨V,X⟩:=u;simp only at q A rx C p;subst q A p;rw[NJ]at j m ⊢;rw[NJ];exact Tv rx C j m s
 have f:=w30 t.a u.a rx.th.ok;rw[cK p]at f;simp only[Ar.c]at f;refine Gy ?_;simp-implicitDefEqProofs[U.C6,h,n,f,d,aa]
end Go.Proofs.YtaijlkikejincaaGreatDoor.K.Hm.S
namespace Go.Proofs.YtaijlkikejincaaGreatDoor.K.Hm
open Go Go.RowKit
def K4(b:Nat):¬Live (λ_=>False) s0 (λ_=>none) b:=by
 rintro(a|⟨o,ob,pl,f,d,h⟩)
 .exact a
 cases d
def agd(a:Nat->Option Obj)(P:Program)(W:World):bW (λ_=>False) (CR a P) (λ_=>none) s0 W:=
 ⟨λo pl h=>(by cases h),λo ob h=>(by cases h),λo j ob d pl f h=>(by cases h),λo t m p g h=>(by cases h),λg q h=>(by cases h),λb h=>h.elim,λb h=>h.elim,λo E n h=>(by cases h)⟩
def F4{P:Program}{L:jE}(F:px P L){prog oi:Nat->Option HF}(O:P.follows .mixedOrders=true)(d:∀f F,prog f=some F->pq P f F=true)(a:∀f F,oi f=some F->pq P f F=true)
  {n r f t:Nat}(h0:isTrue (run {L with ve:=none} oi r (.call t [] s0))=true){args:ai}{s':HS}(h:run {L with ve:=some t} prog n (.call f args s0)=.val (.bool true) s'){W:World}
  (T:Lib.TabIs P W "internal/strconv.uint64pow10" .u64 Lib.pow10Tab){vs:List Value}(C:eQ (λ_=>none) (λ_=>False) W args vs):Calls P f vs.toArray W λe N=>e=.returned (.bool true)/\Below W.heap.size W N:=by
 obtain⟨V,D,A⟩:=F.sound O T;have I:=A oi a none (λt h=>by cases h);obtain⟨s1,X⟩:∃s',run {L with ve:=none} oi r (.call t [] s0)=.val (.bool true) s':=by
  cases J:run {L with ve:=none} oi r (.call t [] s0)with
  |val v s'=>
   rw[J]at h0;cases v with
   |bool b=>cases b with
    |true=>exact⟨s',rfl⟩
    |false=>cases h0
   |_=>cases h0
  |code=>rw[J]at h0;cases h0
  |bad=>rw[J]at h0;cases h0
 have m:=zs (I r) X;have A:=A prog d (some t) (λt' h=>by cases h;exact m);obtain⟨_,Y⟩:=(A n).call f args s0 (.bool true) s' h;have p:eQ (λ_=>none) (Live (λ_=>False) s0 (λ_=>none)) W args vs:=C.keep (Bt.le_refl _) (λb _ M=>K4 b M) (cJ.refl _ _);refine(Y (λ_=>False) (λ_=>none) W vs (agd V P W) (λb o M=>⟨D b o M,K4 b⟩) p).mono ?_
 rintro e N ⟨u,β',rfl,_,q,Z⟩
 cases Z;exact⟨rfl,q.os,q.tape,q.output,q.keeps.size,λk hk=>q.keeps.same k hk (K4 k)⟩
open Go Go.ChangeShapes
section
variable{H:Type}{enc:TypeId×Value->H}{P:Program}{w:World}
abbrev HR0(w:World):=HR (λ_=>none) (λ_=>False) w
abbrev F5(w:World):=eQ (λ_=>none) (λ_=>False) w
abbrev D3(enc:TypeId×Value->H)(P:Program)(w:World):=DataW.trod enc P w 0 (λ_=>true) true
abbrev Zl(P:Program)(t:TypeId)(d:DataW H):Prop:=∀n∈d.weights P t,n<=reachBytes
def pV{e:TypeId}:∀{l:List (DataW H)} {d:DataW H},d∈l->∀n∈d.weights P e,n∈DataW.weightsAll P e l
 |x::l,d,a,n,f=>by
  rw[DataW.weightsAll];rcases bk.1 a with rfl|a
  .exact ph _ f
  exact A0 _ (pV a n f)
def iz:∀{a:List TypeId} {f:List (DataW H)} (i:Nat) {t:TypeId} {d:DataW H},a[i]?=some t->f[i]?=some d->∀n∈d.weights P t,n∈DataW.weightsEach P a f
 |[],_,i,t,d,h,_,_,_=>by simp at h
 |_::_,[],i,t,d,_,h,_,_=>by simp at h
 |t0::a,q::f,0,t,d,j,m,n,p=>by cases j;cases m;rw[DataW.weightsEach];exact ph _ p
 |t0::a,q::f,i+1,t,d,j,m,n,p=>by rw[DataW.weightsEach];exact A0 _ (iz i j m n p)
structure gM(enc:TypeId×Value->H)(P:Program)(w:World)(t:TypeId){α:Type}(c:α->ai)(B:α->Prop):Prop where
 one:∀a,∀v∈c a,v.one=true
 len:∀a,(c a).length=P.cellsOf t
 rd:∀fuel cs x,D3 enc P w fuel t cs=some x->Zl P t x.1->∃a:α,B a/\F5 w (c a) cs
def gM.Oy{t:TypeId}{α β:Type}{c:α->ai}{B:α->Prop}{c':β->ai}{B':β->Prop}(h:gM enc P w t c B)(g:β->α)(d:∀b,c' b=c (g b))(f:α->β)(j:∀a,c' (f a)=c a)(m:∀a,B a->B' (f a)):gM enc P w t c' B':=
 ⟨λb v n=>h.one (g b) v (by rw[<-d];exact n),λb=>by rw[d];exact h.len _,λfuel p x q r=>by
  obtain⟨a,u,A⟩:=h.rd fuel p x q r;exact⟨f a,m a u,by rw[j];exact A⟩⟩
def AO{t:TypeId}{k:IntKind}(d:P.underlying t=some (.int k))(f:P.cellsOf t=1):gM enc P w t (λn:Int=>[.int k n]) (λ_=>True):=
 ⟨λa v j=>by rw[cr.1 j];rfl,λa=>by rw[f];rfl,λfuel m x h _=>by
  obtain⟨n,rfl,_⟩:=DataW.trod_int d h;exact⟨n,trivial,.cons (.int _ _) .nil⟩⟩
def F6{t:TypeId}(d:P.underlying t=some .bool)(f:P.cellsOf t=1):gM enc P w t (λb:Bool=>[.bool b]) (λ_=>True):=
 ⟨λa v j=>by rw[cr.1 j];rfl,λa=>by rw[f];rfl,λfuel m x h _=>by
  obtain⟨b,rfl,_⟩:=DataW.trod_bool d h;exact⟨b,trivial,.cons (.bool _) .nil⟩⟩
def uS{α:Type}{Q:Nat->α->Prop}:∀(n:Nat),(∀i,i<n->∃a,Q i a)->∃l:List α,l.length=n/\∀i (h:i<l.length),Q i l[i]
 |0,_=>⟨[],rfl,λi h=>absurd h (by simp)⟩
 |n+1,h=>by
  obtain⟨l,d,m⟩:=uS n (λi f=>h i (by omega));obtain⟨a,p⟩:=h n (by omega);refine⟨l++[a],by simp[d],λi f=>?_⟩;rw[bZ,dB]at f;by_cases j:i<l.length
  .rw[yy j];exact m i j
  have:i=n:=by omega
  subst this;rw[FO (by omega)];simpa[d]using p
def uk{a:Addr}{n:Nat}{cs:List Value}(h:w.cells? 0 a n=some cs):cs.length=n/\∀j,j<n->w.cell? (a.add j)=cs[j]?:=by unfold World.cells? at h;rw[au (fN _)]at h;exact⟨by simpa using mapM_some_length h,λj d=>mapM_some_get h j j (by simp[d])⟩
def jU{t e:TypeId}(ht:P.underlying t=some (.slice e))(h6:P.cellsOf t=1)(A:0<P.cellsOf e){α:Type}{c:α->ai}{B:α->Prop}(M:gM enc P w e c B):
  gM enc P w t (λl:List α=>[.psl (l.map c)]) (λl=>(∀r∈l,B r)/\l.length*P.bytesOf e<=reachBytes):=by
 refine⟨λa v I=>by rw[cr.1 I];rfl,λa=>by rw[h6];rfl,λfuel cs x h hw=>?_⟩;have nil:(∀r∈([]:List α),B r)/\([]:List α).length*P.bytesOf e<=reachBytes:=⟨by simp,by simp⟩;rcases DataW.trod_slice ht h with⟨rfl,_⟩|⟨a,len,cap,C,V,n,_,rfl,rfl,_,h7,_,ha,X,_,_⟩
 .exact⟨[],nil,.cons (.psl0 none 0 (λ_=>rfl)) .nil⟩
 by_cases h0:len=0
 .subst h0;exact⟨[],nil,.cons (.psl0 (some a) cap (λh=>by cases h)) .nil⟩
 have Y:(C.length+V.length)*P.bytesOf e<=reachBytes/\∀d∈C,Zl P e d.1:=by simp only[Zl,DataW.weights,ht,bk,cp,bz]at hw;exact⟨hw _ (.inl rfl),λd hd n hn=>hw n (.inr (.inl (pV (Jd hd) n hn)))⟩
 have D:∀i,i<len->∃r:α,B r/\∃q,w.cells? 0 (a.add (i*P.cellsOf e)) (P.cellsOf e)=some q/\F5 w (c r) q:=by intro i f;have hg:=X i f;rw[aX (by omega)]at hg;obtain⟨q,O,T⟩:=n8.1 hg;obtain⟨r,hb,M⟩:=M.rd _ _ _ T (Y.2 _ (cb _));exact⟨r,hb,q,O,M⟩
 obtain⟨rows,hlen,m⟩:=uS len D;obtain⟨b,o,spot⟩:=a;have J:spot=none:=by obtain⟨_,q,O,_⟩:=m 0 (by omega);have T:=(uk O).2 0 A;rw[aX (by rw[(uk O).1];exact A)]at T;simpa[Addr.add]using World.cell?_spot T
 subst J;have Z:∀i j,(Addr.add (Addr.add ⟨b,o,none⟩ i) j)=⟨b,o+(i+j),none⟩:=λi j=>by rw[gA,gA];congr 1;omega
 subst hlen;have p:∀i j,i<rows.length->j<P.cellsOf e->∃u,du w b (o+(i*P.cellsOf e+j))=some u/\∀v,(rows.map c)[i]?=some v->∀y,v[j]?=some y->HR0 w y u:=by intro i j f hj;obtain⟨_,q,O,T⟩:=m i f;obtain⟨h3,h4⟩:=uk O;have h5:=h4 j hj;rw[Z,aX (by omega)]at h5;refine⟨_,h5,λv I y hy=>?_⟩;simp[f]at I;subst I;exact T.2 j y _ hy (aX (by omega))
 refine⟨rows,⟨λr hm=>?_,?_⟩,.cons ?_ .nil⟩
 .obtain⟨i,f,rfl⟩:=eO.1 hm;exact(m i f).1
 .exact fu (ji _ (by omega)) Y.1
 have hb:b<w.heap.size:=by obtain⟨u,hu,_⟩:=p 0 0 (by omega) A;exact rM hu
 have h8:=HR.psl (β:=λ_=>none) (N:=λ_=>False) (w:=w) (rows.map c) b o cap (P.cellsOf e) (λi j=>(du w b (o+(i*P.cellsOf e+j))).getD Go.undef) (λh=>h) hb (by simpa using h7)
  (λi row f=>by
   obtain⟨r,_,rfl⟩:=cU.1 (cE f);exact M.len r)
  (λrow D v I=>by
   obtain⟨r,_,rfl⟩:=cU.1 D;exact M.one r v I)
  (λi j f hj=>by
   rw[bz]at f;obtain⟨u,hu,_⟩:=p i j f hj;rw[hu];rfl)
  (λi row j y f hy=>by
   have h9:i<rows.length:=by have:=(aU.1 f).1;simpa using this
   have hj:j<P.cellsOf e:=by obtain⟨r,_,rfl⟩:=cU.1 (cE f);rw[<-M.len r];exact(aU.1 hy).1
   obtain⟨u,hu,I⟩:=p i j h9 hj;rw[hu];exact I row f y hy)
 simpa using h8
structure FA(enc:TypeId×Value->H)(P:Program)(w:World)(fs:Array Field)(i o k:Nat){α:Type}(c:α->ai)(B:α->Prop):Prop where
 f:∃f,fs[i]?=some f/\f.offset=o/\P.cellsOf f.type=k/\gM enc P w f.type c B
structure RF(enc:TypeId×Value->H)(P:Program)(w:World)(t:TypeId)(fs:Array Field)(i o:Nat){α:Type}(c:α->ai)(B:α->Prop):Prop where
 one:∀a,∀v∈c a,v.one=true
 len:∀a,o+(c a).length=P.cellsOf t
 rd:∀fuel cs x,D3 enc P w fuel t cs=some x->Zl P t x.1->∃a:α,B a/\F5 w (c a) (cs.drop o)
section
variable{t:TypeId}{fs:Array Field}{i o k:Nat}{α β:Type}{c:α->ai}{B:α->Prop}{c':β->ai}{B':β->Prop}
def fa(k:Nat){f:Field}(a:fs[i]?=some f)(d:f.offset=o)(h:P.cellsOf f.type=k)(j:gM enc P w f.type c B):FA enc P w fs i o k c B:=⟨f,a,d,h,j⟩
def FA.get(A:FA enc P w fs i o k c B)(r:P.underlying t=some (.struct fs)){fuel:Nat}{cs:List Value}{x:DataW H×List MemPlace}(h:D3 enc P w fuel t cs=some x)(C:Zl P t x.1):cs.length=P.cellsOf t/\∃a,B a/\F5 w (c a) ((cs.drop o).take k):=by
 obtain⟨f,j,rfl,rfl,D⟩:=A.f;obtain⟨I,n,_,rfl,h0,p,J⟩:=DataW.trod_struct r h;have u:=J i f j;have q:=(rL.1 j).1;rw[aX (by rw[p];exact q)]at u;refine⟨h0,D.rd n _ _ u λm M=>C m ?_⟩;simp only[DataW.weights,r];refine iz i (t:=f.type) (d:=(I[i]'(by rw[p];exact q)).1) ?_ ?_ m M
 .rw[fV,mA,j];rfl
 rw[fV,aX (by rw[p];exact q)];rfl
def FA.len(d:FA enc P w fs i o k c B)(a:α):(c a).length=k:=by obtain⟨f,_,_,rfl,h⟩:=d.f;exact h.len a
def FA.one(d:FA enc P w fs i o k c B)(a:α):∀v∈c a,v.one=true:=by obtain⟨f,_,_,_,h⟩:=d.f;exact h.one a
def RF.last(d:P.underlying t=some (.struct fs))(h:FA enc P w fs i o k c B)(f:o+k=P.cellsOf t):RF enc P w t fs i o c B:=
 ⟨h.one,λa=>by rw[h.len];exact f,λfuel p x j m=>by
  obtain⟨q,n⟩:=h.get d j m;rwa[fD (by rw[Ej];omega)]at n⟩
def RF.cons(j:P.underlying t=some (.struct fs))(h:FA enc P w fs i o k c B)(r:RF enc P w t fs (i+1) (o+k) c' B'):RF enc P w t fs i o (λp:α×β=>c p.1++c' p.2) (λp=>B p.1/\B' p.2):=
 ⟨λp v m=>(cp.1 m).elim (h.one _ v) (r.one _ v),λp=>by rw[bZ,h.len,<-r.len p.2];omega,λfuel n x d f=>by
  obtain⟨_,a,q,u⟩:=h.get j d f;obtain⟨b,A,C⟩:=r.rd fuel n x d f;refine⟨(a,b),⟨q,A⟩,?_⟩;have:=eQ.append u C;rwa[<-List.drop_drop,Ep]at this⟩
def RF.reads(h:RF enc P w t fs 0 0 c B):gM enc P w t c B:=
 ⟨h.one,λa=>by rw[<-h.len a];omega,λfuel d x f j=>by simpa using h.rd fuel d x f j⟩
end
end
open Go Go.ChangeShapes
section
variable{H:Type}{enc:TypeId×Value->H}{P:Program}{w:World}
open S
def um(x:Ax):Prop:=∀r∈x.nx,r.length<=70368744177664
def NL{α β:Type}{V:α->ai}{X:β->ai}{Y:α->Prop}{Z:β->Prop}{h q:TypeId}{fs J:Array Field}{Zm:Nat}{args:Array Value}{ts:List TypeId}{ds gs:List (DataW H)}{p:List MemPlace}
  (hA:DataW.TrodAll enc P w 0 (λ_=>true) true [h,q] args.toList ds p)(hz:(DataW.weightsEach P ([h,q]++ts) (ds++gs)).all (· <=reachBytes)=true)
  (ho:∀(j:Nat) t v,#[h,q][j]?=some t->args[j]?=some v->Value.okWide P w .any Zm t v)
  (M:P.underlying h=some (.struct fs))(r:gM enc P w h V Y)(N:P.underlying q=some (.struct J))(A:gM enc P w q X Z):
  ∃(a:α) (m:β),Y a/\Z m/\F5 w [.agg (V a),.agg (X m)] args.toList:=by
 obtain⟨v1,v2,d1,d2,p1,p2,rfl,rfl,rfl,d,f⟩:=trodAll_two hA;have O:=ho 0 h v1 rfl rfl;have o2:=ho 1 q v2 rfl rfl;unfold Value.okWide at O o2;rw[M]at O;rw[N]at o2;obtain⟨cs,rfl,_,_⟩:=O;obtain⟨C,rfl,_,_⟩:=o2;have D:∀n∈DataW.weightsEach P ([h,q]++ts) ([d1,d2]++gs),n<=reachBytes:=λn I=>by simpa using fG.1 hz n I
 obtain⟨f1,d⟩:=d;obtain⟨f2,f⟩:=f;have d:D3 enc P w f1 h cs.toList=some (d1,p1):=d;obtain⟨a,hb,ha⟩:=r.rd _ _ _ d (λn I=>D n (iz 0 rfl rfl n I));have f:D3 enc P w f2 q C.toList=some (d2,p2):=f;obtain⟨m,T,hm⟩:=A.rd _ _ _ f (λn I=>D n (iz 1 rfl rfl n I));exact⟨a,m,hb,T,.cons (.agg _ cs (r.one a) (by simpa using ha.1) (λi v u d f=>ha.2 i v u d (by simpa using f))) (.cons (.agg _ C (A.one m) (by simpa using hm.1) (λi v u d f=>hm.2 i v u d (by simpa using f))) .nil)⟩
end
end Go.Proofs.YtaijlkikejincaaGreatDoor.K.Hm
namespace Go.Proofs.YtaijlkikejincaaGreatDoor.K.Hm.U
open Go
def f12:=h0 102 0 [0,1,2,3,4,5,6,7,8,10,11,12] [.tmp 0] (S (g [0] [Z 0]) (S (g [1,2,3] [j 14 14,o 15 (.call 15 [.k (.str [48,63,32,50,63,32,50,33,48,32,48,33,49])]),C 16 13 14 15,m 13 16,x 17 13 0,x 18 13 1,x 19 13 2,m 1 17,m 2 18,m 3 19]) (S (g [4,5] [j 21 14,j 22 17,o 23 (.bsl 1 [.k (.str [48,63,32,50,63,32,50,33,49,32,48,33,48])]),C 24 16 22 23,o 25 (.call 7 [.t 21,.t 24,.k (.bool false)]),m 20 25,x 26 20 0,x 27 20 1,m 4 26,m 5 27]) (S (g [6,7] [j 29 17,o 30 (.call 15 [.k (.str [48,63,32,49,63,32,49,46,49,63,32,49,63,32,49,33,48,32,49,46,49,33,49,32,49,33,48,32,48,33,48])]),o 31 (.call 18 [.t 29,.k (.int .i64 1),.t 30]),m 28 31,x 32 28 0,x 33 28 1,m 6 32,m 7 33]) (S (g [8] [j 35 17,o 36 (.call 19 [.t 35,.k (.int .i64 1)]),m 34 36,x 37 34 0,x 38 34 1,o 8 (.alloc [.ah,.bool false,.int .i64 0,.bool false]),s 4 8 37,m 9 38]) (S (d [10,11,12] [u 0 (j 40 17),w 1 (L 41 8 4) 0 1,r 2 (o 42 (.fbl 1 [.k (.str [48,63,32,49,63,32,49,33,49,32,48,33,48])])),u 3 (C 43 16 41 42),u 5 (o 45 (.call 15 [.k (.str [48,63,32,49,63,32,49,46,49,63,32,49,63,32,49,33,48,32,49,46,49,33,49,32,49,33,48,32,48,33,48])])),r 4 (o 44 (.build [.x (.t 40) 4,.x (.k (.int .i64 1)) 1,.x (.t 43) 6])),u 6 (C 46 20 44 45),r 7 (m 39 46),r 8 (x 47 39 0),r 9 (x 48 39 1),r 10 (x 49 39 2),r 11 (m 10 47),r 12 (m 11 48)] [m 12 49]) (S (d [0] [r 0 (m 50 3),r 1 (i 51 .eql 50 0),r 2 (m 52 51),r 3 (mT 53 1 52),r 4 (iT 54 .eql 53 3 52),r 5 (y 55 52 54),r 6 (m 56 55),r 7 (mT 57 2 56),r 8 (NT 58 57 56),r 9 (y 59 56 58),r 10 (m 60 59),r 11 (mT 61 5 60),r 12 (iT 62 .eql 61 0 60),r 13 (y 63 60 62),r 14 (m 64 63),r 15 (mT 65 4 64),r 16 (NT 66 65 64),r 17 (y 67 64 66),r 18 (m 68 67),r 19 (mT 69 7 68),r 20 (iT 70 .eql 69 0 68),r 21 (y 71 68 70),r 22 (m 72 71),r 23 (mT 73 6 72),w 24 (nT 74 73 72) 0 0,r 25 (iT 75 .eql 74 2 72),r 26 (y 76 72 75),r 27 (m 77 76),u 31 (G 81 (.call 15 [.k (.str [48,63,32,49,63,32,49,33,49,32,48,33,48])]) 77 true),r 28 (mT 78 6 77),r 29 (G 79 (.ia (.t 78) (.k (.int .i64 0)) 1) 77 true),w 30 (lT 80 79 77) 0 1,u 32 (CT 82 21 80 81 77),r 33 (y 83 77 82),r 34 (m 84 83),u 38 (G 88 (.call 15 [.k (.str [48,63,32,48,33,48])]) 84 true),r 35 (mT 85 6 84),r 36 (G 86 (.ia (.t 85) (.k (.int .i64 1)) 1) 84 true),w 37 (lT 87 86 84) 2 3] [CT 89 21 87 88 84,y 90 84 89,m 91 90,mT 92 12 91,iT 93 .eql 92 0 91,y 94 91 93,m 95 94,mT 96 10 95,iT 97 .eql 96 4 95,y 98 95 97,m 99 98,mT 100 11 99,y 101 99 100,m 0 101]) R)))))))
def f31:=h0 40 2 [0,1,2,4,5,6,7,8,9,10,18,28] [.tmp 4,.tmp 5,.tmp 6] (S (g [2,4,5,6] [b 2 0,K 4 0,Z 5,K 6 0]) (S (g [7,6] [L 12 2 6,m 13 1,C 14 31 12 13,m 11 14,x 15 11 0,x 16 11 1,o 7 (.alloc [.ah,.ah]),s 2 7 15,m 6 16]) (S (A [18] [m 17 6,i 18 .neq 17 0] 18 (F [4,5,6] [m 19 6,K 4 0,Z 5,m 6 19]) W) (S (g [8] [j 20 32,o 8 (.alloc [.int .i64 0,.bool false]),s 2 8 20]) (S (S (g [9,10] [L 22 7 2,m 23 1,C 24 33 22 23,m 21 24,x 25 21 0,x 26 21 1,m 9 25,m 10 26]) (A [28] [m 27 9,i 28 .eql 27 (-1)] 28 (g [] [m 29 10,m 30 1,m 31 10,a 32 30 31 4,L 33 32 4,c 34 34 33,o 35 (.build [.x (.t 29) 1,.x (.t 34) 1]),s 2 8 35]) W)) (S (d [4,5,6] [r 0 (f 36 8 0),w 1 (l 37 36) 0 0,r 2 (f 38 8 1),w 3 (l 39 38) 0 0,r 4 (m 4 37)] [m 5 39,K 6 0]) R))))))
def f40:=h0 4 0 [0] [.cell 0 (some 6)] (S (g [0] [o 0 (.alloc [.ah,.bool false,.int .i64 0,.bool false,.ah,.ah])]) (F [] [j 1 17,o 2 (.bsl 1 [.k (.str [48,63,32,50,63,32,50,33,48,32,48,33,48]),.k (.str [48,63,32,50,63,32,50,33,49,32,48,33,49])]),C 3 16 1 2,s 6 0 3]))
def f41:=h0 11 1 [0,2,3] [.tmp 2] (S (g [2] [Q 2]) (S (g [3] [m 6 0,c 7 35 6,m 5 7,x 8 5 0,x 9 5 1,m 3 8,m 4 9]) (F [2] [m 10 3,m 2 10])))
def Zn:=S (A [12] [m 9 6,m 10 1,n 11 10,z 12 .lss 9 11] 12 W (X 0)) (S (T 1 (g [5] [m 15 5,m 16 1,m 17 6,a 18 16 17 1,l 19 18,c 20 15 19,q 21 1 20,p 22 1 5864062014805 15 21,m 5 22])) (t 6 13 14))
def f42:=h0 31 2 [0,1,2,4,5,6,7,12] [.cell 4 (some 6)] (S (g [2,4] [b 2 0,o 4 (.alloc [.ah,.bool false,.int .i64 0,.bool false,.ah,.ah])]) (S (g [5] [Q 5]) (S (S (g [6] [K 6 0]) (T 0 (M Zn))) (S (g [7] [m 24 5,c 25 36 24,m 23 25,x 26 23 0,x 27 23 1,o 7 (.alloc [.ah,.ah]),s 2 7 26,m 8 27]) (F [] [L 28 2 4,L 29 7 2,o 30 (.build [.x (.t 28) 4,.x (.t 29) 2]),s 6 4 30])))))
def f43:=h0 10 0 [0] [.cell 0 (some 4)] (S (g [0] [o 0 (.alloc [.ah,.bool false,.int .i64 0,.bool false])]) (F [] [o 1 (.build [.z [.bool false],.x (.k (.int .i64 2)) 1]),o 2 (.bsl 2 [.t 1]),o 3 (.build [.z [.bool false],.x (.k (.int .i64 1)) 1]),o 4 (.build [.x (.t 2) 1,.x (.t 3) 2]),o 5 (.build [.z [.bool false],.x (.k (.int .i64 2)) 1]),o 6 (.build [.z [.ah],.x (.t 5) 2]),o 7 (.bsl 3 [.t 4,.t 6]),o 8 (.build [.z [.bool false],.x (.k (.int .i64 2)) 1]),o 9 (.build [.x (.t 7) 1,.x (.t 8) 2,.z [.bool false]]),s 4 0 9]))
def Zo:=S (g [24] [z 24 .lss 23 22]) (S (I 24 W (X 0)) (S (T 1 (S (g [10] [a 25 21 23 1,l 26 25,m 10 26]) (g [6] [m 27 6,m 28 10,m 29 2,C 30 39 28 29,q 31 1 30,p 32 1 5864062014805 27 31,m 6 32]))) (g [23] [i 33 .add 23 1,m 23 33])))
def f19:=h0 35 3 [0,1,2,3,6,7,8,10,16,21,22,23,24] [.tmp 6,.tmp 7] (S (g [3,6,7] [b 3 0,Q 6,K 7 0]) (S (S (g [8] [L 11 3 4,m 12 1,m 13 2,J 14 37 11 12 13,m 8 14]) (A [16] [m 15 8,i 16 .neq 15 0] 16 (F [6,7] [m 17 8,Q 6,m 7 17]) W)) (S (S (g [21,22,23] [L 18 3 4,m 19 1,m 20 2,J 21 38 18 19 20,n 22 21,K 23 0]) (T 0 (M Zo))) (F [6,7] [m 34 6,m 6 34,K 7 0]))))
def Zp:=g [8] [f 29 7 1,L 30 29 2,f 31 2 3,l 32 31,m 33 32,fF 34 7 0 33,lF 35 34 33,nF 36 35 33,iF 37 .gtr 36 0 33,Y 38 33 37,o 39 (.build [.z [.ah],.x (.t 30) 2,.x (.t 38) 1]),o 8 (.alloc [.ah,.bool false,.int .i64 0,.bool false]),s 4 8 39]
def Zq:=S (A [44] [m 40 9,f 41 7 0,l 42 41,n 43 42,z 44 .lss 40 43] 44 W (X 0)) (S (T 1 (d [] [r 0 (f 47 8 0),w 1 (l 48 47) 0 0,r 2 (f 49 7 0),w 3 (l 50 49) 0 0,r 4 (m 51 9),r 5 (a 52 50 51 2),w 6 (L 53 52 2) 0 0,r 7 (o 54 (.build [.z [.ah],.x (.t 53) 2])),r 8 (q 55 3 54)] [p 56 3 3518437208883 48 55,f 57 8 0,s 1 57 56])) (t 9 45 46))
def f26:=h0 59 2 [0,1,2,4,5,6,7,8,9,13,21,44] [.cell 4 (some 4),.tmp 5] (S (g [2,4,5] [b 2 0,o 4 (.alloc [.ah,.bool false,.int .i64 0,.bool false]),K 5 0]) (S (S (g [6] [L 10 2 4,c 11 28 10,m 6 11]) (A [13] [m 12 6,i 13 .neq 12 0] 13 (F [5] [o 14 (.build [.z [.ah],.z [.bool false,.int .i64 0],.z [.bool false]]),m 15 6,s 4 4 14,m 5 15]) W)) (S (A [21] [m 16 1,f 17 2 0,l 18 17,n 19 18,o 20 (.call 40 [.t 16,.k (.int .i64 1),.t 19]),N 21 20] 21 (F [5] [o 22 (.build [.z [.ah],.z [.bool false,.int .i64 0],.z [.bool false]]),s 4 4 22,K 5 7]) W) (S (g [7] [f 23 2 0,l 24 23,m 25 1,i 26 .sub 25 1,a 27 24 26 3,L 28 27 3,o 7 (.alloc [.ah,.bool false,.int .i64 0]),s 3 7 28]) (S Zp (S (S (g [9] [K 9 0]) (T 0 (M Zq))) (F [5] [L 58 8 4,s 4 4 58,K 5 0])))))))
def Zr:=S (g [44] [z 44 .lss 43 42]) (S (I 44 W (X 0)) (S (T 1 (S (g [13] [a 45 41 43 1,l 46 45,m 13 46]) (S (d [14,15] [r 1 (m 49 13),r 2 (m 50 1),u 3 (C 51 39 49 50),w 0 (L 48 10 2) 0 1,u 4 (C 52 33 48 51),r 5 (m 47 52),r 6 (x 53 47 0),r 7 (x 54 47 1),r 8 (m 14 53)] [m 15 54]) (S (d [70] [r 0 (m 55 14),r 1 (i 56 .eql 55 (-1)),r 2 (m 57 56),r 3 (fT 58 11 0 57),w 4 (lT 59 58 57) 0 0,r 5 (iT 60 .lss 59 0 57),r 6 (mT 61 60 57),r 7 (mF 62 13 61),r 8 (mF 63 15 61),r 9 (aF 64 62 63 1 61),w 10 (lF 65 64 61) 0 0,r 11 (fF 66 11 0 61),w 12 (lF 67 66 61) 0 0] [zF 68 .lss 65 67 61,YT 69 61 68 57,y 70 57 69]) (I 70 (d [] [r 4 (m 75 1),r 5 (m 76 13),r 6 (m 77 15),r 7 (a 78 76 77 1),w 8 (l 79 78) 0 0,r 9 (a 80 75 79 4),w 10 (L 81 80 4) 0 0,u 11 (c 82 34 81),r 0 (m 71 13),r 1 (m 72 15),r 2 (a 73 71 72 1),w 3 (l 74 73) 0 1] [o 83 (.build [.x (.t 74) 1,.x (.t 82) 1]),s 2 11 83]) W))))) (g [43] [i 84 .add 43 1,m 43 84])))
def f13:=h0 89 2 [0,1,2,4,5,6,7,9,10,11,13,14,15,19,29,41,42,43,44,70] [.tmp 4,.tmp 5,.tmp 6] (S (g [2,4,5,6] [b 2 0,K 4 0,Z 5,K 6 0]) (S (S (g [7] [L 16 2 11,c 17 41 16,m 7 17]) (A [19] [m 18 7,i 19 .neq 18 0] 19 (F [4,5,6] [m 20 7,K 4 0,Z 5,m 6 20]) W)) (S (S (g [9] [f 22 2 0,L 23 22 4,m 24 1,C 25 42 23 24,m 21 25,x 26 21 0,x 27 21 1,m 8 26,m 9 27]) (A [29] [m 28 9,i 29 .neq 28 0] 29 (F [4,5,6] [m 30 9,K 4 0,Z 5,m 6 30]) W)) (S (d [10,11] [u 4 (j 35 32),r 0 (f 31 2 5),r 1 (f 32 31 4),w 2 (L 33 32 2) 0 3,r 3 (o 34 (.build [.x (.t 33) 2])),v 5 (o 10 (.alloc [.ah,.ah])),v 6 (o 11 (.alloc [.int .i64 0,.bool false]))] [s 2 10 34,s 2 11 35]) (S (S (g [41,42,43] [f 36 2 0,L 37 36 4,f 38 2 4,l 39 38,m 40 1,J 41 38 37 39 40,n 42 41,K 43 0]) (T 0 (M Zr))) (S (d [4,5,6] [r 0 (f 85 11 0),w 1 (l 86 85) 0 0,r 2 (f 87 11 1),w 3 (l 88 87) 0 0,r 4 (m 4 86)] [m 5 88,K 6 0]) R))))))
def f68:=h0 22 2 [0,1,2,4,5,6,10] [.cell 4 (some 2),.tmp 5] (S (g [2,4,5] [b 2 0,o 4 (.alloc [.ah,.ah]),K 5 0]) (S (g [6] [L 7 2 6,c 8 43 7,m 6 8]) (S (A [10] [m 9 6,i 10 .eql 9 0] 10 (g [6] [f 12 2 0,L 13 12 4,m 14 1,C 15 42 13 14,m 11 15,x 16 11 0,x 17 11 1,m 6 17]) W) (F [5] [f 18 2 4,L 19 18 2,o 20 (.build [.x (.t 19) 2]),m 21 6,s 2 4 20,m 5 21]))))
def f46:=h0 2 0 [0] [.cell 0 (some 2)] (S (g [0] [o 0 (.alloc [.int .i64 0,.bool false])]) (F [] [o 1 (.build [.x (.k (.int .i64 (-1))) 1,.z [.bool false]]),s 2 0 1]))
def Zs:=S (g [11] [z 11 .lss 10 9]) (S (I 11 W (X 0)) (S (T 1 (S (g [7,6] [m 12 10,a 13 8 10 4,L 14 13 4,o 7 (.alloc [.int .i64 0,.int .i64 0,.int .u8 0,.int .i64 0]),m 6 12,s 4 7 14]) (S (g [4] [L 15 2 2,m 16 4,L 17 7 4,J 18 26 15 16 17,m 4 18]) (A [20] [m 19 4,i 20 .eql 19 (-1)] 20 (F [4,5] [m 21 6,K 4 (-1),m 5 21]) W)))) (g [10] [i 22 .add 10 1,m 10 22])))
def f48:=h0 26 2 [0,1,2,4,5,6,7,8,9,10,11,20] [.tmp 4,.tmp 5] (S (g [2,4,5] [b 2 0,K 4 0,K 5 0]) (S (S (g [8,9,10] [m 8 1,n 9 8,K 10 0]) (T 0 (M Zs))) (F [4,5] [m 23 4,m 24 1,n 25 24,m 4 23,m 5 25])))
def Zt:=S (A [14] [m 11 5,m 12 0,o 13 (.len 1 (.t 12)),z 14 .lss 11 13] 14 W (X 0)) (S (T 1 (A [20] [m 17 0,m 18 5,o 19 (.idx (.t 17) (.t 18)),o 20 (.bin false .eql (.t 19) (.k (.int .u8 32)))] 20 (t 4 21 22) W)) (t 5 15 16))
def Zu:=S (A [32] [m 29 8,m 30 6,n 31 30,z 32 .lss 29 31] 32 W (X 2)) (S (T 3 (S (g [9,10] [m 36 6,m 37 8,a 38 36 37 1,l 39 38,c 40 64 39,m 35 40,x 41 35 0,x 42 35 1,o 9 (.alloc [.int .i64 0,.int .i64 0,.int .u8 0,.int .i64 0]),s 4 9 41,m 10 42]) (S (A [44] [m 43 10,i 44 .neq 43 0] 44 (F [2,3] [m 45 10,Q 2,m 3 45]) W) (g [7] [m 46 7,L 47 9 4,q 48 4 47,p 49 4 4398046511104 46 48,m 7 49])))) (t 8 33 34))
def f80:=h0 51 1 [0,2,3,4,5,6,7,8,9,10,14,20,24,26,32,44] [.tmp 2,.tmp 3] (S (g [2,3] [Q 2,K 3 0]) (S (g [4] [K 4 0]) (S (S (g [5] [K 5 0]) (T 0 (M Zt))) (S (A [24] [m 23 4,i 24 .geq 23 400] 24 (F [2,3] [Q 2,K 3 5]) W) (S (A [26] [m 25 0,o 26 (.bin false .eql (.t 25) (.k (.str [])))] 26 (F [2,3] [Q 2,K 3 0]) W) (S (g [6] [m 27 0,o 28 (.call 63 [.t 27,.k (.str [32])]),m 6 28]) (S (g [7] [Q 7]) (S (S (g [8] [K 8 0]) (T 2 (M Zu))) (F [2,3] [m 50 7,m 2 50,K 3 0])))))))))
def Zv:=S (A [19] [m 16 4,m 17 0,n 18 17,z 19 .lss 16 18] 19 W (X 0)) (S (T 1 (A [27] [m 22 0,m 23 4,a 24 22 23 1,l 25 24,n 26 25,i 27 .gtr 26 400] 27 (F [3] [o 28 (.build [.z [.ah],.z [.ah]]),s 2 2 28,K 3 5]) W)) (t 4 20 21))
def Zw:=S (A [52] [m 45 10,f 46 5 0,l 47 46,m 48 7,a 49 47 48 1,l 50 49,n 51 50,z 52 .lss 45 51] 52 W (X 6)) (S (T 7 (S (d [71] [r 0 (f 55 5 0),w 1 (l 56 55) 0 0,r 2 (m 57 7),r 3 (a 58 56 57 1),w 4 (l 59 58) 0 0,r 5 (m 60 10),r 6 (a 61 59 60 5),r 7 (f 62 61 0),w 8 (L 63 62 4) 0 0,r 9 (m 64 0),r 10 (m 65 6),r 11 (a 66 64 65 1),w 12 (l 67 66) 0 0,r 13 (m 68 8),r 14 (a 69 67 68 4),w 15 (L 70 69 4) 0 0] [o 71 (.eqs ⟨true,[0,0,0,0]⟩ false (.t 63) (.t 70))]) (I 71 (g [9] [f 72 5 0,l 73 72,m 74 7,a 75 73 74 1,l 76 75,m 77 10,a 78 76 77 5,f 79 78 4,l 80 79,m 9 80]) W))) (t 10 53 54))
def Zx:=S (A [42] [m 36 8,m 37 0,m 38 6,a 39 37 38 1,l 40 39,n 41 40,z 42 .lss 36 41] 42 W (X 4)) (S (T 5 (S (g [9] [K 9 (-1)]) (S (S (g [10] [K 10 0]) (T 6 (M Zw))) (S (A [82] [m 81 9,i 82 .lss 81 0] 82 (S (g [9] [f 83 5 0,l 84 83,n 85 84,m 9 85]) (S (d [] [r 3 (f 89 5 0),w 4 (l 90 89) 0 0,r 5 (m 91 7),r 6 (a 92 90 91 1),w 7 (l 93 92) 0 0,r 8 (m 94 0),r 9 (m 95 6),r 10 (a 96 94 95 1),w 11 (l 97 96) 0 0,r 12 (m 98 8),r 13 (a 99 97 98 4),w 14 (L 100 99 4) 0 0,r 15 (m 101 9),r 16 (o 102 (.build [.x (.t 100) 4,.x (.t 101) 1])),r 17 (q 103 5 102),u 18 (p 104 5 3518437208883 93 103),r 0 (f 86 5 0),w 1 (l 87 86) 0 1,r 2 (m 88 7)] [a 105 87 88 1,s 1 105 104]) (d [] [r 0 (f 106 5 0),w 1 (l 107 106) 0 0,r 2 (o 108 (.fbl 1 [.k .ah])),u 3 (p 109 1 5864062014805 107 108),r 4 (f 110 5 1),w 5 (l 111 110) 0 1,r 6 (o 112 (.fbl 1 [.k (.bool false)])),u 7 (p 113 1 140737488355328 111 112),r 8 (f 114 5 0)] [s 1 114 109,f 115 5 1,s 1 115 113]))) W) (g [7] [m 116 9,m 7 116]))))) (t 8 43 44))
def Zy:=S (A [33] [m 30 6,m 31 0,n 32 31,z 33 .lss 30 32] 33 W (X 2)) (S (T 3 (S (g [7] [K 7 0]) (S (S (g [8] [K 8 0]) (T 4 (M Zx))) (g [] [f 117 5 1,l 118 117,m 119 7,a 120 118 119 1,e (.st 1 (.t 120) (.k (.bool true)))])))) (t 6 34 35))
def f81:=h0 127 1 [0,2,3,4,5,6,7,8,9,10,11,14,19,27,33,42,52,71,82,124] [.cell 2 (some 2),.tmp 3] (S (g [2,3] [o 2 (.alloc [.ah,.ah]),K 3 0]) (S (A [14] [m 12 0,n 13 12,i 14 .gtr 13 60] 14 (F [3] [o 15 (.build [.z [.ah],.z [.ah]]),s 2 2 15,K 3 5]) W) (S (S (g [4] [K 4 0]) (T 0 (M Zv))) (S (g [5] [j 29 65,o 5 (.alloc [.ah,.ah]),s 2 5 29]) (S (S (g [6] [K 6 0]) (T 2 (M Zy))) (S (g [11] [L 121 5 2,c 122 57 121,o 11 (.alloc [.ah,.ah]),s 2 11 122]) (S (A [124] [L 123 11 2,c 124 53 123] 124 (F [3] [o 125 (.build [.z [.ah],.z [.ah]]),s 2 2 125,K 3 5]) W) (F [3] [L 126 11 2,s 2 2 126,K 3 0]))))))))
def Zz:=g [26] [m 18 1,i 19 .lss 18 1,m 20 19,mF 21 1 20,fF 22 3 0 20,lF 23 22 20,nF 24 23 20,zF 25 .gtr 21 24 20,Y 26 20 25]
def f56:=h0 27 3 [0,1,2,3,6,8,16,26] [.tmp 6] (S (g [3,6] [b 3 0,K 6 0]) (S (S (g [8] [L 10 3 4,m 11 2,C 12 42 10 11,m 9 12,x 13 9 0,x 14 9 1,m 7 13,m 8 14]) (A [16] [m 15 8,i 16 .neq 15 0] 16 (F [6] [m 17 8,m 6 17]) W)) (S (S Zz (I 26 (F [6] [K 6 7]) W)) (F [6] [K 6 0]))))
def ZA:=g [34] [m 35 12,m 36 35,fT 37 11 1 36,lT 38 37 36,iT 39 .eql 38 0 36,y 40 36 39,m 34 40]
def ZB:=g [50] [f 51 11 1,l 52 51,i 53 .eql 52 0,m 54 53,LT 55 11 4 54,cT 56 67 55 54,y 57 54 56,m 58 57,mT 59 2 58,mT 60 10 58,CT 61 68 59 60 58,NT 62 61 58,y 63 58 62,m 50 63]
def ZC:=S (g [23] [z 23 .lss 22 21]) (S (I 23 W (X 0)) (S (T 1 (S (g [11,10] [m 24 22,a 25 20 22 4,L 26 25 4,o 11 (.alloc [.int .i64 0,.int .i64 0,.int .u8 0,.int .i64 0]),m 10 24,s 4 11 26]) (S (A [30] [f 27 11 0,l 28 27,m 29 1,z 30 .neq 28 29] 30 (X 1) W) (S (g [12] [f 31 11 2,l 32 31,o 33 (.bin false .neq (.t 32) (.k (.int .u8 3))),m 12 33]) (S (T 2 (S ZA (I 34 (S (g [] [m 41 9,m 42 10,m 43 6,n 44 43,e (.mup ⟨false,[0]⟩ (.t 41) (.t 42) (.t 44))]) (S (g [6] [m 45 6,m 46 10,o 47 (.bsl 1 [.t 46]),q 48 1 47,p 49 1 5864062014805 45 48,m 6 49]) (X 1))) (S ZB (I 50 (X 1) W))))) (S (g [] [m 64 9,m 65 10,m 66 9,m 67 7,m 68 10,a 69 67 68 1,l 70 69,o 71 (.lkp ⟨false,[0]⟩ (.t 66) (.t 70) (.int .i64 0) false),e (.mup ⟨false,[0]⟩ (.t 64) (.t 65) (.t 71))]) (d [] [r 4 (m 76 6),r 5 (m 77 9),r 6 (m 78 10),w 7 (o 79 (.lkp ⟨false,[0]⟩ (.t 77) (.t 78) (.int .i64 0) false)) 0 0,r 8 (a 80 76 79 1),w 9 (l 81 80) 0 0,r 10 (m 82 10),r 11 (q 83 1 82),u 12 (p 84 1 17592186044416 81 83),r 0 (m 72 6),r 1 (m 73 9),r 2 (m 74 10),w 3 (o 75 (.lkp ⟨false,[0]⟩ (.t 73) (.t 74) (.int .i64 0) false)) 0 1] [a 85 72 75 1,s 1 85 84]))))))) (g [22] [i 86 .add 22 1,m 22 86])))
def f47:=h0 88 3 [0,1,2,3,6,7,9,10,11,12,20,21,22,23,30,34,50] [.tmp 6] (S (g [3,6] [b 3 0,Q 6]) (S (g [7] [L 14 3 4,m 15 2,C 16 66 14 15,m 13 16,x 17 13 0,x 18 13 1,m 7 17,m 8 18]) (S (g [9] [o 19 .mkm,m 9 19]) (S (S (g [20,21,22] [m 20 2,n 21 20,K 22 0]) (T 0 (M ZC))) (F [6] [m 87 6,m 6 87])))))
def ZD:=S (g [10] [z 10 .lss 9 8]) (S (I 10 W (X 0)) (S (T 1 (S (g [6] [a 11 7 9 1,l 12 11,m 6 12]) (g [4] [m 13 4,m 14 1,m 15 6,a 16 14 15 4,L 17 16 4,c 18 69 17,q 19 4 18,p 20 4 4398046511104 13 19,m 4 20]))) (g [9] [i 21 .add 9 1,m 9 21])))
def f49:=h0 23 2 [0,1,4,6,7,8,9,10] [.tmp 4] (S (g [4] [Q 4]) (S (S (g [7,8,9] [m 7 0,n 8 7,K 9 0]) (T 0 (M ZD))) (F [4] [m 22 4,m 4 22])))
def f44:=h0 36 1 [0,1,2,3,4,5,10,21,25,29] [.tmp 2] (S (g [1,2] [b 1 0,K 2 0]) (S (S (g [3] [f 6 1 0,L 7 6 4,c 8 70 7,m 3 8]) (A [10] [m 9 3,i 10 .neq 9 0] 10 (F [2] [m 11 3,m 2 11]) W)) (S (g [4,5] [f 13 1 0,L 14 13 4,f 15 1 4,l 16 15,C 17 71 14 16,m 12 17,x 18 12 0,x 19 12 1,o 4 (.alloc [.ah,.bool false,.int .i64 0,.bool false]),s 4 4 18,m 5 19]) (S (A [21] [m 20 5,i 21 .eql 20 0] 21 (g [5] [f 22 1 5,L 23 22 6,c 24 43 23,m 5 24]) W) (S (T 0 (A [25] [m 26 5,i 27 .neq 26 0,m 25 27] 25 (F [2] [m 28 5,m 2 28]) (A [29] [L 30 4 4,f 31 1 5,f 32 31 0,L 33 32 4,C 34 44 30 33,N 35 34,m 29 35] 29 (F [2] [K 2 11]) W))) (F [2] [K 2 0]))))))
def f45:=h0 31 2 [0,1,2,4,5,6,13,17] [.tmp 4,.tmp 5] (S (g [2,4,5] [b 2 0,K 4 0,K 5 0]) (S (g [6,5] [L 8 2 4,m 9 1,C 10 72 8 9,m 7 10,x 11 7 0,x 12 7 1,m 6 11,m 5 12]) (S (T 0 (A [13] [m 14 5,i 15 .neq 14 0,m 13 15] 13 (F [4,5] [m 16 5,K 4 0,m 5 16]) (A [17] [m 18 6,k 19 18,f 20 19 4,l 21 20,n 22 21,m 23 1,n 24 23,z 25 .lss 22 24,m 17 25] 17 (F [4,5] [m 26 6,k 27 26,f 28 27 4,l 29 28,n 30 29,m 4 30,K 5 13]) W))) (F [4,5] [K 4 0,K 5 0]))))
def Tw:=S (A [14] [m 8 7,m 9 1,o 10 (.len 1 (.t 9)),z 11 .add 8 10,m 12 0,o 13 (.len 1 (.t 12)),z 14 .leq 11 13] 14 W (X 0)) (S (T 1 (A [25] [m 17 0,m 18 7,m 19 7,m 20 1,o 21 (.len 1 (.t 20)),z 22 .add 19 21,o 23 (.sls (.t 17) (some (.t 18)) (some (.t 22))),m 24 1,z 25 .eql 23 24] 25 (S (g [5] [m 26 5,m 27 0,m 28 6,m 29 7,o 30 (.sls (.t 27) (some (.t 28)) (some (.t 29))),q 31 1 30,p 32 1 8796093022208 26 31,m 5 32]) (g [6,7] [m 33 7,m 34 1,o 35 (.len 1 (.t 34)),z 36 .add 33 35,m 37 7,m 38 1,o 39 (.len 1 (.t 38)),z 40 .add 37 39,i 41 .sub 40 1,m 6 36,m 7 41])) W)) (t 7 15 16))
def age:=h0 48 2 [0,1,4,5,6,7,14,25] [.tmp 4] (S (g [4] [Q 4]) (S (g [5] [Q 5]) (S (g [6] [K 6 0]) (S (S (g [7] [K 7 0]) (T 0 (M Tw))) (F [4] [m 42 5,m 43 0,m 44 6,o 45 (.sls (.t 43) (some (.t 44)) none),q 46 1 45,p 47 1 8796093022208 42 46,m 4 47])))))
def Tx:=g [28] [m 21 5,o 22 (.len 1 (.t 21)),i 23 .gtr 22 0,m 24 23,mT 25 5 24,G 26 (.idx (.t 25) (.k (.int .i64 0))) 24 true,G 27 (.bin false .eql (.t 26) (.k (.int .u8 46))) 24 true,y 28 24 27]
def Tz:=g [76] [m 70 9,i 71 .neq 70 0,m 72 71,mF 73 8 72,mF 74 0 72,zF 75 .neq 73 74 72,Y 76 72 75]
def agf:=h0 79 1 [0,2,3,4,5,6,7,8,9,28,42,45,46,49,52,63,76] [.cell 2 (some 4),.tmp 3] (S (g [2,3] [o 2 (.alloc [.int .i64 0,.int .i64 0,.int .u8 0,.int .i64 0]),K 3 0]) (S (g [4] [o 4 (.alloc [.int .i64 0,.int .i64 0,.int .u8 0,.int .i64 0])]) (S (g [5] [m 10 0,m 5 10]) (S (g [6,7] [m 12 5,c 13 88 12,m 11 13,x 14 11 0,x 15 11 1,m 6 14,m 7 15]) (S (d [5] [r 0 (m 16 6),r 4 (f 20 4 0),u 5 (s 1 20 16),r 1 (m 17 5),r 2 (m 18 7),r 3 (o 19 (.sls (.t 17) (some (.t 18)) none))] [m 5 19]) (S (S Tx (I 28 (S (g [6,7] [m 30 5,o 31 (.sls (.t 30) (some (.k (.int .i64 1))) none),c 32 88 31,m 29 32,x 33 29 0,x 34 29 1,m 6 33,m 7 34]) (d [5] [r 0 (m 35 6),r 5 (f 40 4 1),u 6 (s 1 40 35),r 1 (m 36 5),r 2 (m 37 7),r 3 (o 38 (.bin false .add (.k (.int .i64 1)) (.t 37))),r 4 (o 39 (.sls (.t 36) (some (.t 38)) none))] [m 5 39])) W)) (S (A [42] [m 41 5,o 42 (.bin false .eql (.t 41) (.k (.str [])))] 42 (F [3] [o 43 (.build [.z [.int .i64 0],.z [.int .i64 0],.z [.int .u8 0],.z [.int .i64 0]]),s 4 2 43,K 3 4]) W) (S (S (g [45] [m 44 5,o 45 (.idx (.t 44) (.k (.int .i64 0)))]) (T 0 (A [46] [o 47 (.bin false .eql (.t 45) (.k (.int .u8 63))),m 46 47] 46 (g [] [f 48 4 2,e (.st 1 (.t 48) (.k (.int .u8 1)))]) (A [49] [o 50 (.bin false .eql (.t 45) (.k (.int .u8 61))),m 49 50] 49 (g [] [f 51 4 2,e (.st 1 (.t 51) (.k (.int .u8 2)))]) (A [52] [o 53 (.bin false .eql (.t 45) (.k (.int .u8 33))),m 52 53] 52 (g [] [f 54 4 2,e (.st 1 (.t 54) (.k (.int .u8 3)))]) W))))) (S (g [] [m 56 5,o 57 (.sls (.t 56) (some (.k (.int .i64 1))) none),c 58 88 57,m 55 58,x 59 55 0,x 60 55 1,f 61 4 3,s 1 61 59]) (S (A [63] [m 62 5,o 63 (.bin false .eql (.t 62) (.k (.str [33,42])))] 63 (g [] [f 64 4 3,e (.st 1 (.t 64) (.k (.int .i64 (-1))))]) W) (S (S (g [8,9] [L 66 4 4,c 67 89 66,m 65 67,x 68 65 0,x 69 65 1,m 8 68,m 9 69]) (S Tz (I 76 (F [3] [o 77 (.build [.z [.int .i64 0],.z [.int .i64 0],.z [.int .u8 0],.z [.int .i64 0]]),s 4 2 77,K 3 4]) W))) (F [3] [L 78 4 4,s 4 2 78,K 3 0]))))))))))))
def f87:=h0 11 2 [0,1,2,4,5] [.tmp 4,.tmp 5] (S (g [2,4,5] [b 2 0,Q 4,K 5 0]) (F [4,5] [L 6 2 4,m 7 1,o 8 (.call 90 [.t 6,.t 7,.k (.fn 91 [] [])]),x 9 8 0,x 10 8 1,m 4 9,m 5 10]))
def ZE:=g [2] [f 3 1 2,l 4 3,o 5 (.bin false .eql (.t 4) (.k (.int .u8 3))),m 6 5,fT 7 1 3 6,lT 8 7 6,iT 9 .eql 8 (-1) 6,y 10 6 9,m 2 10]
def f88:=h0 11 1 [0,1,2] [.tmp 2] (S (g [1,2] [b 1 0,Z 2]) (S ZE R))
def ZF:=g [4] [m 5 1,i 6 .gtr 5 0,m 7 6,mT 8 0 7,mT 9 1 7,iT 10 .sub 9 1 7,aT 11 8 10 4 7,LT 12 11 4 7,cT 13 67 12 7,y 14 7 13,m 15 14,mT 16 0 15,mT 17 1 15,iT 18 .sub 17 1 15,aT 19 16 18 4 15,fT 20 19 1 15,lT 21 20 15,iT 22 .gtr 21 0 15,y 23 15 22,m 4 23]
def f89:=h0 24 2 [0,1,4] [.tmp 4] (S (g [4] [Z 4]) (S ZF R))
def f91:=h0 8 1 [0,1,2] [.cell 2 (some 4)] (S (g [1,2] [o 1 (.box (.t 0)),o 2 (.alloc [.int .i64 0,.int .i64 0,.int .u8 0,.int .i64 0])]) (S (g [] [f 3 1 1,l 4 3,f 5 1 0,s 1 5 4,f 6 1 1,e (.st 1 (.t 6) (.k (.int .i64 0)))]) (F [] [L 7 1 4,s 4 2 7])))
def ZG:=g [30] [m 25 9,N 26 25,m 27 26,mF 28 1 27,iF 29 .eql 28 0 27,Y 30 27 29]
def f83:=h0 46 2 [0,1,2,4,5,6,7,8,9,16,30] [.cell 4 (some 4),.tmp 5] (S (g [2,4,5] [b 2 0,o 4 (.alloc [.ah,.bool false,.int .i64 0,.bool false]),K 5 0]) (S (g [6,7] [L 11 2 4,c 12 97 11,m 10 12,x 13 10 0,x 14 10 1,o 6 (.alloc [.ah,.bool false,.int .i64 0,.bool false]),s 4 6 13,m 7 14]) (S (A [16] [m 15 7,i 16 .neq 15 0] 16 (F [5] [o 17 (.build [.z [.ah],.z [.bool false,.int .i64 0],.z [.bool false]]),m 18 7,s 4 4 17,m 5 18]) W) (S (g [8,9] [L 20 6 4,m 21 1,o 22 (.call 98 [.t 20,.t 21,.k (.int .i64 0)]),m 19 22,x 23 19 0,x 24 19 1,o 8 (.alloc [.int .i64 0,.int .i64 0,.bool false,.int .i64 0,.bool false]),s 5 8 23,m 9 24]) (S (S ZG (I 30 (F [5] [o 31 (.build [.z [.ah],.z [.bool false,.int .i64 0],.z [.bool false]]),s 4 4 31,K 5 7]) W)) (S (d [5] [r 0 (f 32 6 0),r 1 (f 33 32 0),w 2 (l 34 33) 0 0,r 3 (m 35 1),r 4 (i 36 .sub 35 1),r 5 (a 37 34 36 3),r 6 (f 38 37 0),w 7 (l 39 38) 0 0,u 8 (o 40 (.call 99 [.t 39,.k (.fn 100 [] [])])),r 9 (f 41 8 2),w 10 (L 42 41 2) 0 1,r 11 (f 43 8 4),w 12 (l 44 43) 0 1] [o 45 (.build [.x (.t 40) 1,.x (.t 42) 2,.x (.t 44) 1]),s 4 4 45,K 5 0]) R))))))
def f86:=h0 18 2 [0,1,2,4,5,6,10,14] [.tmp 4,.tmp 5] (S (g [2,4,5] [b 2 0,V 4,K 5 0]) (S (S (g [6] [L 7 2 4,c 8 70 7,m 6 8]) (A [10] [m 9 6,i 10 .neq 9 0] 10 (F [4,5] [m 11 6,V 4,m 5 11]) W)) (S (A [14] [m 12 1,n 13 12,i 14 .gtr 13 400] 14 (F [4,5] [V 4,K 5 5]) W) (F [4,5] [L 15 2 4,m 16 1,C 17 101 15 16,m 4 17,K 5 0]))))
def TA:=g [25] [m 6 5,m 7 0,o 8 (.len 1 (.t 7)),z 9 .lss 6 8,m 10 9,mT 11 5 10,iT 12 .lss 11 19 10,y 13 10 12,m 14 13,mT 15 0 14,mT 16 5 14,G 17 (.idx (.t 15) (.t 16)) 14 true,G 18 (.bin false .geq (.t 17) (.k (.int .u8 48))) 14 true,y 19 14 18,m 20 19,mT 21 0 20,mT 22 5 20,G 23 (.idx (.t 21) (.t 22)) 20 true,G 24 (.bin false .leq (.t 23) (.k (.int .u8 57))) 20 true,y 25 20 24]
def TB:=S (S TA (I 25 W (X 0))) (T 1 (S (g [4] [m 26 4,o 27 (.bin false .mul (.k (.int .i64 10)) (.t 26)),m 28 0,m 29 5,o 30 (.idx (.t 28) (.t 29)),o 31 (.bin false .sub (.t 30) (.k (.int .u8 48))),o 32 (.cnv .i64 (.t 31)),z 33 .add 27 32,m 4 33]) (t 5 34 35)))
def agh:=h0 38 1 [0,2,3,4,5,25] [.tmp 2,.tmp 3] (S (g [2,3] [K 2 0,K 3 0]) (S (g [4,5] [K 4 0,K 5 0]) (S (T 0 (M TB)) (F [2,3] [m 36 4,m 37 5,m 2 36,m 3 37]))))
def TC:=g [4] [f 5 1 0,l 6 5,i 7 .geq 6 0,m 8 7,fT 9 1 1 8,lT 10 9 8,iT 11 .geq 10 0 8,y 12 8 11,m 4 12]
def TD:=g [4] [m 17 4,m 18 17,fT 19 1 3 18,lT 20 19 18,iT 21 .eql 20 0 18,y 22 18 21,m 4 22]
def TE:=g [4] [m 25 4,m 26 25,fT 27 1 3 26,lT 28 27 26,iT 29 .geq 28 0 26,y 30 26 29,m 4 30]
def TF:=g [4] [m 33 4,m 34 33,fT 35 1 3 34,lT 36 35 34,iT 37 .geq 36 (-1) 34,y 38 34 37,m 4 38]
def agi:=h0 43 1 [0,1,2,3,4,14,15,23,31,40] [.tmp 2,.tmp 3] (S (g [1,2,3] [b 1 0,o 2 (.mv (.k (.str []))),K 3 0]) (S TC (S (S (g [14] [f 13 1 2,l 14 13]) (T 0 (A [15] [o 16 (.bin false .eql (.t 14) (.k (.int .u8 1))),m 15 16] 15 TD (A [23] [o 24 (.bin false .eql (.t 14) (.k (.int .u8 2))),m 23 24] 23 TE (A [31] [o 32 (.bin false .eql (.t 14) (.k (.int .u8 3))),m 31 32] 31 TF (g [4] [Z 4])))))) (S (A [40] [m 39 4,N 40 39] 40 (F [2,3] [o 2 (.mv (.k (.str []))),K 3 4]) W) (F [2,3] [L 41 1 4,c 42 110 41,m 2 42,K 3 0])))))
def agj:=h0 42 3 [0,1,2,3,6,7,8,9,16,21,38] [.tmp 6,.tmp 7] (S (g [3,6,7] [b 3 0,Q 6,K 7 0]) (S (g [8,7] [L 11 3 4,m 12 1,C 13 72 11 12,m 10 13,x 14 10 0,x 15 10 1,m 8 14,m 7 15]) (S (T 0 (A [16] [m 17 7,i 18 .neq 17 0,m 16 18] 16 (F [6,7] [m 19 6,m 20 7,m 6 19,m 7 20]) (A [21] [m 22 8,k 23 22,f 24 23 4,l 25 24,n 26 25,m 27 1,n 28 27,z 29 .lss 26 28,m 21 29] 21 (F [6,7] [m 30 6,m 6 30,K 7 13]) W))) (S (S (g [6,7] [m 32 2,m 33 8,o 34 (.dyn (.t 32) [.t 33]),m 31 34,x 35 31 0,x 36 31 1,m 6 35,m 7 36]) (A [38] [m 37 7,i 38 .neq 37 0] 38 (S (g [9] [Q 9]) (F [6,7] [m 39 9,m 40 7,m 6 39,m 7 40])) W)) (F [6,7] [m 41 6,m 6 41,K 7 0])))))
def agk:=h0 8 1 [0,2,3] [.tmp 2,.tmp 3] (S (g [2,3] [Q 2,K 3 0]) (F [2,3] [m 4 0,k 5 4,f 6 5 6,l 7 6,m 2 7,K 3 0]))
def TG:=S (g [10] [z 10 .lss 9 8]) (S (I 10 W (X 0)) (S (T 1 (S (g [6] [a 11 7 9 2,L 12 11 2,o 6 (.alloc [.bool false,.int .i64 0]),s 2 6 12]) (g [4] [m 13 4,m 14 1,L 15 6 2,o 16 (.dyn (.t 14) [.t 15]),q 17 3 16,p 18 3 3518437208883 13 17,m 4 18]))) (g [9] [i 19 .add 9 1,m 9 19])))
def agl:=h0 21 2 [0,1,4,6,7,8,9,10] [.tmp 4] (S (g [4] [Q 4]) (S (S (g [7,8,9] [m 7 0,n 8 7,K 9 0]) (T 0 (M TG))) (F [4] [m 20 4,m 4 20])))
def agm:=h0 5 1 [0,1,2] [.cell 2 (some 3)] (S (g [1,2] [b 1 0,o 2 (.alloc [.ah,.bool false,.int .i64 0])]) (F [] [L 3 1 2,o 4 (.build [.z [.ah],.x (.t 3) 2]),s 3 2 4]))
def TH:=g [36] [m 25 9,i 26 .neq 25 0,m 27 26,mF 28 8 27,NF 29 28 27,Y 30 27 29,m 31 30,mF 32 5 31,LF 33 7 4 31,CF 34 116 32 33 31,NF 35 34 31,Y 36 31 35]
def TI:=S (g [16] [z 16 .lss 15 14]) (S (I 16 W (X 0)) (S (T 1 (S (g [7] [a 17 13 15 4,L 18 17 4,o 7 (.alloc [.int .i64 0,.int .i64 0,.int .u8 0,.int .i64 0]),s 4 7 18]) (S (S (g [8,9] [L 20 2 4,L 21 7 4,C 22 115 20 21,m 19 22,x 23 19 0,x 24 19 1,m 8 23,m 9 24]) (S TH (I 36 (X 0) W))) (g [] [m 37 5,L 38 7 4,C 39 117 37 38])))) (g [15] [i 40 .add 15 1,m 15 40])))
def agn:=h0 42 2 [0,1,2,4,5,7,8,9,13,14,15,16,36] [.tmp 4] (S (g [2,4] [b 2 0,V 4]) (S (g [5] [L 10 2 4,o 11 (.build [.x (.t 10) 4,.z [.ah],.z [.ah],.z [.ah],.z [.ah],.z [.ah],.z [.bool false],.z [.bool false],.z [.int .i64 0]]),o 12 (.box (.t 11)),m 5 12]) (S (S (g [13,14,15] [m 13 1,n 14 13,K 15 0]) (T 0 (M TI))) (F [4] [m 41 5,m 4 41]))))
def ago:=h0 44 1 [0,1,2,3,9,16,22,32] [.tmp 2] (S (g [1,2] [b 1 0,o 2 (.mv (.k (.str [])))]) (S (g [3] [f 4 1 0,l 5 4,c 6 132 5,m 3 6]) (S (A [9] [f 7 1 1,l 8 7,i 9 .gtr 8 0] 9 (g [3] [m 10 3,f 11 1 1,l 12 11,c 13 132 12,o 14 (.bin false .add (.k (.str [46])) (.t 13)),z 15 .add 10 14,m 3 15]) W) (S (T 0 (A [16] [f 17 1 2,l 18 17,o 19 (.bin false .eql (.t 18) (.k (.int .u8 1))),m 16 19] 16 (F [2] [m 20 3,o 21 (.bin false .add (.t 20) (.k (.str [63]))),m 2 21]) (A [22] [f 23 1 2,l 24 23,o 25 (.bin false .eql (.t 24) (.k (.int .u8 2))),m 22 25] 22 (F [2] [m 26 3,o 27 (.bin false .add (.t 26) (.k (.str [61]))),f 28 1 3,l 29 28,c 30 132 29,z 31 .add 27 30,m 2 31]) (A [32] [f 33 1 3,l 34 33,i 35 .eql 34 (-1),m 32 35] 32 (F [2] [m 36 3,o 37 (.bin false .add (.t 36) (.k (.str [33,42]))),m 2 37]) W)))) (F [2] [m 38 3,o 39 (.bin false .add (.t 38) (.k (.str [33]))),f 40 1 3,l 41 40,c 42 132 41,z 43 .add 39 42,m 2 43])))))
def TJ:=g [4] [m 18 0,k 19 18,f 20 19 4,l 21 20,n 22 21,i 23 .eql 22 0,m 24 23,LT 25 3 4 24,cT 26 136 25 24,y 27 24 26,m 28 27,LT 29 3 4 28,cT 30 137 29 28,NT 31 30 28,y 32 28 31,m 4 32]
def TK:=g [4] [L 42 3 4,f 43 7 0,l 44 43,f 45 7 1,l 46 45,J 47 138 42 44 46,m 48 47,mT 49 0 48,LT 50 7 4 48,LT 51 3 4 48,G 52 (.call 139 [.t 49,.t 50,.t 51]) 48 true,y 53 48 52,m 4 53]
def TL:=g [63] [m 54 0,k 55 54,f 56 55 9,l 57 56,m 58 57,mF 59 0 58,G 60 (.nck (.t 59)) 58 false,fF 61 60 10 58,lF 62 61 58,Y 63 58 62]
def TM:=g [4] [L 69 3 4,c 70 142 69,m 71 70,fT 72 3 0 71,lT 73 72 71,fT 74 7 0 71,lT 75 74 71,zT 76 .eql 73 75 71,y 77 71 76,m 4 77]
def agp:=h0 78 2 [0,1,3,4,5,6,7,17,41,63,66] [.tmp 4] (S (g [3,4] [b 3 1,Z 4]) (S (g [5,6] [m 9 0,k 10 9,f 11 10 8,L 12 11 1,c 13 135 12,m 8 13,x 14 8 0,x 15 8 1,m 5 14,m 6 15]) (S (A [17] [m 16 6,N 17 16] 17 (S TJ R) W) (S (g [7] [m 33 0,k 34 33,f 35 34 4,l 36 35,m 37 5,a 38 36 37 4,L 39 38 4,o 7 (.alloc [.int .i64 0,.int .i64 0,.int .u8 0,.int .i64 0]),s 4 7 39]) (S (A [41] [L 40 3 4,c 41 137 40] 41 (S TK R) W) (S (S TL (I 63 (F [4] [Z 4]) W)) (S (A [66] [m 64 0,c 65 140 64,o 66 (.bin false .eql (.t 65) (.k (.int .u8 2)))] 66 (F [4] [L 67 3 4,c 68 141 67,m 4 68]) W) (S TM R))))))))
def TN:=g [83] [L 71 3 4,c 72 143 71,m 73 72,LT 74 3 4 73,cT 75 141 74 73,y 76 73 75,m 77 76,mT 78 0 77,G 79 (.nck (.t 78)) 77 true,fT 80 79 9 77,lT 81 80 77,NT 82 81 77,y 83 77 82]
def TO:=g [] [m 87 0,L 88 3 4,c 89 143 88,m 90 89,LT 91 3 4 90,cT 92 142 91 90,y 93 90 92,k 94 87,f 95 94 9,s 1 95 93]
def agq:=h0 155 2 [0,1,3,4,6,7,8,22,51,54,83,128] [] (S (g [3] [b 3 1]) (S (g [4] [m 10 0,k 11 10,f 12 11 8,L 13 12 1,c 14 135 13,m 9 14,x 15 9 0,x 16 9 1,m 4 15,m 5 16]) (S (g [6] [m 17 0,k 18 17,f 19 18 4,l 20 19,n 21 20,m 6 21]) (S (g [7,8] [K 7 (-1),K 8 (-1)]) (S (T 0 (A [22] [L 23 3 4,c 24 137 23,m 22 24] 22 (S (g [7,8] [m 25 4,m 26 4,m 7 25,m 8 26]) (S (g [] [m 27 0,k 28 27,f 29 28 5,l 30 29,m 31 4,m 32 6,a 33 30 31 1,s 1 33 32]) (d [] [r 0 (m 34 0),r 1 (m 35 0),r 2 (k 36 35),r 3 (f 37 36 8),r 4 (f 38 37 0),w 5 (l 39 38) 0 0,r 6 (m 40 0),r 7 (k 41 40),r 8 (f 42 41 8),r 9 (f 43 42 0),w 10 (l 44 43) 0 0,w 11 (n 45 44) 0 0,r 12 (i 46 .sub 45 1),r 13 (o 47 (.slc (.t 39) none (some (.t 46)) none 1))] [k 48 34,f 49 48 8,f 50 49 0,s 1 50 47]))) (A [51] [L 52 3 4,c 53 141 52,m 51 53] 51 (g [8] [K 8 0]) (A [54] [L 55 3 4,c 56 142 55,m 54 56] 54 (g [8] [m 57 4,m 8 57]) W)))) (S (d [] [r 1 (m 59 0),r 2 (k 60 59),r 3 (f 61 60 7),w 4 (l 62 61) 0 0,r 5 (m 63 0),r 6 (k 64 63),r 7 (f 65 64 9),w 8 (l 66 65) 0 0,r 9 (q 67 1 66),u 10 (p 68 1 140737488355328 62 67),r 0 (m 58 0)] [k 69 58,f 70 69 7,s 1 70 68]) (S (S TN (I 83 (g [] [m 84 0,k 85 84,f 86 85 10,e (.st 1 (.t 86) (.k (.bool true)))]) W)) (S TO (S (d [] [r 1 (m 97 0),r 2 (k 98 97),r 3 (f 99 98 4),w 4 (l 100 99) 0 0,w 5 (L 101 3 4) 0 0,r 6 (q 102 4 101),u 7 (p 103 4 4398046511104 100 102),r 0 (m 96 0)] [k 104 96,f 105 104 4,s 1 105 103]) (S (d [] [r 2 (m 108 0),r 3 (k 109 108),r 4 (f 110 109 5),w 5 (l 111 110) 0 0,r 6 (m 112 7),r 7 (q 113 1 112),u 8 (p 114 1 17592186044416 111 113),r 9 (m 115 0),r 10 (k 116 115),r 11 (f 117 116 6),w 12 (l 118 117) 0 1,r 13 (m 119 8),r 14 (q 120 1 119),u 15 (p 121 1 17592186044416 118 120),r 0 (m 106 0),r 16 (k 122 106),r 17 (f 123 122 5),u 18 (s 1 123 114),r 1 (m 107 0)] [k 124 107,f 125 124 6,s 1 125 121]) (S (A [128] [L 126 3 4,c 127 137 126,N 128 127] 128 (g [] [m 129 0,m 130 0,k 131 130,f 132 131 8,f 133 132 0,l 134 133,m 135 6,q 136 1 135,p 137 1 17592186044416 134 136,k 138 129,f 139 138 8,f 140 139 0,s 1 140 137]) W) (d [] [r 0 (m 141 0),r 1 (m 142 0),r 2 (k 143 142),r 3 (f 144 143 11),w 4 (l 145 144) 0 0,r 5 (m 146 0),r 6 (k 147 146),r 7 (f 148 147 8),r 8 (f 149 148 0),w 9 (l 150 149) 0 0,w 10 (n 151 150) 0 0,r 11 (o 152 (.mm true (.t 145) (.t 151)))] [k 153 141,f 154 153 11,s 1 154 152]))))))))))))
def agr:=h0 30 1 [0,2,3,4,8,15,24] [.tmp 2] (S (g [2] [o 2 (.mv (.k (.str [])))]) (S (g [3] [m 5 0,i 6 .rem 5 10,m 3 6]) (S (A [8] [m 7 3,i 8 .lss 7 0] 8 (g [3] [m 9 3,o 10 (.un .neg (.t 9)),m 3 10]) W) (S (g [4] [m 11 3,o 12 (.bin false .add (.k (.int .i64 48)) (.t 11)),o 13 (.cnv .i32 (.t 12)),o 14 (.cis (.t 13)),m 4 14]) (S (T 0 (A [15] [m 16 0,i 17 .quo 16 10,i 18 .neq 17 0,m 15 18] 15 (F [2] [m 19 0,i 20 .quo 19 10,c 21 132 20,m 22 4,z 23 .add 21 22,m 2 23]) (A [24] [m 25 0,i 26 .lss 25 0,m 24 26] 24 (F [2] [m 27 4,o 28 (.bin false .add (.k (.str [45])) (.t 27)),m 2 28]) W))) (F [2] [m 29 4,m 2 29]))))))
def ags:=h0 16 1 [0,1,2,3,7] [.tmp 2,.tmp 3] (S (g [1,2,3] [b 1 0,K 2 0,Z 3]) (S (A [7] [f 4 1 0,l 5 4,n 6 5,i 7 .eql 6 0] 7 (F [2,3] [K 2 (-1),Z 3]) W) (F [2,3] [f 8 1 0,l 9 8,f 10 1 0,l 11 10,n 12 11,i 13 .sub 12 1,a 14 9 13 1,l 15 14,m 2 15,O 3])))
def agt:=h0 5 1 [0,1,2] [.tmp 2] (S (g [1,2] [b 1 0,Z 2]) (F [2] [L 3 1 4,o 4 (.call 138 [.t 3,.k (.int .i64 0),.k (.int .i64 0)]),m 2 4]))
def agu:=h0 6 1 [0,1,2] [.tmp 2] (S (g [1,2] [b 1 0,Z 2]) (F [2] [f 3 1 2,l 4 3,o 5 (.bin false .eql (.t 4) (.k (.int .u8 3))),m 2 5]))
def TP:=g [6] [f 7 3 0,l 8 7,m 9 1,z 10 .eql 8 9,m 11 10,fT 12 3 1 11,lT 13 12 11,mT 14 2 11,zT 15 .eql 13 14 11,y 16 11 15,m 6 16]
def agv:=h0 17 3 [0,1,2,3,6] [.tmp 6] (S (g [3,6] [b 3 0,Z 6]) (S TP R))
def TQ:=g [7] [m 8 0,k 9 8,f 10 9 9,l 11 10,m 12 11,mF 13 0 12,G 14 (.nck (.t 13)) 12 false,fF 15 14 10 12,lF 16 15 12,Y 17 12 16,m 7 17]
def TR:=g [6] [L 23 4 4,c 24 142 23,m 25 24,LF 26 4 4 25,cF 27 141 26 25,mF 28 27 25,mT 29 0 28,G 30 (.nck (.t 29)) 28 true,fT 31 30 0 28,fT 32 31 3 28,lT 33 32 28,yF 34 28 33 25,Y 35 25 34,m 6 35]
def TS:=g [6] [f 36 4 2,l 37 36,o 38 (.bin false .eql (.t 37) (.k (.int .u8 1))),m 39 38,fF 40 5 3 39,lF 41 40 39,iF 42 .eql 41 0 39,Y 43 39 42,m 6 43]
def agw:=h0 44 3 [0,1,2,4,5,6,7,20] [.tmp 6] (S (g [4,5,6] [b 4 1,b 5 2,Z 6]) (S (T 0 (S TQ (I 7 (F [6] [L 18 5 4,c 19 143 18,m 6 19]) (A [20] [L 21 5 4,c 22 143 21,m 20 22] 20 (S TR R) W)))) (S TS R)))
def TT:=g [16] [m 17 4,m 18 17,mT 19 0 18,G 20 (.nck (.t 19)) 18 true,fT 21 20 4 18,lT 22 21 18,mT 23 3 18,aT 24 22 23 4 18,LT 25 24 4 18,cT 26 141 25 18,NT 27 26 18,y 28 18 27,m 16 28]
def agx:=h0 29 1 [0,2,3,4,13,16] [.tmp 2] (S (g [2] [o 2 (.mv (.k (.int .u8 0)))]) (S (g [3,4] [m 6 0,k 7 6,f 8 7 8,L 9 8 1,c 10 135 9,m 5 10,x 11 5 0,x 12 5 1,m 3 11,m 4 12]) (S (T 0 (A [13] [m 14 0,c 15 167 14,m 13 15] 13 (F [2] [o 2 (.mv (.k (.int .u8 3)))]) (S TT (I 16 (F [2] [o 2 (.mv (.k (.int .u8 2)))]) W)))) (F [2] [o 2 (.mv (.k (.int .u8 1)))]))))
def TU:=g [2] [f 3 1 0,l 4 3,i 5 .gtr 4 0,m 6 5,fT 7 1 1 6,lT 8 7 6,iT 9 .eql 8 0 6,y 10 6 9,m 2 10]
def agy:=h0 11 1 [0,1,2] [.tmp 2] (S (g [1,2] [b 1 0,Z 2]) (S TU R))
def TV:=g [2] [f 3 1 0,l 4 3,i 5 .gtr 4 0,m 6 5,fT 7 1 1 6,lT 8 7 6,iT 9 .gtr 8 0 6,y 10 6 9,m 2 10]
def agz:=h0 11 1 [0,1,2] [.tmp 2] (S (g [1,2] [b 1 0,Z 2]) (S TV R))
def TW:=g [2] [L 3 1 4,c 4 137 3,m 5 4,fT 6 1 3 5,lT 7 6 5,iT 8 .eql 7 (-1) 5,y 9 5 8,m 2 9]
def agA:=h0 10 1 [0,1,2] [.tmp 2] (S (g [1,2] [b 1 0,Z 2]) (S TW R))
def TX:=g [2] [m 3 0,k 4 3,f 5 4 4,l 6 5,n 7 6,i 8 .gtr 7 0,m 9 8,mT 10 0 9,G 11 (.nck (.t 10)) 9 true,fT 12 11 8 9,fT 13 12 0 9,lT 14 13 9,nT 15 14 9,iT 16 .eql 15 0 9,y 17 9 16,m 2 17]
def agB:=h0 18 1 [0,2] [.tmp 2] (S (g [2] [Z 2]) (S TX R))
end Go.Proofs.YtaijlkikejincaaGreatDoor.K.Hm.U
namespace Go.Proofs.YtaijlkikejincaaGreatDoor.K.Hm.P
open Go Hm U
def Dh:Tr HF:=B (B (B (B (E f41 (E f68 (D age) H) (B (B (D agA) H) H)) (B (E f49 (E f83 (D ags) H) (B (D agB) H)) H)) (B (E f26 (E f80 (D f88) (D agl)) H) (B (B (B (D agw) H) H) (B (D agk) H)))) (B (B (E f43 (D f48) H) (B (E f44 (B (D agu) H) H) (B (D agi) H))) (E f31 (B (E f56 (D f91) (D agn)) (B H (D agq))) (B (B (B (D agy) H) H) H)))) (B (B (B (E f42 (E f46 (D agf) H) H) (B (B (E f86 (D agt) H) H) (B (D agh) H))) (B (E f13 (E f81 (E f89 (D agr) H) (D agm)) (B H (D agp))) (B (B (B (D agx) H) H) H))) (E f12 (B (E f19 (B (D f87) H) H) (B (E f45 (B (D agv) H) H) (B (D agj) H))) (E f40 (B (D f47) H) (B (B (B (D agz) H) (D ago)) H))))
def prog(k:Nat):Option HF:=fI Dh k
end Go.Proofs.YtaijlkikejincaaGreatDoor.K.Hm.P
