/- PactWitness returns true for every pact, strategy and side, part 5. -/
import Derived.Test.YtcfbbbjhnaienaaGreatDoorCac
import Derived.Test.YtcfbbbjhnaienaaGreatDoorCad
import Derived.KernelRfl
import Derived.Test.YtcfbbbjhnaienaaGreatDoorCaa
set_option linter.all false
open Int renaming ofNat_eq_natCast->ns,toNat_natCast->gD
open List renaming cons_append->bo,nil_append->bq,length_singleton->dB,set_cons_succ->bJ,set_cons_zero->aO,length_cons->aB,length_nil->aC,idxOf_le_length->SI,getElem_idxOf->SK,getElem?_cons_succ->BP,find?_cons->tY,sum_cons->FR,length_flatMap->SY,countP_pos_iff->Ta,set_append_right->Te
open Option renaming getD_some->gB
open Nat renaming mul_assoc->SQ,mul_le_mul_left->SR,min_le_right->S9
open Bool renaming or_false->SV
set_option maxRecDepth 10000
noncomputable section
namespace Go.Proofs.YtcfbbbjhnaienaaGreatDoor.K.Hm.S
open Go
def Kc(l:az):Nat:=l.foldl (λa d=>a*10+(d-48)) 0
def Ic(l:az)(d:Nat):Kc (l++[d])=Kc l*10+(d-48):=by simp[Kc]
def ru:∀(f n:Nat),n<10^f->Kc (dT f n)=n
 |0,n,h=>by simp at h;subst h;rfl
 |f+1,n,h=>by
  rw[dT];cases b:Nat.blt n 10
  .have c:=ru f (n/10) (by rw[Nat.pow_succ]at h;omega);have k:¬n<10:=by intro d;rw[ck.2 d]at b;cases b
   simp only[cond_false];rw[Ic,c];omega
  simp only[cond_true];simp[Kc]
def jw:∀(f n:Nat),∀d∈dT f n,48<=d/\d<58
 |0,n,d,h=>by cases h
 |f+1,n,d,h=>by
  rw[dT]at h;cases b:Nat.blt n 10
  .rw[b,cond_false]at h;rcases l5.1 h with h|h
   .exact jw f _ d h
   rw[cr.1 h];omega
  rw[b,cond_true]at h;have:n<10:=ck.1 b;rw[cr.1 h];omega
def ahc:∀(f n:Nat),(dT f n).length<=f
 |0,n=>aV _
 |f+1,n=>by have:=ahc f (n/10);rw[dT];cases Nat.blt n 10<;>simp<;>omega
def gq(n:Int):Prop:= -9223372036854775808<=n/\n<9223372036854775808
def Yq:9223372036854775808<10^25:=by decide
def DE{a b:Int}(k:gq a)(q:gq b)(h:itoa a=itoa b):a=b:=by
 have u:=Yq;have r:∀(n m:Nat),n<=9223372036854775808->m<=9223372036854775808->dT 25 n=dT 25 m->n=m:=by intro n m z A t;rw[<-ru 25 n (by omega),<-ru 25 m (by omega),t]
 unfold gq at k q;cases a with
 |ofNat n=>
  cases b with
  |ofNat m=>simp only[ns]at k q;rw[r n m (by omega) (by omega) h]
  |negSucc m=>
   exfalso;have d:dT 25 n=45::dT 25 (m+1):=h;have c:(45:Nat)∈dT 25 n:=by rw[d];exact dr
   have:=jw _ _ _ c;omega
 |negSucc n=>
  cases b with
  |ofNat m=>
   exfalso;have d:45::dT 25 (n+1)=dT 25 m:=h;have c:(45:Nat)∈dT 25 m:=by rw[<-d];exact dr
   have:=jw _ _ _ c;omega
  |negSucc m=>
   have c:dT 25 (n+1)=dT 25 (m+1):=by injection h
   have:=r (n+1) (m+1) (by omega) (by omega) c;rw[show n=m by omega]
def vW(a:Int):∀d∈itoa a,d≠32:=by
 intro d b;cases a with
 |ofNat n=>have:=jw _ _ _ b;omega
 |negSucc n=>
  rcases bk.1 b with h|h
  .omega
  have:=jw _ _ _ h;omega
def yK(a:Int):(itoa a).length<=26:=by cases a with|ofNat n=>have:=ahc 25 n;show(dT 25 n).length<=26;omega|negSucc n=>have:=ahc 25 (n+1);show(dT 25 (n+1)).length+1<=26;omega
def fh(l:bb):az:=l.flatMap λn=>32::itoa n
def vX:∀{a b r k:az},(∀d∈a,d≠32)->(∀d∈b,d≠32)->(r=[]∨∃t,r=32::t)->(k=[]∨∃t,k=32::t)->a++r=b++k->a=b/\r=k
 |[],[],r,k,_,_,_,_,h=>⟨rfl,h⟩
 |[],d::b,r,k,_,z,A,_,h=>by
  rcases A with rfl|⟨t,rfl⟩
  .cases h
  injection h with u B
  exact(z d (by simp) u.symm).elim
 |d::a,[],r,k,C,_,_,q,h=>by
  rcases q with rfl|⟨t,rfl⟩
  .cases h
  injection h with u B
  exact(C d (by simp) u).elim
 |d::a,c::b,r,k,C,z,A,q,h=>by
  injection h with u B
  obtain⟨E,I⟩:=vX (λx D=>C x (by simp[D])) (λx D=>z x (by simp[D])) A q B;exact⟨by rw[u,E],I⟩
def nV(l:bb):fh l=[]∨∃t,fh l=32::t:=by cases l with|nil=>exact .inl rfl|cons a l=>exact .inr ⟨_,rfl⟩
def AF:∀{l l':bb},(∀n∈l,gq n)->(∀n∈l',gq n)->fh l=fh l'->l=l'
 |[],[],_,_,_=>rfl
 |[],b::l',_,_,h=>by cases h
 |a::l,[],_,_,h=>by cases h
 |a::l,b::l',k,c,h=>by
  have q:itoa a++fh l=itoa b++fh l':=by have r:32::(itoa a++fh l)=32::(itoa b++fh l'):=h;injection r
  obtain⟨t,u⟩:=vX (vW a) (vW b) (nV l) (nV l') q;rw[DE (k a (by simp)) (c b (by simp)) t,AF (λn d=>k n (by simp[d])) (λn d=>c n (by simp[d])) u]
def eP(cls:bb)(e:Eg):bb:=[e.m.id,e.m.arg,e.m.kind,e.m.n,cls.getD e.to 0]
def sF(b:Bool):az:=if b then [116,114,117,101]else [102,97,108,115,101]
def eZ(x:Fa)(cls:bb)(p:Nat):az:=sF (x.fi.getD p false)++(x.nx.getD p []).flatMap λe=>fh (eP cls e)
def kR(cls:bb)(l:bu):(l.flatMap λe=>fh (eP cls e))=fh (l.flatMap (eP cls)):=by induction l with|nil=>rfl|cons e l b=>rw[mU,b,mU];simp[fh,uL]
def DF(cls:bb):∀{l l':bu},l.flatMap (eP cls)=l'.flatMap (eP cls)->l.map (λe=>(e.m,cls.getD e.to 0))=l'.map (λe=>(e.m,cls.getD e.to 0))
 |[],[],_=>rfl
 |[],b::l',h=>by simp[eP]at h
 |a::l,[],h=>by simp[eP]at h
 |a::l,b::l',h=>by
  rw[mU,mU]at h;simp only[eP,bo,bq,n6]at h;obtain⟨k,q,r,t,c,d⟩:=h;rw[bX,bX,DF cls (l:=l) (l':=l') d,c];have:a.m=b.m:=by
   obtain⟨⟨_,_,_,_⟩,_⟩:=a;obtain⟨⟨_,_,_,_⟩,_⟩:=b
   simp_all
  rw[this]
def FK(x:Fa):Prop:=∀l∈x.nx,∀e∈l,gq e.m.id/\gq e.m.arg/\(0<=e.m.kind/\e.m.kind<256)/\gq e.m.n
def DG{x:Fa}(q:FK x){cls:bb}(t:∀c∈cls,gq c){p:Nat}:∀n∈(x.nx.getD p []).flatMap (eP cls),gq n:=by
 intro n d;obtain⟨e,k,d⟩:=qF.1 d;have b:x.nx.getD p []∈x.nx:=by
  rw[KP]at k ⊢;cases h:x.nx[p]?with
  |none=>rw[h]at k;cases k
  |some r=>exact cE h
 obtain⟨u,z,D,A⟩:=q _ b e k;have B:gq (cls.getD e.to 0):=by rw[KP];cases h:cls[e.to]?with|none=>unfold gq;simp|some c=>exact t c (cE h)
 have C:gq e.m.kind:=by unfold gq;omega
 simp only[eP,bk,J8,or_false]at d;rcases d with rfl|rfl|rfl|rfl|rfl
 .exact u
 .exact z
 .exact C
 .exact A
 exact B
def DH{x:Fa}(k:FK x){cls:bb}(r:∀c∈cls,gq c){p q:Nat}(h:eZ x cls p=eZ x cls q):
  x.fi.getD p false=x.fi.getD q false/\(x.nx.getD p []).map (λe=>(e.m,cls.getD e.to 0))=(x.nx.getD q []).map (λe=>(e.m,cls.getD e.to 0)):=by
 unfold eZ at h;rw[kR,kR]at h;have t:∀b,∀d∈sF b,d≠32:=by intro b;cases b<;>decide
 obtain⟨u,z⟩:=vX (t _) (t _) (nV _) (nV _) h;refine⟨?_,DF cls (AF (DG k r) (DG k r) z)⟩;cases A:x.fi.getD p false<;>cases B:x.fi.getD q false<;>rw[A,B]at u<;>first|rfl|(exact absurd u (by decide))
def FL{s s':HS}{sz bI t ea:Nat}{x E:HV}{new:ai}(h:s.append sz bI none x new ea=.v E s')(V:ea≠0)(X:∀o a b c,x=.sl o a b c->∃m,aj s.ty o=some (t,m)):
  ∃T,s.append sz bI (some t) x new ea=.v E ⟨s'.h,s'.nx,s'.gr,T⟩/\(∃a b c,E=.sl s.nx a b c)/\aj T s.nx=some (t,0)/\∀k,k≠s.nx->aj T k=aj s.ty k:=by
 have O:∀k,k≠s.nx->aj (av (some (t,0)) s.nx s.ty) k=aj s.ty k:=λk Y=>by rw[af,ar Y]
 have u:Nat.beq ea 0=false:=by
  cases D:Nat.beq ea 0
  .rfl
  exact(V (bf.1 D)).elim
 unfold HS.append at h ⊢;cases x with
 |ah=>
  simp only[u,cond_false]at h ⊢;cases D:Nat.ble ea bI
  .rw[D]at h;cases h
  rw[D]at h;cases h;exact⟨_,rfl,⟨_,_,_,rfl⟩,by rw[show Ea (some t) s=av (some (t,0)) s.nx s.ty from rfl,af,au rfl],O⟩
 |sl o d len z=>
  obtain⟨m,Z⟩:=X o d len z rfl;have A:l7 (some t) o s=av (some (t,0)) s.nx s.ty:=by show(match aj s.ty o with|some (E',_)=>bif Nat.beq E' t then av (some (t,0)) s.nx s.ty else s.ty|none=>s.ty)=_;rw[Z];simp
  simp only[u,cond_false]at h ⊢;rw[A];cases B:Nat.beq sz z
  .simp[B]at h
  simp only[B,mB,cond_false]at h ⊢;cases r:aj s.h o with
  |none=>rw[r]at h;cases h
  |some b=>
   cases b with
   |cells tt lo hi g=>
    simp only[r]at h ⊢;cases P:aj s.gr g with
    |none=>rw[P]at h;cases h
    |some ms=>
     simp only[P]at h ⊢;generalize bN _ _ _ _ _=q at h ⊢;cases I:aj q.1 o with
     |none=>rw[I]at h;cases h
     |some b2=>
      cases b2 with
      |cells t2 J M g2=>
       simp only[I]at h ⊢;cases C:(jg o q.2&&Nat.ble J d&&Nat.ble (d+len*sz) M&&Nat.ble (len+ea) bI)
       .rw[C]at h;cases h
       rw[C]at h;cases h;exact⟨_,rfl,⟨_,_,_,rfl⟩,by rw[af,au rfl],O⟩
      |_=>rw[I]at h;cases h
   |_=>rw[r]at h;cases h
 |_=>cases h
section
variable{s:HS}{ao:aW}{L:cq}{K:de}
def aI.ty(h:aI s ao L K)(T:Tr (Nat×Nat)):aI ⟨s.h,s.nx,s.gr,T⟩ ao L K:=⟨⟨h.mem.bd,h.mem.top,h.mem.own⟩,h.bm,h.nd⟩
def aI.Yr(h:aI s ao L K)(i:Nat){v:HV}{sz:Nat}{ak:aP}(r:L[i]?=some (v,sz,ak)){new:aP}(u:Sz sz new)(h0:new≠ []){bI:Nat}(C:ak.length+new.length<=bI)(t:Nat)(I:∀o a b c,v=.sl o a b c->∃m,aj s.ty o=some (t,m)):
  ∃q s' d,s.append sz bI (some t) v (aD new) new.length=.v q s'/\cellsOf q=some [q]/\aI s' d (L.set i (q,sz,ak++new)) K/\(∀o a b c,q=.sl o a b c->∃m,aj s'.ty o=some (t,m))/\(∀k,k.toNat<s.nx.toNat->aj s'.ty k=aj s.ty k)/\s.nx.toNat<=s'.nx.toNat:=by
 obtain⟨q,s',z,J,Z,M⟩:=h.mem.sx i r u h0 C;obtain⟨A,B,d,D,g2,O⟩:=h.append i r u h0 C;rw[z]at D;obtain⟨rfl,rfl⟩:q=A/\s'=B:=by cases D;exact⟨rfl,rfl⟩
 rw[mL (h.mem.own i _ _ _ r).gZ h0 u]at z;obtain⟨T,P,⟨a,b,c,V⟩,X,Y⟩:=FL (t:=t) z (by simpa using h0) I;refine⟨q,_,d,P,J,O.ty T,λo a' b' c' E=>?_,λk hk=>?_,M.1⟩
 .rw[V]at E;cases E;exact⟨0,X⟩
 exact Y k (λe=>by subst e;omega)
end
def uC(n:Nat):ai:=[.int .u8 n]
def vY:∀l:az,aD (l.map uC)=fO l
 |[]=>rfl
 |n::l=>by rw[bX,cj,vY l];rfl
def yL:∀l:az,(∀n∈l,n<256)->bytesOf (fO l)=some l
 |[],_=>rfl
 |n::l,h=>by show(bif Nat.blt n 256 then(match bytesOf (fO l)with|some l=>some (n::l)|none=>none)else none)=_;rw[yL l (λm b=>h m (by simp[b])),ck.2 (h n (by simp))];rfl
@[simp]def Ys{e:En}{s:HS}{t:Nat}{a b:HV}:dA (.alb t [a,b]) e s=.v (.ptr s.nx 0) {h:=av (some (.cells (cP [a,b]) 0 2 s.nx)) s.nx s.h,nx:=s.nx.succ,gr:=av (some [s.nx]) s.nx s.gr,ty:=av (some (t,2)) s.nx s.ty}:=rfl
def Yt(bI:Nat)(c:bL)(x y:bS)(s:HS):cX:=match x,y with
  |some a,some b=>bif gZ a then(match b with
   |.str l=>bif Nat.beq (aM l) 0 then .v a s else s.append 1 bI c a (fO l) (aM l)
   |_=>.bad)else .bad
  |_,_=>.bad
@[simp]def aan{e:En}{s:HS}{bI:Nat}{b:bL}{x y:X}:dA (.aps bI b x y) e s=Yt bI b (bw x e) (bw y e) s:=rfl
def Yu{s:HS}{o:Ky}(h:aj s.ty o=some (166,2))(b:s.cell o 0=some (.ptr o 0)):R (.call 113 [.ptr o 0] s)=.val .undef s:=by refine dm ?_ trivial;show ur LU [.ptr o 0] s=_;unfold ur;simp only[h,b];rw[(Ky.beq_iff o o).2 rfl];rfl
def Yv{s s':HS}{o:Ky}(h:aj s.ty o=some (166,2))(b:s.cell o 0=some .dE)(c:s.store o 0 [.ptr o 0]=some s'):R (.call 113 [.ptr o 0] s)=.val .undef s':=by refine dm ?_ trivial;show ur LU [.ptr o 0] s=_;unfold ur;simp only[h,b,c];rfl
def afG(n:Int)(h:gq n)(s:HS):R (.call 201 [iV n,iV 10] s)=.val (.str (itoa n)) s:=by refine dm ?_ trivial;show wh [iV n,iV 10] s=_;unfold gq at h;cases n with|ofNat n=>show(bif Nat.blt n 9223372036854775808&&Nat.beq 10 10 then Out.val (.str (dT 25 n)) s else .bad 25)=_;rw[ck.2 (by simp only[ns]at h;omega)];rfl|negSucc n=>show(bif Nat.blt n 9223372036854775808&&Nat.beq 10 10 then Out.val (.str (45::dT 25 (Nat.succ n))) s else .bad 25)=_;rw[ck.2 (by omega)];rfl
def afH(n:Int)(h:gq n)(s:HS):R (.call 193 [iV n] s)=.val (.str (itoa n)) s:=by refine aeq ?_;have:=afG n h;simp[U.Ww,this,aa]
def Yw(n:Int)(h:gq n)(s:HS):R (.call 185 [iV n] s)=.val (.str (itoa n)) s:=by refine ael ?_;have:=afH n h;simp[U.Wr,this,aa]
def afI(b:Bool)(s:HS):R (.call 192 [.bool b] s)=.val (.str (sF b)) s:=by
 refine aep ?_;have c:∀s,R (.call 200 [.bool b] s)=.val (.str (sF b)) s:=λs=>by refine aev ?_;cases b<;>simp[U.WA,aa,sF]
 simp[U.Wv,c,aa]
structure lA(s:HS)(o:Ky)(p v:HV):Prop where
 ty:aj s.ty o=some (166,2)
 pp:p=.dE∨p=.ptr o 0
 tv:∀o' a b c,v=.sl o' a b c->∃m,aj s.ty o'=some (5,m)
section
variable{s:HS}{ao:aW}{L:cq}{K:de}
def aI.MX(h:aI s ao L K){a:Nat}{o:Ky}{c:ai}(b:K[a]?=some (o,c))(k:Nat)(q:k<c.length){x:HV}(r:cellsOf x=some [x]):∃s',qh 1 (some (.ptr o k)) (some x) s=.v .undef s'/\aI s' ao L (K.set a (o,c.set k x))/\s'.ty=s.ty/\s'.nx=s.nx:=by obtain⟨s',t,u,d,z⟩:=(h.bm a o c b).1.set k q x r;exact⟨s',t,h.cell b u d,d.2.1,z⟩
def SG{a:Nat}{o:Ky}{p v:HV}(d:aI s ao L K)(k:K[a]?=some (o,[p,v]))(q:lA s o p v):∃s',R (.call 113 [.ptr o 0] s)=.val .undef s'/\aI s' ao L (K.set a (o,[.ptr o 0,v]))/\s'.ty=s.ty/\s'.nx=s.nx:=by
 have z:=(d.bm a o _ k).1.1;have c:s.cell o 0=some p:=by rw[BG,z];simp
 rcases q.pp with rfl|rfl
 .obtain⟨s',b,A,B,C⟩:=d.MX k 0 (by simp) (x:=.ptr o 0) rfl;rw[kD]at b;have r:s.store o 0 [.ptr o 0]=some s':=by
   cases u:s.store o 0 [.ptr o 0]with
   |none=>rw[show cellsOf (.ptr o 0)=some [HV.ptr o 0] from rfl]at b;simp only[dP,dB,bp,u]at b;cases b
   |some s2=>rw[show cellsOf (.ptr o 0)=some [HV.ptr o 0] from rfl]at b;simp only[dP,dB,bp,u]at b;cases b;rfl
  exact⟨s',Yv q.ty c r,A,B,C⟩
 refine⟨s,Yu q.ty c,?_,rfl,rfl⟩;have t:=(aU.1 k);rw[<-t.2,yD];exact d
def Ke{i:Nat}{v:HV}{l:az}(u:aI s ao L K)(z:L[i]?=some (v,1,l.map uC))(B:∀o a b c,v=.sl o a b c->∃m,aj s.ty o=some (5,m))(t:az)(D:l.length+t.length<=140737488355328):
  ∃q s' d,Yt 140737488355328 (some 5) (some v) (some (.str t)) s=.v q s'/\cellsOf q=some [q]/\aI s' d (L.set i (q,1,(l++t).map uC)) K/\(∀o a b c,q=.sl o a b c->∃m,aj s'.ty o=some (5,m))/\(∀k,k.toNat<s.nx.toNat->aj s'.ty k=aj s.ty k)/\s.nx.toNat<=s'.nx.toNat:=by
 have r:=(u.mem.own i _ _ _ z).gZ;cases t with
 |nil=>
  refine⟨v,s,ao,?_,(u.mem.own i _ _ _ z).one,?_,B,λ_ _=>rfl,aV _⟩
  .show(bif gZ v then(bif Nat.beq (aM ([]:az)) 0 then cX.v v s else _)else .bad)=_;rw[r];rfl
  have A:=(aU.1 z);rw[qE,<-A.2,yD];exact u
 |cons b t=>obtain⟨q,s',d,C,E,I,J,M,O⟩:=u.Yr i z (new:=(b::t).map uC) (Sz.map (f:=uC) (λx=>rfl) _) (by simp) (bI:=140737488355328) (by simpa using D) 5 B;refine⟨q,s',d,?_,E,by rw[eU];exact I,J,M,O⟩;show(bif gZ v then(bif Nat.beq (aM (b::t)) 0 then cX.v v s else s.append 1 140737488355328 (some 5) v (fO (b::t)) (aM (b::t)))else .bad)=_;rw[r];show s.append 1 140737488355328 (some 5) v (fO (b::t)) (aM (b::t))=_;rw[cC];rw[vY,bz]at C;exact C
def Yx{a i:Nat}{o:Ky}{p v:HV}{l:az}(J:aI s ao L K)(A:K[a]?=some (o,[p,v]))(X:L[i]?=some (v,1,l.map uC))(B:lA s o p v)(t:az)(Y:l.length+t.length<=140737488355328):
  ∃c s' d,R (.call 174 [.ptr o 0,.str t] s)=.val (.cO [iV t.length,.fU]) s'/\aI s' d (L.set i (c,1,(l++t).map uC)) (K.set a (o,[.ptr o 0,c]))/\lA s' o (.ptr o 0) c:=by
 obtain⟨s1,Z,k,M,n1⟩:=SG J A B;have C:=(aU.1 A).1;have D:=(J.bm a o _ A).1.2.2;have q:(K.set a (o,[.ptr o 0,v]))[a]?=some (o,[.ptr o 0,v]):=by rw[gK C]
 have O:=(k.bm a o _ q).1.1;obtain⟨c,s2,u,h2,k2,E,tv,tf,n2⟩:=Ke k X (by rw[M];exact B.tv) t Y;obtain⟨s3,h3,b,P,n3⟩:=E.MX q 1 (by simp) k2;rw[B2]at b;simp only[bJ,aO]at b;simp only[aB,aC,bn,Nat.reduceAdd]at O;have I:∃z,ev R U.Fh (bc [.ptr o 0,.str t] 0) s=.code .ret z s3/\look z 4=some (iV t.length)/\look z 5=some .fU:=by generalize V:ev R U.Fh (bc [.ptr o 0,.str t] 0) s=r;simp[U.Fh,Z,O,h2,h3]at V;subst V;exact⟨_,rfl,by simp⟩
 obtain⟨z,I,h4,h5⟩:=I;refine⟨c,s3,u,Xx rfl ⟨.ret,_,s3,I,.inr rfl,by simp[h4,h5]⟩,b,⟨?_,.inr rfl,by rw[P];exact tv⟩⟩;rw[P,tf o (by rw[n1];exact D),M];exact B.ty
def SH{a i:Nat}{o:Ky}{p v:HV}{l:az}(M:aI s ao L K)(z:K[a]?=some (o,[p,v]))(O:L[i]?=some (v,1,l.map uC))(A:lA s o p v)(b:Nat)(Z:l.length+1<=140737488355328):
  ∃k s' q,R (.call 87 [.ptr o 0,.int .u8 b] s)=.val .fU s'/\aI s' q (L.set i (k,1,(l++[b]).map uC)) (K.set a (o,[.ptr o 0,k]))/\lA s' o (.ptr o 0) k:=by
 obtain⟨s1,h1,c,P,n1⟩:=SG M z A;have B:=(aU.1 z).1;have C:=(M.bm a o _ z).1.2.2;have t:(K.set a (o,[.ptr o 0,v]))[a]?=some (o,[.ptr o 0,v]):=by rw[gK B]
 have V:=(c.bm a o _ t).1.1;obtain⟨k,s2,u,h2,k2,D,tv,tf,n2⟩:=c.Yr i O (new:=[uC b]) (Sz.cons rfl Sz.nil) (by simp) (bI:=140737488355328) (by simpa using Z) 5 (by rw[P];exact A.tv);have E:j0 1 140737488355328 (some 5) (some v) (some (.psl [[.int .u8 b]])) s1=.v k s2:=by rw[mL (sz:=1) (ak:=[[HV.int .u8 b]]) (c.mem.own i _ _ _ O).gZ (by simp) (Sz.cons rfl Sz.nil)];exact h2
 obtain⟨s3,h3,d,X,n3⟩:=D.MX t 1 (by simp) k2;rw[B2]at d;simp only[bJ,aO]at d;simp only[aB,aC,bn,Nat.reduceAdd]at V;have I:∃J,ev R U.LW (bc [.ptr o 0,.int .u8 b] 0) s=.code .ret J s3/\look J 4=some .fU:=by generalize Y:ev R U.LW (bc [.ptr o 0,.int .u8 b] 0) s=r;simp[U.LW,h1,V,E,h3]at Y;subst Y;exact⟨_,rfl,by simp⟩
 obtain⟨J,I,h4⟩:=I;refine⟨k,s3,u,ac8 rfl ⟨.ret,_,s3,I,.inr rfl,by simp[h4]⟩,by rw[eU];exact d,⟨?_,.inr rfl,by rw[X];exact tv⟩⟩;rw[X,tf o (by rw[n1];exact C),P];exact A.ty
end
def Yy(k:IntKind)(v:bS)(s:HS):cX:=bR v (λv=>v.asInt (λ_ n=>.v (.int k (bT k n)) s) .bad) .bad
@[simp]def aao{e:En}{s:HS}{k:IntKind}{x:X}:dA (.cnv k x) e s=Yy k (bw x e) s:=rfl
@[simp]def Yz{s:HS}{k b:IntKind}{n:Int}:Yy k (some (.int b n)) s=.v (.int k (bT k n)) s:=rfl
def mZ:∀l:bb,(fh l).length<=27*l.length
 |[]=>by simp[fh]
 |a::l=>by
  have c:=mZ l;have d:=yK a;have b:(fh (a::l)).length=1+(itoa a).length+(fh l).length:=by show(32::itoa a++fh l).length=_;simp;omega
  rw[b,aB];omega
def FM(l:bb)(a:Int):fh (l++[a])=fh l++32::itoa a:=by simp[fh]
def Kf(l:bb):∀n∈fh l,n<256:=by
 intro n b;obtain⟨a,_,b⟩:=qF.1 b;rcases bk.1 b with rfl|b
 .omega
 cases a with
 |ofNat k=>have:=jw _ _ _ b;omega
 |negSucc k=>
  rcases bk.1 b with rfl|b
  .omega
  have:=jw _ _ _ b;omega
def MY(x:Fa)(cls:bb)(p:Nat):∀n∈eZ x cls p,n<256:=by
 intro n c;unfold eZ at c;rw[kR]at c;rcases l5.1 c with c|c
 .exact(show∀b,∀n∈sF b,n<256 by intro b;cases b<;>decide) _ n c
 exact Kf _ n c
section
variable{s:HS}{ao:aW}{L:cq}{K:de}
def aI.DI(h:aI s ao L K){sz:Nat}{t:aP}(d:Sz sz t):∃b,aI {h:=av (some (.cells (cP (aD t)) 0 (aD t).length s.nx)) s.nx s.h,nx:=s.nx.succ,gr:=av (some [s.nx]) s.nx s.gr,ty:=s.ty} b (L++[(.sl s.nx 0 t.length sz,sz,t)]) K:=by
 have q:=Ky.aS s.nx;refine h.join (cV.alloc _ _) (F:=λk=>k=s.nx) ⟨d,λk c=>by subst c;simp only;omega,.inr ⟨s.nx,cP (aD t),(aD t).length,s.nx,[],rfl,?_,by rw[ct d];exact aV _,by simp,?_,by simp,by simp,rfl⟩⟩ (λk c=>by subst c;exact aV _)
 .simp only;rw[af,au rfl]
 simp only;rw[af,au rfl]
def aI.Kg{k:Ky×List HV}(h:aI s ao L (k::K)):aI s ao L K:=
 ⟨h.mem,λa o c q=>h.bm (a+1) o c q,λa b o c d q r=>by have:=h.nd (a+1) (b+1) o c d q r;omega⟩
def aI.pop{x:tO}(h:aI s ao (L++[x]) K):∃d,aI s d L K:=by
 classical
 refine⟨λk=>if ao k=some L.length then none else ao k,⟨λk i b=>?_,λk i b=>?_,λi v sz ak t=>?_⟩,λa o c u=>⟨(h.bm a o c u).1,by rw[(h.bm a o c u).2];simp⟩,h.nd⟩
 .split at b
  .cases b
  exact h.mem.bd k i b
 .split at b
  .cases b
  rename_i q;have:=h.mem.top k i b;simp at this;have:i≠L.length:=λe=>q (by rw[b,e])
  omega
 have r:=(aU.1 t).1;have z:=h.mem.own i v sz ak (by rw[dD r];exact t);have:(λk=>(if ao k=some L.length then none else ao k)=some i)=λk=>ao k=some i:=by
  funext k
  by_cases b:ao k=some L.length
  .rw[au b,b];simp;omega
  rw[ar b]
 rw[this];exact z
def YA{a i:Nat}{o:Ky}{p v:HV}{l:az}(q:aI s ao L K)(z:K[a]?=some (o,[p,v]))(A:L[i]?=some (v,1,l.map uC))(B:lA s o p v)(h0:l≠ [])(C:l.length<=4611686018427387904)(D:∀n∈l,n<256):
  ∃s',R (.call 88 [.ptr o 0] s)=.val (.str l) s':=by
 have E:=(q.bm a o _ z).1.1;have k:=q.mem.own i _ _ _ A;obtain⟨r,rfl⟩:=k.gP (by intro h;exact h0 (FJ.1 h));obtain⟨m,I⟩:=B.tv _ _ _ _ rfl;have b:=k.cells.2;rcases k.2.2 with⟨h,_⟩|⟨P,t,J,g,c,M,u,V,X,O,_⟩
 .cases h
 cases M;refine⟨{h:=fA s.h (r::c),nx:=s.nx,gr:=s.gr,ty:=s.ty},dm ?_ trivial⟩;show mc LU [.ptr o 0] s=_;unfold mc;have d:s.load o 1 none=some (.sl r 0 (l.map uC).length 1):=by show s.cell o 1=_;rw[BG,E];simp
 have hlen:0<l.length:=ym.2 h0;rw[bz]at d b;rw[jl,vY,u]at b;simp only[d,I,gI,b,yL l D,u,O];rw[show Nat.beq 5 LU.It=true from rfl,ck.2 hlen,show Nat.ble l.length 4611686018427387904=true from zJ C];rfl
end
def YB{sG:bb}(h5:sG.length=5)(P:∀n∈sG,gq n){l:az}(hl:l.length<=1000000){e:En}{s:HS}{o:Out}{b o9 o47:Ky}{B:ai}{pp v v1 v2 v3 v23 v24 v25:HV}{ao:aW}
  (c:bB e [(1,v1),(2,v2),(3,v3),(7,.ptr b 0),(23,v23),(24,v24),(25,v25),(47,.sl o47 0 5 1),(48,iV 5),(49,iV 0)])
  (d:aI s ao [(v,1,l.map uC),(.sl o47 0 5 1,1,sG.map iC)] [(o9,B),(b,[pp,v])])(q:lA s b pp v)(ho:bO R (.loop U.xT) e s=o):
  ∃(e':En) (s':HS) (ao:aW) (pp v:HV),o=.code (.exit 2) e' s'/\bB e' [(1,v1),(2,v2),(3,v3),(7,.ptr b 0),(23,v23),(24,v24),(25,v25)]/\
   aI s' ao [(v,1,(l++fh sG).map uC),(.sl o47 0 5 1,1,sG.map iC)] [(o9,B),(b,[pp,v])]/\lA s' b pp v:=by
 revert o;show∀o,_;refine ajX 5
  (λj e s=>∃(ao:aW) (pp v:HV),bB e [(1,v1),(2,v2),(3,v3),(7,.ptr b 0),(23,v23),(24,v24),(25,v25),(47,.sl o47 0 5 1),(48,iV 5),(49,iV j)]/\
   aI s ao [(v,1,(l++fh (sG.take j)).map uC),(.sl o47 0 5 1,1,sG.map iC)] [(o9,B),(b,[pp,v])]/\lA s b pp v)
  0 (by omega) ⟨ao,pp,v,c,by simpa[fh]using d,q⟩ ?_ ?_
 .rintro j e s r O ⟨ao,pp,v,c,d,q⟩ t
  have C:(j:Int)<5:=by omega
  have k:j<sG.length:=by omega
  have D:=aX k;have V:=d.mem.own 1 _ _ _ rfl;have X:=vT V D;have Y:=P _ (cb k);have u:=Yw _ Y;have E:=mZ (sG.take j);have Z:=yK sG[j];rw[od]at E;obtain⟨va,s1,c1,I,z,J⟩:=SH (a:=1) (i:=0) d rfl rfl q 32 (by rw[bZ];omega);simp only[aO,bJ]at z;have I:R (.call 87 [.ptr b 0,.int .u8 32] s)=.val .fU s1:=I;obtain⟨vb,s2,c2,h2,A,M⟩:=Yx (a:=1) (i:=0) z rfl rfl J (itoa sG[j]) (by simp only[bZ,aB,aC];omega);simp only[aO,bJ]at A;have hw:=br (n:=5) O (by omega);simp only[ab,ae]at c;simp[U.xT,c,O,C,X,I,u,h2,hw]at t;subst t;refine .inl ⟨_,_,rfl,c2,_,vb,by simp[c],?_,M⟩;rw[eW k,FM];simpa using A
 rintro e s r ⟨ao,pp,v,c,d,q⟩ t
 simp only[ab,ae]at c;simp[U.xT,c]at t;subst t;rw[fD (by omega)]at d;exact⟨by simp,_,_,ao,pp,v,rfl,by simp[c],d,q⟩
def YC{x:Fa}(hx:bA x)(hs:FK x){cls:bb}(hj:cls.length=x.nx.length)(h1:∀c∈cls,gq c){p:Nat}(Z:p<x.nx.length){e:En}{s:HS}{o:Out}{b:Ky}{pp v:HV}{ao:aW}
  (u:bB e [(1,iV p),(2,.psl (cls.map iC)),(3,.aw x.c),(7,.ptr b 0),(23,.psl (x.nx[p].map Eg.c)),(24,iV x.nx[p].length),(25,iV 0)])
  (M:aI s ao [(v,1,(sF (x.fi.getD p false)).map uC)] [(b,[pp,v])])(B:lA s b pp v)(ho:bO R (.loop U.xU) e s=o):
  ∃(e':En) (s':HS) (ao:aW) (pp v:HV),o=.code (.exit 0) e' s'/\bB e' [(7,.ptr b 0)]/\
   aI s' ao [(v,1,(eZ x cls p).map uC)] [(b,[pp,v])]/\lA s' b pp v:=by
 have hl:=hx.row Z;have hq:(sF (x.fi.getD p false)).length<=5:=by cases x.fi.getD p false<;>decide
 have hlen:∀k,k<=x.nx[p].length->((x.nx[p].take k).flatMap (eP cls)).length=5*k:=by
  intro k
  induction k with|zero=>intro _;simp|succ k ih=>intro O;rw[eW (show k<x.nx[p].length by omega),uL,bZ,ih (by omega)];simp[eP];omega
 revert o;show∀o,_;refine ajX x.nx[p].length
  (λk e s=>∃(ao:aW) (pp v:HV),bB e [(1,iV p),(2,.psl (cls.map iC)),(3,.aw x.c),(7,.ptr b 0),(23,.psl (x.nx[p].map Eg.c)),(24,iV x.nx[p].length),(25,iV k)]/\
   aI s ao [(v,1,(sF (x.fi.getD p false)++fh ((x.nx[p].take k).flatMap (eP cls))).map uC)] [(b,[pp,v])]/\lA s b pp v)
  0 (by omega) ⟨ao,pp,v,u,by simpa[fh]using M,B⟩ ?_ ?_
 .rintro k e s r O ⟨ao,pp,v,u,M,B⟩ C
  have h2:(k:Int)<x.nx[p].length:=by omega
  have h3:=aX O;have ht:=hx.to _ (cb Z) _ (cb O);obtain⟨q1,q2,q3,q4⟩:=hs _ (cb Z) _ (cb O);have h4:(x.nx[p].map Eg.c)[k]?=some (x.nx[p][k]).c:=by rw[fV,h3];rfl
  generalize he:x.nx[p][k]=ed at*;have h5:=mZ ((x.nx[p].take k).flatMap (eP cls));rw[hlen k (by omega)]at h5;have d:ed.to<cls.length:=by omega
  have hg:(ed.to:Int)<cls.length:=by omega
  have hy:=aX d;have h6:bT .i64 ed.m.kind=ed.m.kind:=cx (by omega) (by omega);have D:=M.cL ed.c;have E:=(D.bm 0 _ _ rfl).1.1;have z:lA {h:=av (some (.cells (cP ed.c) 0 ed.c.length s.nx)) s.nx s.h,nx:=s.nx.succ,gr:=av (some [s.nx]) s.nx s.gr,ty:=s.ty} b pp v:=⟨B.ty,B.pp,B.tv⟩;generalize P:HS.mk _ _ _ _=A at D E z;obtain⟨c2,q⟩:=D.DI (sz:=1) (t:=(eP cls ed).map iC) (Sz.map (f:=iC) (λ_=>rfl) _);have I:=(q.bm 0 _ _ rfl).1.1;have h7:aD ((eP cls ed).map iC)=[iV ed.m.id,iV ed.m.arg,iV ed.m.kind,iV ed.m.n,iV cls[ed.to]]:=by simp only[eP,bX,lO,cj,gS,getD_at d];rfl
  rw[h7]at q I;have V:lA {h:=av (some (.cells (cP [iV ed.m.id,iV ed.m.arg,iV ed.m.kind,iV ed.m.n,iV cls[ed.to]]) 0 [iV ed.m.id,iV ed.m.arg,iV ed.m.kind,iV ed.m.n,iV cls[ed.to]].length A.nx)) A.nx A.h,nx:=A.nx.succ,gr:=av (some [A.nx]) A.nx A.gr,ty:=A.ty} b pp v:=⟨z.ty,z.pp,z.tv⟩;generalize X:HS.mk _ _ _ _=S2 at q I V;simp only[bo,bq]at q;simp only[Eg.c,aB,aC,bn,Nat.reduceAdd,iV]at E I P X h4;simp only[ab,ae]at u;simp[U.xU,u,O,h2,he,P,E,aq,aA,d,h6,X]at C;generalize ho:bO R (.loop U.xT) _ _=o at C;have h8:∀n∈eP cls ed,gq n:=by
   have Y:gq ed.m.kind:=by unfold gq;omega
   intro n hn;simp only[eP,bk,J8,or_false,getD_at d]at hn;rcases hn with rfl|rfl|rfl|rfl|rfl
   .exact q1
   .exact q2
   .exact Y
   .exact q4
   exact h1 _ (cb d)
  obtain⟨e2,s3,c3,h9,v3,rfl,J,ha,hb⟩:=YB (sG:=eP cls ed) rfl h8 (l:=sF (x.fi.getD p false)++fh ((x.nx[p].take k).flatMap (eP cls))) (o9:=s.nx) (o47:=A.nx) (v1:=iV p) (v2:=.psl (cls.map iC)) (v3:=.aw x.c) (v23:=.psl (x.nx[p].map Eg.c)) (v24:=iV x.nx[p].length) (v25:=iV k) (by rw[bZ];omega) (by simp[u]) (by simpa[eP]using q) V ho;clear ho;have hw:=br (n:=6000) (show k<6000 by omega) (by omega);simp only[ab,ae]at J;simp[J,hw]at C;subst C;obtain⟨c4,hd⟩:=aI.pop (L:=[(v3,1,_)]) ha;refine .inl ⟨_,_,rfl,c4,h9,v3,by simp[J],?_,hb⟩;have hf:=hd.Kg;rw[eW O,uL,he];simpa[fh,uL]using hf
 rintro e s r ⟨ao,pp,v,u,M,B⟩ C
 simp only[ab,ae]at u;simp[U.xU,u]at C;subst C;refine⟨by simp,_,_,ao,pp,v,rfl,by simp[u],?_,B⟩;unfold eZ;rw[kR,getD_at Z];rw[mP]at M;exact M
def YD{x:Fa}(z:bA x)(X:FK x){cls:bb}(A:cls.length=x.nx.length)(B:∀c∈cls,gq c){p:Nat}(u:p<x.nx.length)(s:HS):R (.call 184 [.agg x.c,iV p,.psl (cls.map iC)] s)=.val (.str (eZ x cls p)) s:=by
 refine aek ?_;have Y:=z.nf;have Z:(p:Int)<x.nx.length:=by omega
 have d:p<x.fi.length:=by omega
 have M:(p:Int)<x.fi.length:=by omega
 have k:=afI (x.fi[p]);have h0:aI s0 (λ_=>none) [] []:=⟨dV.start (by simp),by simp,by simp⟩;have q:=(((h0.cL [.dE,.ah]).ty (av (some (166,2)) s0.nx s0.ty)).push 1);have C:lA (HS.mk (av (some (.cells (cP [.dE,.ah]) 0 2 s0.nx)) s0.nx s0.h) s0.nx.succ (av (some [s0.nx]) s0.nx s0.gr) (av (some (166,2)) s0.nx s0.ty)) s0.nx .dE .ah:=⟨by simp only;rw[af,au rfl],.inl rfl,λo a b c h=>by cases h⟩;simp only[bq,aB,aC,bn,Nat.reduceAdd]at q;obtain⟨v1,s1,c1,O,r,D⟩:=Yx (a:=0) (i:=0) (l:=[]) q rfl rfl C (sF x.fi[p]) (by cases x.fi[p]<;>decide);simp only[aO,bq]at r;simp[U.Wq,u,d,k,O];generalize P:bO R (.loop U.xU) _ _=o;obtain⟨e2,s2,c2,pp,v,rfl,V,E,I⟩:=YC z X A B u (pp:=.ptr s0.nx 0) (v:=v1) (by simp) (by rw[getD_at d];exact r) D P;clear P;have J:eZ x cls p≠ []:=by unfold eZ;cases x.fi.getD p false<;>simp[sF]
 have hlen:(eZ x cls p).length<=4611686018427387904:=by
  have h4:=z.row u;unfold eZ;rw[kR,getD_at u,bZ];have O:=mZ (x.nx[p].flatMap (eP cls));have h2:(x.nx[p].flatMap (eP cls)).length=5*x.nx[p].length:=by
   generalize x.nx[p]=l
   induction l with|nil=>rfl|cons a l ih=>rw[mU,bZ,ih];simp[eP];omega
  have h3:(sF (x.fi.getD p false)).length<=5:=by cases x.fi.getD p false<;>decide
  omega
 obtain⟨s3,t⟩:=YA (a:=0) (i:=0) E rfl rfl I J hlen (MY x cls p);simp only[ab,ae]at V;simp[V,t,aa]
def lB{α:Type}(f:α->HV):List α->Nat->List (HV×HV)
 |[],_=>[]
 |k::r,i=>(f k,iV i)::lB f r (i+1)
def DJ{α:Type}(f:α->HV)(k:α):∀(l:List α) (i:Nat),lB f (l++[k]) i=lB f l i++[(f k,iV (i+l.length:Nat))]
 |[],i=>by simp[lB]
 |x::r,i=>by have h:=DJ f k r (i+1);simp only[bo,lB,aB];rw[h,show i+1+r.length=i+(r.length+1) by omega]
def GN{α:Type}(f:α->HV):∀(l:List α) (i:Nat),(lB f l i).length=l.length
 |[],_=>rfl
 |k::r,i=>by simp[lB,GN f r]
abbrev KS:Kd:=⟨false,[2]⟩
def B3(a b:az):pW KS (.str a) (.str b)=some (decide (a=b)):=by show some (qo a b)=_;rw[sb]
section
variable{α:Type}[DecidableEq α][BEq α][LawfulBEq α]{f:α->HV}{K:Kd}
def Kh(c:∀a b,pW K (f a) (f b)=some (decide (a=b)))(t:α):∀(l:List α) (i n:Nat),∃m,dZ K (lB f l i) (f t) n=some (m,if t∈l then some (iV (i+l.idxOf t:Nat))else none)
 |[],i,n=>⟨n,by simp[lB,dZ]⟩
 |x::r,i,n=>by
  rw[lB,dZ,c];by_cases h:t=x
  .subst h;exact⟨n,by simp⟩
  rw[cK h];obtain⟨m,k⟩:=Kh c t r (i+1) (n+1);refine⟨m,?_⟩;simp only[k,bk,h,false_or];have d:(x==t)=false:=by simpa using λe=>h e.symm
  rw[List.idxOf_cons,d,cond_false]
  split
  .rw[show i+1+r.idxOf t=i+(r.idxOf t+1) by omega]
  rfl
variable{s:HS}{o:Ky}{l:List α}
def lkK(c:∀a b,pW K (f a) (f b)=some (decide (a=b)))(d:∀a,pX K (f a)=true)(h:aj s.h o=some (.mp (lB f l 0)))(t:α):
  XP K (some (.mp o)) (some (f t)) (iV 0) true s=.v (.cO [iV (if t∈l then(l.idxOf t:Nat)else 0:Nat),.bool (decide (t∈l))]) s:=by
 obtain⟨m,k⟩:=Kh c t l 0 0;show(bif pX K (f t)then(match aj s.h o with
   |some (.mp es)=>(match dZ K es (f t) 0 with
    |some (_,some v)=>cX.v (.cO [v,.bool true]) s
    |some (_,none)=>.v (.cO [iV 0,.bool false]) s
    |none=>.bad)
   |_=>.bad)else .bad)=_
 rw[d,h];simp only[k,cond_true];by_cases q:t∈l<;>simp[q]
def muK(c:∀a b,pW K (f a) (f b)=some (decide (a=b)))(d:∀a,pX K (f a)=true)(h:aj s.h o=some (.mp (lB f l 0))){t:α}(k:t ∉ l):
  R6 K (some (.mp o)) (some (f t)) (some (iV l.length)) s=.v .undef (s.aJ o (.mp (lB f (l++[t]) 0))):=by
 obtain⟨m,q⟩:=Kh c t l 0 0;show(bif pX K (f t)then(match aj s.h o with
   |some (.mp es)=>(match dZ K es (f t) 0 with
    |some (i,some _)=>cX.v .undef (s.aJ o (.mp (l9 es i (iV l.length))))
    |some (_,none)=>.v .undef (s.aJ o (.mp (es++[(f t,iV l.length)])))
    |none=>.bad)
   |_=>.bad)else .bad)=_
 rw[d,h];simp only[q,cond_true,k,bD];rw[DJ,bn]
def YE(h:aj s.h o=some (.mp (lB f l 0))):vm 2 (some (.mp o)) s=.v (iV l.length) s:=by show bR (match aj s.h o with|some (.mp es)=>some (aM es)|_=>none) (λn=>cX.v (.int .i64 (.ofNat n)) s) .bad=_;rw[h];simp only[dP,cC,GN];rfl
end
structure cS(s:HS)(ao:aW)(L:cq)(K:de)(o:Ky)(es:List (HV×HV)):Prop where
 k:aI s ao L K
 mp:aj s.h o=some (.mp es)
 lt:o.toNat<s.nx.toNat
 co:ao o=none
section
variable{s:HS}{ao:aW}{L:cq}{K:de}{o:Ky}{es:List (HV×HV)}
def cS.append(h:cS s ao L K o es)(i:Nat){v:HV}{sz:Nat}{ak:aP}(z:L[i]?=some (v,sz,ak)){new:aP}(A:Sz sz new)(h0:new≠ []){bI:Nat}(B:ak.length+new.length<=bI):
  ∃b s' d,j0 sz bI none (some v) (some (.psl new)) s=.v b s'/\cellsOf b=some [b]/\cS s' d (L.set i (b,sz,ak++new)) K o es:=by
 obtain⟨b,s',C,D,E,q⟩:=h.k.mem.sx i z A h0 B;have r:=h.lt;refine⟨b,s',_,C,D,⟨E,λa p c I=>?_,h.k.nd⟩,?_,dJ h.lt q.1,by rw[ar λe=>by subst e;omega];exact h.co⟩
 .obtain⟨t,u⟩:=h.k.bm a p c I;have r:=t.2.2;exact⟨t.frame q (by rw[u];simp),by rw[ar λe=>by subst e;omega];exact u⟩
 rw[q.2.2.1 o h.lt (by show¬ao o=some i;rw[h.co];simp)];exact h.mp
def cS.jQ(h:cS s ao L K o es)(i:Nat){v:HV}{ak:aP}(q:L[i]?=some (v,1,ak))(j:Nat)(r:j<ak.length){x:HV}(t:cellsOf x=some [x]):
  ∃b s',Fp (some v) (some (.int .i64 (j:Int))) 1 s=.v (.ptr b (j*1)) s/\qh 1 (some (.ptr b (j*1))) (some x) s=.v .undef s'/\cS s' ao (L.set i (v,1,ak.set j [x])) K o es:=by
 obtain⟨b,s',u,z,I,C,D⟩:=(h.k.mem.own i v 1 ak q).jQ j r x t;obtain⟨c,d,A,B,E⟩:=h.k.jQ i q j r t;rw[u]at A;obtain rfl:b=c:=by cases A;rfl
 rw[z]at B;obtain rfl:s'=d:=by cases B;rfl
 exact⟨b,s',u,z,E,by rw[C.2.2.1 o h.lt (by show¬ao o=some i;rw[h.co];simp)];exact h.mp,by rw[D];exact h.lt,h.co⟩
def cS.ne(h:cS s ao L K o es){a:Nat}{p:Ky}{c:ai}(b:K[a]?=some (p,c)):o≠p:=by intro e;subst e;have:=(h.k.bm a o c b).1.1;rw[h.mp]at this;cases this
def cS.yB(h:cS s ao L K o es){a:Nat}{p:Ky}{c:ai}(b:K[a]?=some (p,c))(k:Nat)(q:k<c.length){x:HV}(r:cellsOf x=some [x]):∃s',qh 1 (some (.ptr p k)) (some x) s=.v .undef s'/\cS s' ao L (K.set a (p,c.set k x)) o es:=by obtain⟨s',t,u,d,z⟩:=(h.k.bm a p c b).1.set k q x r;exact⟨s',t,h.k.cell b u d,by rw[d.2.2.1 o h.lt (h.ne b)];exact h.mp,by rw[z];exact h.lt,h.co⟩
def cS.cL(h:cS s ao L K o es)(c:ai):cS {h:=av (some (.cells (cP c) 0 c.length s.nx)) s.nx s.h,nx:=s.nx.succ,gr:=av (some [s.nx]) s.nx s.gr,ty:=s.ty} ao L ((s.nx,c)::K) o es:=by have b:=Ky.aS s.nx;have:=h.lt;refine⟨h.k.cL c,?_,by simp only;omega,h.co⟩;simp only;rw[af,ar λe=>by subst e;omega];exact h.mp
def cS.put(h:cS s ao L K o es)(b:List (HV×HV)):cS (s.aJ o (.mp b)) ao L K o b:=by have q:cV (λk=>k=o) s (s.aJ o (.mp b)):=cV.aJ rfl;refine⟨⟨⟨λk i d=>dJ (h.k.mem.bd k i d) q.1,h.k.mem.top,λi v sz ak t=>(h.k.mem.own i v sz ak t).frame q (λk d e=>?_)⟩,λa p c r=>⟨(h.k.bm a p c r).1.frame q (λe=>h.ne r e.symm),(h.k.bm a p c r).2⟩,h.k.nd⟩,by rw[dW,au rfl],dJ h.lt q.1,h.co⟩;have d:ao k=some i:=d;subst e;rw[h.co]at d;cases d
def aI.mkm(h:aI s ao L K):cS {h:=av (some (.mp [])) s.nx s.h,nx:=s.nx.succ,gr:=s.gr,ty:=s.ty} ao L K s.nx []:=by have b:=Ky.aS s.nx;have c:cV (λ_=>False) s {h:=av (some (.mp [])) s.nx s.h,nx:=s.nx.succ,gr:=s.gr,ty:=s.ty}:=⟨by simp only;omega,rfl,λp d _=>by simp only;rw[af,ar λe=>by subst e;omega],λp d _=>rfl⟩;refine⟨h.frame c,by simp only;rw[af,au rfl],by simp only;omega,?_⟩;cases k:ao s.nx with|none=>rfl|some i=>have:=h.mem.bd _ _ k;omega
def cS.tail{k:Ky×List HV}(h:cS s ao L (k::K) o es):cS s ao L K o es:=⟨h.k.Kg,h.mp,h.lt,h.co⟩
end
def Co(ss:ep)(t:az):ep:=if t∈ss then ss else ss++[t]
def YF{s:HS}{o:Ky}{ss:ep}(k:aj s.h o=some (.mp (lB HV.str ss 0)))(D:ss.length<=1000000)(t:az):
  ∃s',R (.call 183 [.mp o,.str t] s)=.val (iV (ss.idxOf t)) s'/\s'=if t∈ss then s else s.aJ o (.mp (lB HV.str (Co ss t) 0)):=by
 have c:=lkK (K:=KS) B3 (λ_=>rfl) k t;have q:∃u s',ev R U.Jx (bc [.mp o,.str t] 0) s=.code .ret u s'/\look u 4=some (iV (ss.idxOf t))/\s'=if t∈ss then s else s.aJ o (.mp (lB HV.str (Co ss t) 0)):=by
  generalize d:ev R U.Jx (bc [.mp o,.str t] 0) s=r;by_cases b:t∈ss
  .simp only[b,bp,eV,iV]at c;simp[U.Jx,c]at d;subst d;exact⟨_,_,rfl,by simp[b]⟩
  have z:=muK (K:=KS) B3 (λ_=>rfl) k b;have A:=YE k;simp only[b,bD,kY,iV]at c;simp only[iV]at z A;simp[U.Jx,c,z,A]at d;subst d;refine⟨_,_,rfl,?_,by simp[b,Co]⟩;rw[Ki b];simp
 obtain⟨u,s',q,B,C⟩:=q;exact⟨s',aej rfl ⟨.ret,_,s',q,.inr rfl,by simp[B]⟩,C⟩
def FN{n:Int}:cellsOf (iV n)=some [iV n]:=rfl
def GO{s s':HS}{o:Ky}{k:Nat}{n:Int}(h:qh 1 (some (.ptr o k)) (some (iV n)) s=.v .undef s'):kG s (aj s.h o) o k [iV n]=some s':=by
 rw[kD,FN]at h;simp only[dP,dB,bp,lv]at h;cases b:kG s (aj s.h o) o k [iV n]with
 |none=>rw[b]at h;cases h
 |some s2=>rw[b]at h;cases h;rfl
def pQ{s:HS}{a b:az}(h:a.length+b.length<=9223372036854775807):mj false .add (some (.str a)) (some (.str b)) s=.v (.str (a++b)) s:=by show rv s (gW (Nat.ble (Nat.add (aM a) (aM b)) 9223372036854775807) (some (.str (a++b))) none)=_;rw[cC,cC,show Nat.ble (Nat.add a.length b.length) 9223372036854775807=true from zJ h];rfl
def GP{α β γ:Type}{f:α->β}{g:α->γ}:∀{l l':List α},l.map f=l'.map f->(∀a∈l,∀b∈l',f a=f b->g a=g b)->l.map g=l'.map g
 |[],[],_,_=>rfl
 |[],b::l',h,_=>by cases h
 |a::l,[],h,_=>by cases h
 |a::l,b::l',h,c=>by
  rw[bX,bX]at h;injection h with d k
  rw[bX,bX,c a (by simp) b (by simp) d,GP k λx q y r=>c x (by simp[q]) y (by simp[r])]
structure sH(x:Fa)(cls:bb)(P:aG):Prop where
 len:cls.length=x.nx.length
 sm:∀c∈cls,-1<=c/\c<=400
 eq:∀p q:Nat,P p->P q->cls.getD p 0=cls.getD q 0->x.fi.getD p false=x.fi.getD q false/\(x.nx.getD p []).map (λe=>(e.m,cls.getD e.to 0))=(x.nx.getD q []).map (λe=>(e.m,cls.getD e.to 0))
def tx(x:Fa)(b:bb)(p:Nat):az:=itoa (b.getD p 0)++[32]++eZ x b p
def Kj{x:Fa}(t:FK x){b:bb}(k:∀c∈b,gq c){p q:Nat}(h:tx x b p=tx x b q):b.getD p 0=b.getD q 0/\
  x.fi.getD p false=x.fi.getD q false/\(x.nx.getD p []).map (λe=>(e.m,b.getD e.to 0))=(x.nx.getD q []).map (λe=>(e.m,b.getD e.to 0)):=by
 have r:∀p,gq (b.getD p 0):=by intro p;rw[KP];cases h:b[p]?with|none=>unfold gq;simp|some c=>exact k c (cE h)
 unfold tx at h;rw[yt,yt]at h;obtain⟨u,d⟩:=vX (vW _) (vW _) (.inr ⟨_,rfl⟩) (.inr ⟨_,rfl⟩) h;have z:eZ x b p=eZ x b q:=by have d:32::eZ x b p=32::eZ x b q:=d;injection d
 exact⟨DE (r p) (r q) u,DH t k z⟩
structure Lh(T:Nat->az)(n i:Nat)(ss:ep)(fs:az)(nt:bb):Prop where
 len:nt.length=n
 le:ss.length<=i
 fl:fs.length=ss.length
 fb:∀k,(h:k<fs.length)->fs[k]<i/\nt[fs[k]]?=some (k:Int)
 cl:∀j,j<i->∃k:Nat,nt[j]?=some (k:Int)/\ss[k]?=some (T j)
 sm:∀c∈nt,0<=c/\c<=n
def Lh.step{T:Nat->az}{n i:Nat}{ss:ep}{d:az}{A:bb}(h:Lh T n i ss d A)(P:i<n):
  ∃D,Lh T n (i+1) (Co ss (T i)) D (A.set i (ss.idxOf (T i):Nat)):=by
 have I:=h.len;have hle:=h.le;have J:ss.idxOf (T i)<=ss.length:=SI;have u:∀c∈A.set i ((ss.idxOf (T i):Nat):Int),0<=c/\c<=n:=by
  intro c M;rcases yk M with q|q
  .exact h.sm c q
  omega
 have b:∀(v:Int) (k:Nat) (B:k<d.length),d[k]<i+1/\(A.set i v)[d[k]]?=some (k:Int):=by intro v k B;obtain⟨q,t⟩:=h.fb k B;exact⟨by omega,by rw[jm (by omega)];exact t⟩
 unfold Co;by_cases C:T i∈ss
 .rw[au C];refine⟨d,by simp[I],by omega,h.fl,b _,λj O=>?_,u⟩;by_cases r:j=i
  .subst r;refine⟨_,gK (by omega),?_⟩;rw[aX (SJ C),SK]
  obtain⟨k,q,t⟩:=h.cl j (by omega);exact⟨k,by rw[jm (by omega)];exact q,t⟩
 rw[ar C];have hid:ss.idxOf (T i)=ss.length:=Ki C;refine⟨d++[i],by simp[I],by simp;omega,by simp[h.fl],λk B=>?_,λj O=>?_,u⟩
 .by_cases z:k<d.length
  .rw[yy z];exact b _ k z
  have E:k=d.length:=by simp at B;omega
  subst E;rw[FO (aV _)];simp only[kZ,List.getElem_cons_zero];exact⟨by omega,by rw[gK (by omega),hid,h.fl]⟩
 by_cases r:j=i
 .subst r;refine⟨_,gK (by omega),?_⟩;rw[hid,iZ (aV _)];simp
 obtain⟨k,q,t⟩:=h.cl j (by omega);exact⟨k,by rw[jm (by omega)];exact q,by rw[dD (aU.1 t).1];exact t⟩
def Lh.Sd{T:Nat->az}{n:Nat}{ss:ep}{b:az}{c:bb}(h:Lh T n n ss b c):Oe n c b:=
 ⟨h.len,λj d=>by obtain⟨k,q,r⟩:=h.cl j d;exact⟨k,q,by rw[h.fl];exact(aU.1 r).1⟩,h.fb⟩
def Lh.tx{T:Nat->az}{n:Nat}{ss:ep}{q:az}{b:bb}(h:Lh T n n ss q b){i j:Nat}(r:i<n)(t:j<n)(c:b[i]?=b[j]?):T i=T j:=by
 obtain⟨k,u,z⟩:=h.cl i r;obtain⟨A,B,d⟩:=h.cl j t;rw[u,B]at c;have:k=A:=by have:=lr c;omega
 subst this;rw[z]at d;exact lr d
section
variable{x:Fa}
def YG(X:bA x)(hs:FK x){b:bb}(Y:b.length=x.nx.length)(E:∀c∈b,gq c){e:En}{s:HS}{o:Out}{o3 o5 o6:Ky}{v2 v4:HV}{ao:aW}
  (d:bB e [(1,.aw x.c),(2,v2),(3,.sl o3 0 x.nx.length 1),(4,v4),(5,.mp o5),(6,.sl o6 0 x.nx.length 1),(17,iV x.nx.length),(18,iV 0)])
  (u:cS s ao [(.sl o3 0 x.nx.length 1,1,b.map iC),(.sl o6 0 x.nx.length 1,1,(List.replicate x.nx.length (0:Int)).map iC)] [] o5 [])(ho:bO R (.loop U.xN) e s=o):
  ∃(e':En) (s':HS) (ss:ep) (D:az) (q:bb),o=.code (.exit 2) e' s'/\bB e' [(1,.aw x.c),(2,v2),(4,v4),(5,.mp o5),(6,.sl o6 0 x.nx.length 1)]/\
   cS s' ao [(.sl o3 0 x.nx.length 1,1,b.map iC),(.sl o6 0 x.nx.length 1,1,q.map iC)] [] o5 (lB HV.str ss 0)/\Lh (tx x b) x.nx.length x.nx.length ss D q:=by
 have hn:=X.n;revert o;show∀o,_;refine ajX x.nx.length
  (λi e s=>∃(ss:ep) (D:az) (q:bb),bB e [(1,.aw x.c),(2,v2),(3,.sl o3 0 x.nx.length 1),(4,v4),(5,.mp o5),(6,.sl o6 0 x.nx.length 1),(17,iV x.nx.length),(18,iV i)]/\
   cS s ao [(.sl o3 0 x.nx.length 1,1,b.map iC),(.sl o6 0 x.nx.length 1,1,q.map iC)] [] o5 (lB HV.str ss 0)/\Lh (tx x b) x.nx.length i ss D q)
  0 (by omega) ⟨[],[],List.replicate x.nx.length 0,d,u,⟨by simp,by simp,rfl,λk h=>by simp at h,λj h=>by omega,λc hc=>by rw[Aw hc];omega⟩⟩ ?_ ?_
 .rintro i e s r C ⟨ss,D,q,d,u,I⟩ J
  have Z:(i:Int)<x.nx.length:=by omega
  have t:i<b.length:=by omega
  have hq:gq b[i]:=E _ (cb t);have M:=u.k.mem.own 0 _ _ _ rfl;have g1:=vT M (aX t);have z:=Yw _ hq;have A:R (.call 184 [.agg x.c,iV i,.sl o3 0 x.nx.length 1] s)=.val (.str (eZ x b i)) s:=by refine XB (by simp[cI,cm]) (.cons (.data (by simp)) (.cons (.data (by simp)) (.cons ?_ .nil))) (by simp) rfl (λs=>YD X hs Y E C s);exact M.vw (n:=14) (jS _)
  have h9:(eZ x b i).length<=1000000:=by
   have ha:=X.row C;unfold eZ;rw[kR,getD_at C,bZ];have h1:=mZ (x.nx[i].flatMap (eP b));have h2:(x.nx[i].flatMap (eP b)).length=5*x.nx[i].length:=by
    generalize x.nx[i]=l
    induction l with|nil=>rfl|cons a l ih=>rw[mU,bZ,ih];simp[eP];omega
   have h3:(sF (x.fi.getD i false)).length<=5:=by cases x.fi.getD i false<;>decide
   omega
  have hb:=yK b[i];have h4:∀s,mj false .add (some (.str (itoa b[i]))) (some (.str [32])) s=.v (.str (itoa b[i]++[32])) s:=λs=>pQ (by simp;omega)
  have O:∀s,mj false .add (some (.str (itoa b[i]++[32]))) (some (.str (eZ x b i))) s=.v (.str (itoa b[i]++[32]++eZ x b i)) s:=λs=>pQ (by simp;omega)
  have h5:itoa b[i]++[32]++eZ x b i=tx x b i:=by unfold tx;rw[getD_at t]
  rw[h5]at O;obtain⟨s1,B,h6⟩:=YF u.mp (by have:=I.le;omega) (tx x b i);have P:cS s1 ao [(.sl o3 0 x.nx.length 1,1,b.map iC),(.sl o6 0 x.nx.length 1,1,q.map iC)] [] o5 (lB HV.str (Co ss (tx x b i)) 0):=by
   rw[h6];by_cases ht:tx x b i∈ss
   .rw[au ht,Co,au ht];exact u
   rw[ar ht];exact u.put _
  have g2:=vT (P.k.mem.own 0 _ _ _ rfl) (aX t);obtain⟨hd,s2,b1,b2,V⟩:=P.jQ 1 rfl i (by simp[I.len];exact C) (x:=iV (ss.idxOf (tx x b i))) rfl;simp[C]at b1;obtain rfl:=b1;simp only[bJ,aO,jl]at V b2;have hw:=br (n:=400) (show i<400 by omega) (by omega);have b3:=GO b2;obtain⟨h7,h8⟩:=I.step C;simp only[ab,ae]at d;simp only[iV,Fa.c]at A;simp only[iV]at B b2 b3 g1 g2 z;simp[U.xN,d,C,Z,g1,z,A,h4,O,B,b3,hw]at J;subst J;refine .inl ⟨_,_,rfl,Co ss (tx x b i),h7,_,by simp[d],?_,h8⟩;rw[mR];exact V
 rintro e s r ⟨ss,D,q,d,u,I⟩ J
 simp only[ab,ae]at d;simp[U.xN,d]at J;subst J;exact⟨by simp,_,_,ss,D,q,rfl,by simp[d],u,I⟩
end
section
variable{s:HS}{ao:aW}{L:cq}{K:de}{o:Ky}{es:List (HV×HV)}
def cS.join{s':HS}(h:cS s ao L K o es)(d:cV (λ_=>False) s s'){v:HV}{sz:Nat}{F:bM}{ak:aP}(u:cu s' v sz F ak)(q:∀k,F k->s.nx.toNat<=k.toNat):∃b,cS s' b (L++[(v,sz,ak)]) K o es:=by
 classical
 refine⟨λk=>if F k then some L.length else ao k,⟨h.k.mem.join d u q,λa o c z=>?_,h.k.nd⟩,?_,dJ h.lt d.1,?_⟩
 .obtain⟨t,A⟩:=h.k.bm a o c z;refine⟨t.frame d (λh=>h),?_⟩;have:¬F o:=λr=>by have:=q o r;have:=t.2.2;omega
  simp only[this,bD];exact A
 .rw[d.2.2.1 o h.lt (λh=>h)];exact h.mp
 have:¬F o:=λr=>by have:=q o r;have:=h.lt;omega
 simp only[this,bD];exact h.co
end
def afJ(x:Fa)(P:bA x)(hs:FK x):∃cls,(sH x cls λp=>p<x.nx.length)/\gy U.f200 R [.agg x.c]=true/\∀s,R (.call 167 [.agg x.c] s)=.val (.psl (cls.map iC)) s:=by
 have hn:=P.n;have V:=P.pos;generalize u:bO R U.Q7 (bc [.agg x.c] 0) s0=r
 suffices h:∃cls,(sH x cls λp=>p<x.nx.length)/\pF [.tmp 2] r=some (.psl (cls.map iC))/\UP [.tmp 2] r=true by obtain⟨cls,C,h,hf⟩:=h;rw[<-u]at h hf;exact⟨cls,C,by rw[sC];exact hf,λs=>ad3 h⟩
 have h0:aI s0 (λ_=>none) [] []:=⟨dV.start (by simp),by simp,by simp⟩;obtain⟨s1,m1,ht,hy⟩:=lZ (s:=s0) (n:=x.nx.length) (bI:=17592186044416) (by omega) (.int .i64 0);obtain⟨c1,I⟩:=h0.join hy ht (λk hk=>by subst hk;exact aV _);have hz:List.replicate x.nx.length [HV.int .i64 0]=(List.replicate x.nx.length (0:Int)).map iC:=by simp
 simp only[bq]at I;rw[hz]at I;simp[U.Q7,m1]at u;generalize ho:bO R (.loop U.Fg) _ _=o at u;have hq:∃(e':En) (s':HS) (ao:aW) (o6:Ky) (z:bb),o=.code .ret e' s'/\look e' 2=some (.sl o6 0 x.nx.length 1)/\aI s' ao [(.sl o6 0 x.nx.length 1,1,z.map iC)] []/\(sH x z λp=>p<x.nx.length):=by
  clear u;revert o;refine ajX (x.nx.length+1)
   (λi e s=>∃(ao:aW) (o3:Ky) (cl:bb) (many:Nat),bB e [(1,.aw x.c),(2,.ah),(3,.sl o3 0 x.nx.length 1),(4,iV many)]/\aI s ao [(.sl o3 0 x.nx.length 1,1,cl.map iC)] []/\cl.length=x.nx.length/\(∀c∈cl,0<=c/\c<=x.nx.length)/\
    ((i=0/\many=0)∨(i<=many/\many<=x.nx.length/\∃fs,Oe x.nx.length cl fs/\fs.length=many)))
   0 (by omega) ⟨c1,s0.nx,List.replicate x.nx.length 0,0,by simp,I,by simp,λc X=>by rw[Aw X];omega,.inl ⟨rfl,rfl⟩⟩ ?_ ?_
  .rintro i e s r hi ⟨ao,o3,cl,many,hL,hM,Y,Z,hI⟩ u
   have J:∀c∈cl,gq c:=λc X=>by have:=Z c X;unfold gq;omega
   have h7:=hM.mkm;generalize k0:HS.mk _ _ _ _=S1 at h7;obtain⟨s2,m2,k1,k2⟩:=lZ (s:=S1) (n:=x.nx.length) (bI:=17592186044416) (by omega) (.int .i64 0);obtain⟨c3,M⟩:=h7.join k2 k1 (λk hk=>by subst hk;exact aV _);simp only[bo,bq]at M;rw[hz]at M;simp only[ab,ae]at hL;simp[U.Fg,hL,k0,m2]at u;generalize ho:bO R (.loop U.xN) _ _=o at u;obtain⟨e4,s4,ss,fs,z,rfl,A,h8,d⟩:=YG P hs Y J (o5:=s.nx) (o6:=S1.nx) (o3:=o3) (v2:=.ah) (v4:=iV many) (by simp[hL]) M ho;clear ho;have hlen:=YE h8.mp;simp only[ab,ae]at A;obtain⟨c5,k3⟩:=dV.single (h8.k.mem.own 1 _ _ _ rfl);have h9:aI s4 c5 [(.sl S1.nx 0 x.nx.length 1,1,z.map iC)] []:=⟨k3,by simp,by simp⟩;have D:∀i j:Nat,i<x.nx.length->j<x.nx.length->z[i]?=z[j]?->cl[i]?=cl[j]?:=by intro i j hi hj he;have C:=(Kj hs J (d.tx hi hj he)).1;rw[getD_at (by omega),getD_at (by omega)]at C;rw[aX (by omega),aX (by omega),C]
   have hg:1<=ss.length:=by obtain⟨k,_,B⟩:=d.cl 0 V;have:=(aU.1 B).1;omega
   by_cases hm:ss.length=many
   .have O:(ss.length:Int)=many:=by omega
    simp only[iV]at hlen;simp[A,hlen,O]at u;subst u;rcases hI with⟨_,h0⟩|⟨_,_,k4,hP,hd⟩
    .omega
    obtain⟨_,t⟩:=hP.GF d.Sd D;have t:=t (by rw[d.fl,hm,hd]);refine .inr ⟨by simp,_,_,c5,S1.nx,z,rfl,by simp,h9,d.len,λc X=>by have:=d.sm c X;omega,λp q hp hq he=>?_⟩;have k5:z[p]?=z[q]?:=by have hl:=d.len;rw[getD_at (by omega),getD_at (by omega)]at he;rw[aX (by omega),aX (by omega),he]
    obtain⟨_,B,h3⟩:=Kj hs J (d.tx hp hq k5);refine⟨B,GP h3 λa ha b hb k6=>?_⟩;have k7:=jB P p a ha;have k8:=jB P q b hb;injection k6 with h4 h5
    rw[getD_at (by omega),getD_at (by omega)]at h5;have h6:=t a.to b.to k7 k8 (by rw[aX (by omega),aX (by omega),h5]);rw[h4,lY h6 0]
   have O:¬(ss.length:Int)=many:=by omega
   simp only[iV]at hlen;simp[A,hlen,O]at u;subst u;refine .inl ⟨_,_,rfl,c5,S1.nx,z,ss.length,by simp[A],h9,d.len,d.sm,.inr ⟨?_,d.le,fs,d.Sd,d.fl⟩⟩;rcases hI with⟨C,B⟩|⟨C,B,k4,hP,hd⟩
   .omega
   have:=(hP.GF d.Sd D).1;have:=d.fl;omega
  rintro e s r ⟨ao,o3,cl,many,hL,hM,Y,Z,hI⟩ u
  exfalso;rcases hI with⟨C,_⟩|⟨C,B,_⟩
  .omega
  omega
 obtain⟨e',s',ao,o6,z,rfl,B,hM,hG⟩:=hq;have E:=hM.mem.own 0 _ _ _ rfl;have hv:=E.vw (n:=14) (jS _);simp at u;subst u;refine⟨z,hG,?_,vV (v:=.sl o6 0 x.nx.length 1) (s':=s') (by simp[B]) (sE E (GL z))⟩;simp[B];exact aY hv
def GQ:∀(new a l:ai),new.length<=l.length->Iv (a++l) a.length new=a++new++l.drop new.length
 |[],a,l,_=>by simp
 |v::r,a,[],h=>by simp at h
 |v::r,a,b::l,h=>by
  rw[yg];have d:(a++b::l).set a.length v=(a++[v])++l:=by simp
  have c:=GQ r (a++[v]) l (by simpa using h);rw[d];rw[bZ,dB]at c;rw[c];simp
def il.store{s:HS}{o:Ky}{l:ai}(h:il s o l)(k:Nat)(new:ai)(c:k+new.length<=l.length):∃s',s.store o k new=some s'/\il s' o (Iv l k new)/\cV (λp=>p=o) s s'/\s'.nx=s.nx:=by
 have hlen:(Iv l k new).length=l.length:=by
  clear h c
  induction new generalizing l k with|nil=>rfl|cons v r d=>rw[yg,d,jk]
 refine⟨{h:=av (some (.cells (cP (Iv l k new)) 0 l.length o)) o s.h,nx:=s.nx,gr:=s.gr,ty:=s.ty},?_,⟨by simp only;rw[af,au rfl,hlen],h.2.1,h.2.2⟩,⟨aV _,rfl,λp q b=>by simp only;rw[af,ar b],λp q b=>rfl⟩,rfl⟩;rw[lv,h.1,aq (fN _) c,h.2.1,aA c]
def SL(sz:Nat)(x y:bS)(s:HS):cX:=match x,y with
    |some (.sl o c len d),some (.sl q k b _)=>
      bif !(Nat.beq sz d)then .bad else
      bif Nat.beq (bif Nat.ble len b then len else b) 0 then .v (.int .i64 0) s else
      (match s.bF q k ((bif Nat.ble len b then len else b)*sz)with
       |some l=>(match s.store o c l with|some s'=>.v (.int .i64 (.ofNat (bif Nat.ble len b then len else b))) s'|none=>.bad)
       |none=>.bad)
    |some (.sl o c len d),some (.psl ak)=>
      bif !(Nat.beq sz d)then .bad else
      bif Nat.beq (bif Nat.ble len (aM ak)then len else aM ak) 0 then .v (.int .i64 0) s else bif dk sz ak then
      (match s.store o c (aD (gX (bif Nat.ble len (aM ak)then len else aM ak) ak))with|some s'=>.v (.int .i64 (.ofNat (bif Nat.ble len (aM ak)then len else aM ak))) s'|none=>.bad)else .bad
    |some (.sl ..),some .ah=>.v (.int .i64 0) s
    |some .ah,some .ah=>.v (.int .i64 0) s
    |some .ah,some (.sl ..)=>.v (.int .i64 0) s
    |some .ah,some (.psl _)=>.v (.int .i64 0) s
    |_,_=>.bad
@[simp]def aap{e:En}{s:HS}{sz:Nat}{x y:X}:dA (.cpy sz x y) e s=SL sz (bw x e) (bw y e) s:=rfl
def GR{s s':HS}{o o2:Ky}{bj b len uc c m:Nat}{l:ai}(t:m=min len uc)(h0:m≠0)(k:s.bF o2 b m=some l)(q:s.store o bj l=some s'):
    SL 1 (some (.sl o bj len 1)) (some (.sl o2 b uc c)) s=.v (.int .i64 (m:Int)) s':=by
  have r:(bif Nat.ble len uc then len else uc)=m:=by
    rw[cd];by_cases h:len<=uc
    . rw[dq h,cond_true];omega
    rw[cK h,cond_false];omega
  show(bif !(Nat.beq 1 1)then cX.bad else
      bif Nat.beq (bif Nat.ble len uc then len else uc) 0 then .v (.int .i64 0) s else
      (match s.bF o2 b ((bif Nat.ble len uc then len else uc)*1)with
       |some l=>(match s.store o bj l with|some s'=>.v (.int .i64 (.ofNat (bif Nat.ble len uc then len else uc))) s'|none=>.bad)
       |none=>.bad))=_
  have d:Nat.beq m 0=false:=by rw[cR,cK h0]
  rw[r,jl,d];simp only[k,q];rfl
section
variable{s:HS}{ao:aW}{L:cq}{K:de}
def aI.toL{o:Ky}{c:ai}(h:aI s ao L ((o,c)::K)):∃u,aI s u (L++[(.sl o 0 c.length 1,1,c.map λv=>[v])]) K:=by
 classical
 obtain⟨z,B⟩:=h.bm 0 o c rfl;have C:aD (c.map λv=>[v])=c:=by
  clear h z
  induction c with|nil=>rfl|cons v c I=>rw[bX,cj,I];rfl
 refine⟨λk=>if k=o then some L.length else ao k,⟨λk i q=>?_,λk i q=>?_,λi v sz ak t=>?_⟩,λa p d A=>?_,λa b p d J A M=>by have:=h.nd (a+1) (b+1) p d J A M;omega⟩
 .split at q
  .rename_i r;subst r;exact z.2.2
  exact h.mem.bd k i q
 .rw[bZ,dB]
  split at q
  .cases q;omega
  have:=h.mem.top k i q;omega
 .by_cases D:i<L.length
  .rw[dD D]at t;have:(λk=>(if k=o then some L.length else ao k)=some i)=λk=>ao k=some i:=by
    funext k
    by_cases q:k=o
    .subst q;rw[au rfl,B];simp;omega
    rw[ar q]
   rw[this];exact h.mem.own i v sz ak t
  have E:i=L.length:=by have:=(aU.1 t).1;simp at this;omega
  subst E;rw[iZ (aV _)]at t;simp only[kZ,List.getElem?_cons_zero,bQ,gj]at t;obtain⟨rfl,rfl,rfl⟩:=t;refine⟨Sz.map (f:=λv=>[v]) (λ_=>rfl) _,λk q=>?_,.inr ⟨o,cP c,c.length,o,[],by simp,z.1,by simp,λj X=>?_,z.2.1,by simp,λm O=>?_,?_⟩⟩
  .have q:(if k=o then some L.length else ao k)=some L.length:=q
   split at q
   .rename_i r;subst r;exact z.2.2
   exact h.mem.bd k _ q
  .rw[C,sc]
  .rw[cr.1 O];simp
  simp
 obtain⟨P,V⟩:=h.bm (a+1) p d A;refine⟨P,?_⟩;have:p≠o:=λe=>by subst e;have:=h.nd (a+1) 0 p d c A rfl;omega
 rw[ar this];exact V
def YH:∀n:Nat,n<=24->(bT .u64 (n:Int)=n)/\∀s,R (.call 191 [.int .u64 1,.int .u64 (n:Int)] s)=.val (.cO [.int .u64 0,.int .u64 (n:Int)]) s:=by
 have key:∀n:Nat,run LU U.prog 30 (.call 191 [.int .u64 1,.int .u64 (n:Int)] s0)=.val (.cO [.int .u64 0,.int .u64 (n:Int)]) s0->∀s,R (.call 191 [.int .u64 1,.int .u64 (n:Int)] s)=.val (.cO [.int .u64 0,.int .u64 (n:Int)]) s:=by
  intro n h s;have k:R (.call 191 [.int .u64 1,.int .u64 (n:Int)] s0)=.val (.cO [.int .u64 0,.int .u64 (n:Int)]) s0:=by
   have q:Good (run LU U.prog 30 (.call 191 [.int .u64 1,.int .u64 (n:Int)] s0)):=by rw[h];trivial
   rw[<-h];exact BD q
  have r:=nP k trivial;have c:rF LU 191 [.int .u64 1,.int .u64 (n:Int)] s0 (bG U.prog (eH LU U.prog) 191 [.int .u64 1,.int .u64 (n:Int)] s0)=.val (.cO [.int .u64 0,.int .u64 (n:Int)]) s0:=r;rw[gi (by rfl)]at c;have b:cv U.f226 (eH LU U.prog) [.int .u64 1,.int .u64 (n:Int)] s0=.val (.cO [.int .u64 0,.int .u64 (n:Int)]) s0:=c;unfold cv at b;rw[dU _ (by simp[eo]),cond_true,show dv [HV.int .u64 1,.int .u64 (n:Int)]=true by simp[eo],cond_true]at b;refine dm ?_ trivial;show rF LU 191 [.int .u64 1,.int .u64 (n:Int)] s (bG U.prog (eH LU U.prog) 191 [.int .u64 1,.int .u64 (n:Int)] s)=_;rw[gi (by rfl)];show cv U.f226 (eH LU U.prog) [.int .u64 1,.int .u64 (n:Int)] s=_;unfold cv;rw[dU _ (by simp[eo]),cond_true,show dv [HV.int .u64 1,.int .u64 (n:Int)]=true by simp[eo],cond_true];cases d:kh U.f226 (eH LU U.prog) [.int .u64 1,.int .u64 (n:Int)]with
  |none=>rw[d]at b;cases b
  |some v=>rw[d]at b;cases b;rfl
 intro n t
 match n,t with|0,_=>exact⟨by kernel_rfl,key 0 (by kernel_rfl)⟩|1,_=>exact⟨by kernel_rfl,key 1 (by kernel_rfl)⟩|2,_=>exact⟨by kernel_rfl,key 2 (by kernel_rfl)⟩|3,_=>exact⟨by kernel_rfl,key 3 (by kernel_rfl)⟩|4,_=>exact⟨by kernel_rfl,key 4 (by kernel_rfl)⟩|5,_=>exact⟨by kernel_rfl,key 5 (by kernel_rfl)⟩|6,_=>exact⟨by kernel_rfl,key 6 (by kernel_rfl)⟩|7,_=>exact⟨by kernel_rfl,key 7 (by kernel_rfl)⟩|8,_=>exact⟨by kernel_rfl,key 8 (by kernel_rfl)⟩|9,_=>exact⟨by kernel_rfl,key 9 (by kernel_rfl)⟩|10,_=>exact⟨by kernel_rfl,key 10 (by kernel_rfl)⟩|11,_=>exact⟨by kernel_rfl,key 11 (by kernel_rfl)⟩|12,_=>exact⟨by kernel_rfl,key 12 (by kernel_rfl)⟩|13,_=>exact⟨by kernel_rfl,key 13 (by kernel_rfl)⟩|14,_=>exact⟨by kernel_rfl,key 14 (by kernel_rfl)⟩|15,_=>exact⟨by kernel_rfl,key 15 (by kernel_rfl)⟩|16,_=>exact⟨by kernel_rfl,key 16 (by kernel_rfl)⟩|17,_=>exact⟨by kernel_rfl,key 17 (by kernel_rfl)⟩|18,_=>exact⟨by kernel_rfl,key 18 (by kernel_rfl)⟩|19,_=>exact⟨by kernel_rfl,key 19 (by kernel_rfl)⟩|20,_=>exact⟨by kernel_rfl,key 20 (by kernel_rfl)⟩|21,_=>exact⟨by kernel_rfl,key 21 (by kernel_rfl)⟩|22,_=>exact⟨by kernel_rfl,key 22 (by kernel_rfl)⟩|23,_=>exact⟨by kernel_rfl,key 23 (by kernel_rfl)⟩|24,_=>exact⟨by kernel_rfl,key 24 (by kernel_rfl)⟩|n+25,h=>exact absurd h (by omega)
end
def afK{s:HS}{n bI:Nat}(b:n<=bI)(z:HV):Sm 1 bI [z] (some (.int .i64 (n:Int))) (some (.int .i64 (n:Int))) s=.v (.sl s.nx 0 n 1) {h:=av (some (.cells (cP (List.replicate n z)) 0 (List.replicate n z).length s.nx)) s.nx s.h,nx:=s.nx.succ,gr:=av (some [s.nx]) s.nx s.gr,ty:=s.ty}:=by show(bif Nat.ble n n&&Nat.ble n bI then s.new (mu [z] n) (λo=>.sl o 0 n 1)else .bad)=_;rw[cd,cd,yA];simp[b]
def GS(n k:Nat):ai:=List.replicate k (iV (-1))++List.replicate (n-k) (iV 0)
def vZ{n k:Nat}(h:k<=n):(GS n k).length=n:=by simp[GS];omega
def DL{n k m:Nat}(b:k+m<=n):Iv (GS n k) k (List.replicate m (iV (-1)))=GS n (k+m):=by have:=GQ (List.replicate m (iV (-1))) (List.replicate k (iV (-1))) (List.replicate (n-k) (iV 0)) (by simp;omega);rw[BU]at this;unfold GS;rw[this,BU,List.drop_replicate,List.replicate_append_replicate,show n-k-m=n-(k+m) by omega]
def Ie{s:HS}{o:Ky}{n k m:Nat}(h:il s o (GS n k))(b:m<=k)(c:k<=n):s.bF o 0 m=some (List.replicate m (iV (-1))):=by
 have d:=vZ c;rw[gI,h.1,an (fN _) (by omega) (by omega),List.drop_zero]
 congr 1
 unfold GS;rw[Al (by simpa using b),List.take_replicate,Ez b]
section
variable{s:HS}{ao:aW}{L:cq}{K:de}
def afL(h:aI s ao L K){i:Nat}{I:Ky}(hi:L[i]?=some (.sl I 0 1 1,1,[[iV (-1)]])){n:Nat}(hn:n<=24)(hp:1<=n):
  ∃o s' b,R (.call 181 [.sl I 0 1 1,iV n] s)=.val (.sl o 0 n 1) s'/\aI s' b (L++[(.sl o 0 n 1,1,(List.replicate n (-1:Int)).map iC)]) K:=by
 obtain⟨h5,_⟩:=YH 1 (by omega);obtain⟨h6,J⟩:=YH n hn;have h7:bT .i64 (n:Int)=n:=cx (by omega) (by omega);have u:=h.cL (List.replicate n (.int .i64 0));have hO:=u.mem.own i _ _ _ hi;have A:=(u.bm 0 _ _ rfl).1;have M:=afK (s:=s) (n:=n) (bI:=17592186044416) (by omega) (.int .i64 0);generalize hy:HS.mk _ _ _ _=S1 at u hO A M;have B:il S1 s.nx (GS n 0):=A;have h8:S1.bF I 0 1=some [iV (-1)]:=by rw[gI];exact hO.cells.2
 obtain⟨s2,h9,O,ha,hz⟩:=B.store 0 (List.replicate 1 (iV (-1))) (by rw[vZ (by omega)];simp;omega);rw[DL (by omega),bn]at O;have P:=u.cell (a:=0) rfl O ha;simp only[aO]at P;have t:=GR (s:=S1) (bj:=0) (len:=n) (uc:=1) (c:=1) (m:=1) (by omega) (by omega) h8 h9;have hb:¬(n:Int)<0:=by omega
 have V:¬(9223372036854775807:Int)<n:=by omega
 have hx:(0:Int)<=n:=by omega
 have hd:(n:Int)<=9223372036854775807:=by omega
 have X:bT .u64 1=1:=h5;have t:SL 1 (some (.sl s.nx 0 n 1)) (some (.sl I 0 1 1)) S1=.v (.int .i64 1) s2:=t;have hE:∃C s' b,ev R U.Mq (bc [.sl I 0 1 1,iV n] 0) s=.code .ret C s'/\look C 4=some (.sl s.nx 0 n 1)/\aI s' b L ((s.nx,GS n n)::K):=by
  generalize d:ev R U.Mq (bc [.sl I 0 1 1,iV n] 0) s=r;simp[U.Mq,hb,X,h6,J,V,h7,M,t]at d;generalize ho:ev R (.loop U.xS) _ _=o at d;have hq:∃(C:En) (s':HS) (b:aW),o=.code (.exit 0) C s'/\bB C [(7,.sl s.nx 0 n 1)]/\aI s' b L ((s.nx,GS n n)::K):=by
   clear d;revert o;refine ajY n
    (λj e s'=>∃k,k<=n/\1<=k/\(j+1<=k∨k=n)/\∃b,bB e [(7,.sl s.nx 0 n 1),(8,iV k)]/\aI s' b L ((s.nx,GS n k)::K))
    0 (by omega) ⟨1,hp,aV _,.inl (by omega),ao,by simp,P⟩ ?_ ?_
   .rintro j e s' r hj ⟨k,hk,hf,hg,b,q,z⟩ d
    simp only[ab,ae]at q;by_cases k0:k<n
    .have Y:(k:Int)<n:=by omega
     have hC:=(z.bm 0 _ _ rfl).1;have hl:=Ie hC (m:=min (n-k) k) (by omega) hk;obtain⟨s3,hs,Z,ht,_⟩:=hC.store k (List.replicate (min (n-k) k) (iV (-1))) (by rw[vZ hk];simp;omega);rw[DL (by omega)]at Z;have h1:=z.cell (a:=0) rfl Z ht;simp only[aO]at h1;have t:=GR (s:=s') (bj:=k) (len:=n-k) (uc:=k) (c:=1) (m:=min (n-k) k) rfl (by omega) hl hs;have h2:bT .i64 ((k:Int)+((min (n-k) k:Nat):Int))=(k+min (n-k) k:Nat):=by rw[cx (by omega) (by omega)];omega
     have hle:k<=n:=hk;generalize hm:min (n-k) k=m at*;simp[U.xS,q,Y,hle,t,h2]at d;subst d;exact .inl ⟨_,_,rfl,k+m,by omega,by omega,by omega,b,by simp[q],h1⟩
    have D:k=n:=by omega
    subst D;simp[U.xS,q]at d;subst d;exact .inr ⟨by simp,_,_,b,rfl,by simp[q],z⟩
   rintro e s' r ⟨k,hk,hf,hg,b,q,z⟩ d
   have D:k=n:=by omega
   subst D;simp only[ab,ae]at q;simp[U.xS,q]at d;subst d;exact⟨by simp,_,_,b,rfl,by simp[q],z⟩
  obtain⟨C,s',b,rfl,q,z⟩:=hq;simp only[ab,ae]at q;simp[q]at d;subst d;exact⟨_,s',b,rfl,by simp,z⟩
 obtain⟨C,s',b,hE,h4,z⟩:=hE;obtain⟨h3,E⟩:=z.toL;refine⟨s.nx,s',h3,aei rfl ⟨.ret,_,s',hE,.inr rfl,by simp[h4]⟩,?_⟩;rw[vZ (aV _)]at E;have:(GS n n).map (λv=>[v])=(List.replicate n (-1:Int)).map iC:=by simp[GS]
 rw[this]at E;exact E
end
def DM{α:Type}(l:List α)(i j:Nat)(v d:α)(b:i<l.length):(l.set i v).getD j d=if i=j then v else l.getD j d:=by
 rw[KP,gl,KP];by_cases h:i=j
 .subst h;simp[b]
 simp[h]
def UQ(cls:bb):Nat:=cls.countP λc=>decide (c<0)
def yM(cls b:bb):Prop:=∀(q:Nat) (c:Int),cls[q]?=some c->0<=c->b[q]?=some c
def sI(cls:bb)(q:Nat):Prop:=∃c,cls[q]?=some c/\0<=c
def yM.has{cls b:bb}(h:yM cls b){q:Nat}(k:sI cls q):sI b q:=by obtain⟨c,r,d⟩:=k;exact⟨c,h q c r d,d⟩
structure Kk(x:Fa)(cls:bb)(ss:ep):Prop where
 len:cls.length=x.nx.length
 sm:∀c∈cls,-1<=c/\c<400
 sl:ss.length+UQ cls<=x.nx.length
 ok:∀(q:Nat) (c:Int),cls[q]?=some c->0<=c->(∀e∈x.nx.getD q [],sI cls e.to)/\ss[c.toNat]?=some (eZ x cls q)
def GU{x:Fa}{cls b:bb}(h:yM cls b){q:Nat}(d:∀e∈x.nx.getD q [],sI cls e.to):eZ x b q=eZ x cls q:=by
 unfold eZ
 congr 1
 generalize x.nx.getD q []=l at d
 induction l with
 |nil=>rfl
 |cons e l t=>
  rw[mU,mU,t (λu k=>d u (by simp[k]))];obtain⟨c,r,z⟩:=d e (by simp);have A:=h e.to c r z;have:eP b e=eP cls e:=by unfold eP;rw[KP,A,KP,r]
  rw[this]
def Kl:∀(cls:bb) (p:Nat) (c v:Int),cls[p]?=some c->c<0->0<=v->UQ (cls.set p v)+1=UQ cls
 |[],p,c,v,h,_,_=>by simp at h
 |a::r,0,c,v,h,b,d=>by simp at h;subst h;unfold UQ;rw[aO,pR,pR];simp[b];omega
 |a::r,p+1,c,v,h,b,d=>by have:=Kl r p c v (by simpa using h) b d;unfold UQ at*;rw[bJ,pR,pR];omega
def Kk.fin{x:Fa}(O:bA x){cls:bb}{ss:ep}(h:Kk x cls ss){p:Nat}{c:Int}(D:cls[p]?=some c)(X:c<0)(z:∀e∈x.nx.getD p [],sI cls e.to):
  Kk x (cls.set p (ss.idxOf (eZ x cls p):Nat)) (Co ss (eZ x cls p))/\yM cls (cls.set p (ss.idxOf (eZ x cls p):Nat)):=by
 have hn:=O.n;obtain⟨E,_⟩:=aU.1 D;have Y:=h.sl;have Z:=Kl cls p c (ss.idxOf (eZ x cls p):Nat) D X (by omega);have P:ss.idxOf (eZ x cls p)<=ss.length:=SI;have V:0<x.nx.length:=O.pos;have b:yM cls (cls.set p (ss.idxOf (eZ x cls p):Nat)):=by
  intro q d u B;have r:p≠q:=λe=>by subst e;rw[D]at u;cases u;omega
  rw[jm r];exact u
 have I:∀(k:Nat) (t:az),ss[k]?=some t->(Co ss (eZ x cls p))[k]?=some t:=by
  intro k t J;unfold Co
  split
  .exact J
  rw[dD (aU.1 J).1];exact J
 refine⟨⟨by simp[h.len],λd B=>?_,?_,λq d u B=>?_⟩,b⟩
 .rcases yk B with A|A
  .exact h.sm d A
  have:ss.length<x.nx.length:=by omega
  omega
 .unfold Co
  split
  .omega
  simp;omega
 by_cases r:p=q
 .subst r;rw[gK E]at u;cases u;refine⟨λe M=>b.has (z e M),?_⟩;rw[GU b z,gD];unfold Co;by_cases C:eZ x cls p∈ss
  .rw[au C,aX (SJ C),SK]
  rw[ar C,Ki C,iZ (aV _)];simp
 rw[jm r]at u;obtain⟨A,h2⟩:=h.ok q d u B;exact⟨λe M=>b.has (A e M),by rw[GU b A];exact I _ _ h2⟩
def UR(cls:bb)(lI:cf)(n:Nat):Nat:=(List.range n).countP λq=> !lI.getD q false&&decide (cls.getD q 0<0)
def ud{α:Type}{p q:α->Bool}:∀{l:List α},(∀x∈l,p x=true->q x=true)->l.countP p<=l.countP q
 |[],_=>aV _
 |x::l,h=>by
  have b:=ud (l:=l) (λy c=>h y (by simp[c]));rw[pR,pR];have d:=h x (by simp);cases k:p x
  .simp;omega
  rw[d k];simp;exact b
def AG{α:Type}{p q:α->Bool}:∀{l:List α} {a:α},(∀x∈l,p x=true->q x=true)->a∈l->p a=false->q a=true->l.countP p<l.countP q
 |x::l,a,h,b,d,k=>by
  rw[pR,pR];have r:=h x (by simp);rcases bk.1 b with rfl|b
  .have:=ud (l:=l) (λy c=>h y (by simp[c]));rw[d,k];simp;omega
  have t:=AG (l:=l) (λy c=>h y (by simp[c])) b d k;cases u:p x
  .simp;omega
  rw[r u];simp;exact t
def GV{cls:bb}{lI:cf}{n p:Nat}{c:Int}(k:p<n)(r:lI.length=n)(t:lI[p]?=some false)(u:cls[p]?=some c)(d:c<0):UR cls (lI.set p true) n<UR cls lI n:=by
 refine AG (a:=p) (λq z h=>?_) (fX.2 k) ?_ ?_
 .rw[DM _ _ _ _ _ (by omega)]at h;by_cases b:p=q
  .rw[au b]at h;simp at h
  rw[ar b]at h;exact h
 .rw[DM _ _ _ _ _ (by omega),au rfl];rfl
 rw[KP,t,KP,u];simp[d]
def SM{cls b:bb}{lI:cf}{n:Nat}(z:cls.length=n)(h:yM cls b):UR b lI n<=UR cls lI n:=by
 refine ud λq t c=>?_
 rw[fX]at t;simp only[aL,bY]at c ⊢;refine⟨c.1,A3 λd=>?_⟩;have k:=aX (show q<cls.length by omega);rw[KP,k]at d;simp only[gB]at d;have u:=h q _ k (by omega);have r:=c.2;rw[KP,u]at r;simp only[gB]at r;omega
def cS.get{s:HS}{ao:aW}{L:cq}{K:de}{o:Ky}{es:List (HV×HV)}(h:cS s ao L K o es){p:Ky}{c:ai}(b:(p,c)∈K):aj s.h p=some (.cells (cP c) 0 c.length p):=by obtain⟨a,d⟩:=uG.1 b;exact(h.k.bm a p c d).1.1
def D7(b c d:Ky)(n:Nat)(cls:bb)(lI:cf):cq:=[(.sl b 0 1 1,1,[[iV (-1)]]),(.sl c 0 n 1,1,cls.map iC),(.sl d 0 n 1,1,lI.map bC)]
structure VK(x:Fa)(oc oo om kx kc kl ko kk kv:Ky)(K:de):Prop where
 xx:(kx,x.c)∈K
 cc:(kc,[.sl oc 0 x.nx.length 1])∈K
 o':(ko,[.sl oo 0 x.nx.length 1])∈K
 km:(kk,[.mp om])∈K
 vv:(kv,[.fn 182 [] [.ptr ko 0,.ptr kx 0,.ptr kl 0,.ptr kc 0,.ptr kv 0,.ptr kk 0]])∈K
def VK.cons{x:Fa}{b c d k q r t u z:Ky}{K:de}(h:VK x b c d k q r t u z K)(y:Ky×List HV):VK x b c d k q r t u z (y::K):=
 ⟨cY _ h.xx,cY _ h.cc,cY _ h.o',cY _ h.km,cY _ h.vv⟩
def Km{lI:cf}{p:Nat}(h:lI[p]?=some false):(lI.set p true).set p false=lI:=by obtain⟨c,b⟩:=aU.1 h;rw[B2,<-b,yD]
def YI{x:Fa}(hx:bA x)(hs:FK x){oa P oo om kx kc V ko kk kv:Ky}{ao:aW}:∀(m:Nat) {K:de} {al:Nat} {cls:bb} {lI:cf} {ss:ep} {p:Nat} {s:HS} {c:Int},
  VK x P oo om kx kc V ko kk kv K->K[al]?=some (V,[.bool false])->cS s ao (D7 oa P oo x.nx.length cls lI) K om (lB HV.str ss 0)->Kk x cls ss->lI.length=x.nx.length->p<x.nx.length->lI[p]?=some false->cls[p]?=some c->c<0->
  UR cls lI x.nx.length<=m->
  ∃(s':HS) (t:bb) (z:cf) (u:ep) (b:Bool),R (.call 182 [iV p,.ptr ko 0,.ptr kx 0,.ptr V 0,.ptr kc 0,.ptr kv 0,.ptr kk 0] s)=.val (.cO []) s'/\
   cS s' ao (D7 oa P oo x.nx.length t z) (if b then K.set al (V,[.bool true])else K) om (lB HV.str u 0)/\t.length=x.nx.length/\
   (b=false->z=lI/\Kk x t u/\yM cls t/\sI t p/\∀q:Nat,lI[q]?=some true->t[q]?=cls[q]?)
 |0,K,al,cls,lI,ss,p,s,c,D,hl,hM,hB,ha,X,ho,hc,hd,kj=>by have:=GV X ha ho hc hd;omega
 |m+1,K,al,cls,lI,ss,p,s,c,D,hl,hM,hB,ha,X,ho,hc,hd,kj=>by
  have hn:=hx.n;have kn:=hB;have x3:=hx.row X;have x4:(p:Int)<x.nx.length:=by omega
  have x5:=GV X ha ho hc hd;have x6:=(aU.1 ho).1;have a1:=hM.get D.o';have a2:=hM.get D.xx;obtain⟨x7,s1,b1,b2,hf⟩:=hM.jQ 2 rfl p (by simp;omega) (x:=.bool true) rfl;simp[X]at b1;obtain rfl:=b1;have hf:cS s1 ao (D7 oa P oo x.nx.length cls (lI.set p true)) K om (lB HV.str ss 0):=by have:=hf;unfold D7;rw[mR];exact this
  simp only[jl]at b2;have a3:=hf.get D.xx;simp only[aB,aC,bn,Nat.reduceAdd,Fa.c]at a1 a2 a3;generalize C:ev R U.Rr (bc [iV p,.ptr ko 0,.ptr kx 0,.ptr V 0,.ptr kc 0,.ptr kv 0,.ptr kk 0] 0) s=r;have k7:=C;simp[U.Rr,a1,a3,X,b2]at C;generalize kp:ev R (.loop U.qY) _ _=o at C;have k4:(∃(e':En) (s':HS) (t:bb) (z:cf) (u:ep),o=.code .ret e' s'/\t.length=x.nx.length/\cS s' ao (D7 oa P oo x.nx.length t z) (K.set al (V,[.bool true])) om (lB HV.str u 0))∨
    (∃(e':En) (s':HS) (t:bb) (u:ep),o=.code (.exit 0) e' s'/\bB e' [(0,iV p),(1,.ptr ko 0),(2,.ptr kx 0),(3,.ptr V 0),(4,.ptr kc 0),(5,.ptr kv 0),(6,.ptr kk 0)]/\
     cS s' ao (D7 oa P oo x.nx.length t (lI.set p true)) K om (lB HV.str u 0)/\Kk x t u/\yM cls t/\(∀q:Nat,(lI.set p true)[q]?=some true->t[q]?=cls[q]?)/\∀e∈x.nx[p],sI t e.to):=by
   refine eI kp x.nx[p].length
    (λk e s=>∃(t:bb) (u:ep),bB e [(0,iV p),(1,.ptr ko 0),(2,.ptr kx 0),(3,.ptr V 0),(4,.ptr kc 0),(5,.ptr kv 0),(6,.ptr kk 0),(17,.psl (x.nx[p].map Eg.c)),(18,iV x.nx[p].length),(19,iV k)]/\
     cS s ao (D7 oa P oo x.nx.length t (lI.set p true)) K om (lB HV.str u 0)/\Kk x t u/\yM cls t/\(∀q:Nat,(lI.set p true)[q]?=some true->t[q]?=cls[q]?)/\∀j e,j<k->x.nx[p][j]?=some e->sI t e.to)
    (λo=>(∃(e':En) (s':HS) (t:bb) (z:cf) (u:ep),o=.code .ret e' s'/\t.length=x.nx.length/\cS s' ao (D7 oa P oo x.nx.length t z) (K.set al (V,[.bool true])) om (lB HV.str u 0))∨
     (∃(e':En) (s':HS) (t:bb) (u:ep),o=.code (.exit 0) e' s'/\bB e' [(0,iV p),(1,.ptr ko 0),(2,.ptr kx 0),(3,.ptr V 0),(4,.ptr kc 0),(5,.ptr kv 0),(6,.ptr kk 0)]/\
      cS s' ao (D7 oa P oo x.nx.length t (lI.set p true)) K om (lB HV.str u 0)/\Kk x t u/\yM cls t/\(∀q:Nat,(lI.set p true)[q]?=some true->t[q]?=cls[q]?)/\∀e∈x.nx[p],sI t e.to))
    0 (by omega) ⟨cls,ss,by simp,hf,hB,λq c h _=>h,λq _=>rfl,λj e h=>by omega⟩
    (λk e s r hk ⟨t,u,I,hM,hB,hE,hO,h4⟩ C=>by
     have hg:(k:Int)<x.nx[p].length:=by omega
     have k8:=aX hk;have Y:=hx.to _ (cb X) _ (cb hk);have kq:(x.nx[p].map Eg.c)[k]?=some (x.nx[p][k]).c:=by rw[fV,k8];rfl
     generalize he:x.nx[p][k]=ed at*;have x1:(ed.to:Int)<x.nx.length:=by omega
     have hw:=br (n:=6000) (show k<6000 by omega) (by omega);have A:=hM.cL ed.c;generalize h5:HS.mk _ _ _ _=S2 at A;have hy:=D.cons (s.nx,ed.c);have hz:((s.nx,ed.c)::K)[al+1]?=some (V,[.bool false]):=hl;have c1:=A.get (p:=s.nx) (c:=ed.c) (by simp);have c2:=A.get hy.o';have c3:=A.get hy.cc;have c4:=A.get hy.vv;have c5:=(A.k.bm (al+1) _ _ hz).1.1;have k0:ed.to<(lI.set p true).length:=by rw[jk];omega
     have g1:=ly (A.k.mem.own 2 _ _ _ rfl) (aX k0);have h6:ed.to<t.length:=by rw[hB.len];exact Y
     have g2:=vT (A.k.mem.own 1 _ _ _ rfl) (aX h6);simp only[ab,ae]at I;simp only[Eg.c,aB,aC,bn,Nat.reduceAdd,iV]at c1 c2 c3 c4 c5 h5 kq g2;have h7:∀(J:bb),yM t J->sI J ed.to->∀j e,j<k+1->x.nx[p][j]?=some e->sI J e.to:=by
      intro J M h2 j e1 hj h3;by_cases kr:j=k
      .subst kr;rw[k8]at h3;cases h3;exact h2
      exact M.has (h4 j e1 (by omega) h3)
     cases hb:(lI.set p true)[ed.to]
     .rw[hb]at g1;by_cases O:t[ed.to]<0
      .have ks:(lI.set p true)[ed.to]?=some false:=by rw[aX k0,hb]
       have kt:=aX h6;have x2:=SM (lI:=lI.set p true) kn.len hE;obtain⟨s3,h8,k9,ka,b3,q1,q2,q3,q4⟩:=YI hx hs m (cls:=t) (lI:=lI.set p true) (ss:=u) (p:=ed.to) (s:=S2) hy hz A hB (by simp[ha]) Y ks kt O (by omega);simp only[iV]at q1;cases b3
       .obtain⟨r1,r2,r3,r4,r5⟩:=q4 rfl;subst r1;simp only[df,bD]at q2;have d5:=(q2.k.bm (al+1) _ _ hz).1.1;simp only[aB,aC,bn]at d5;simp[U.qY,I,hk,hg,he,h5,c1,c2,c3,c4,aq,aA,Y,g1,g2,O,q1,d5,hw]at C;subst C;refine .inl ⟨_,_,rfl,h8,ka,by simp[I],q2.tail,r2,λq d M h2=>r3 q d (hE q d M h2) h2,λq hq=>?_,h7 h8 r3 r4⟩;rw[r5 q hq,hO q hq]
       simp only[bp,bJ]at q2;have d5:=(q2.k.bm (al+1) V [.bool true] (by rw[BP,gK (aU.1 hl).1])).1.1;simp only[aB,aC,bn]at d5;simp[U.qY,I,hk,hg,he,h5,c1,c2,c3,c4,aq,aA,Y,g1,g2,O,q1,d5]at C;subst C;exact .inr ⟨by simp,.inl ⟨_,_,h8,k9,ka,rfl,q3,q2.tail⟩⟩
      simp[U.qY,I,hk,hg,he,h5,c1,c2,c3,c5,aq,aA,Y,g1,g2,O,hw]at C;subst C;exact .inl ⟨_,_,rfl,t,u,by simp[I],A.tail,hB,hE,hO,h7 t (λq c h _=>h) ⟨_,aX h6,by omega⟩⟩
     rw[hb]at g1;obtain⟨s3,b3,k5⟩:=A.yB hz 0 (by simp) (x:=.bool true) rfl;simp only[aO,bJ]at k5;have d5:=(k5.k.bm (al+1) V [.bool true] (by rw[BP,gK (aU.1 hl).1])).1.1;simp only[aB,aC,bn]at d5;simp[U.qY,I,hk,hg,he,h5,c1,c2,aq,aA,Y,g1,b3,d5]at C;subst C;exact .inr ⟨by simp,.inl ⟨_,_,t,lI.set p true,u,rfl,hB.len,k5.tail⟩⟩)
    (λe s r ⟨t,u,I,hM,hB,hE,hO,h4⟩ C=>by
     simp only[ab,ae]at I;simp[U.qY,I]at C;subst C;refine⟨by simp,.inr ⟨_,_,t,u,rfl,by simp[I],hM,hB,hE,hO,λe he=>?_⟩⟩;obtain⟨j,hj⟩:=uG.1 he;exact h4 j e (aU.1 hj).1 hj)
  rcases k4 with⟨e',s',t,z,u,rfl,kb,B⟩|⟨e',s',t,u,rfl,I,B,Z,ku,kd,h4⟩
  .simp at C;subst C;exact⟨s',t,z,u,true,XA rfl ⟨.ret,_,s',k7,.inr rfl,by simp⟩,B,kb,λh=>by cases h⟩
  have ky:∀c∈t,gq c:=λc hc=>by have:=Z.sm c hc;unfold gq;omega
  have kz:t[p]?=some c:=by rw[kd p (by rw[gK (by omega)]),hc]
  have ke:∀e∈x.nx.getD p [],sI t e.to:=by rw[getD_at X];exact h4
  obtain⟨k1,kg⟩:=Z.fin hx kz hd ke;have k2:R (.call 184 [.agg x.c,iV p,.sl P 0 x.nx.length 1] s')=.val (.str (eZ x t p)) s':=by refine XB (by simp[cI,cm]) (.cons (.data (by simp)) (.cons (.data (by simp)) (.cons ?_ .nil))) (by simp) rfl (λs=>YD hx hs Z.len ky X s);exact(B.k.mem.own 1 _ _ _ rfl).vw (n:=14) (jS _)
  obtain⟨s4,k3,x0⟩:=YF B.mp (by have:=Z.sl;omega) (eZ x t p);have h9:cS s4 ao (D7 oa P oo x.nx.length t (lI.set p true)) K om (lB HV.str (Co u (eZ x t p)) 0):=by
   rw[x0];by_cases ht:eZ x t p∈u
   .rw[au ht,Co,au ht];exact B
   rw[ar ht];exact B.put _
  obtain⟨o5,s5,u1,u2,E⟩:=h9.jQ 2 rfl p (by simp;omega) (x:=.bool false) rfl;simp[X]at u1;obtain rfl:=u1;have E:cS s5 ao (D7 oa P oo x.nx.length t lI) K om (lB HV.str (Co u (eZ x t p)) 0):=by
   have M:=E;have h2:((lI.set p true).map bC).set p [.bool false]=lI.map bC:=by rw[show [HV.bool false]=bC false from rfl,<-List.map_set,Km ho]
   unfold D7 at M;simp only[bJ,aO]at M;rw[h2]at M;exact M
  obtain⟨o6,s6,y1,y2,k6⟩:=E.jQ 1 rfl p (by have:=Z.len;simp;omega) (x:=iV (u.idxOf (eZ x t p))) rfl;simp[X]at y1;obtain rfl:=y1;have k6:cS s6 ao (D7 oa P oo x.nx.length (t.set p (u.idxOf (eZ x t p):Nat)) lI) K om (lB HV.str (Co u (eZ x t p)) 0):=by have M:=k6;unfold D7 at M ⊢;simp only[bJ,aO]at M;rw[mR];exact M
  simp only[jl]at u2 y2;have y3:=GO y2;have d1:=B.get D.xx;have d2:=B.get D.cc;have d3:=B.get D.km;have d4:=B.get D.o';have f1:=h9.get D.xx;have f2:=h9.get D.cc;have f3:=h9.get D.km;have f4:=h9.get D.o';have g2:=E.get D.cc;have g1:=E.get D.xx;have g3:=E.get D.km;have g4:=E.get D.o';simp only[aB,aC,bn,Nat.reduceAdd,Fa.c]at d1 d2 d3 d4 f1 f2 f3 f4 g1 g2 g3 g4;simp only[iV,Fa.c]at k2;simp only[iV]at k3 y3;simp only[ab,ae]at I;simp[I,d1,d2,d3,d4,an,k2,k3,f2,f4,X,u2,g2,y3]at C;subst C;refine⟨s6,_,lI,Co u (eZ x t p),false,XA rfl ⟨.normal,_,s6,k7,.inl rfl,by simp⟩,k6,k1.len,λ_=>⟨rfl,k1,λq d M h2=>kg q d (ku q d M h2) h2,⟨_,gK (by rw[Z.len];exact X),by omega⟩,λq hq=>?_⟩⟩;have ki:p≠q:=λe=>by subst e;rw[ho]at hq;cases hq
  rw[jm ki,kd q (by rw[jm ki];exact hq)]
def iu{s s':HS}{o:Ky}{k:Nat}{v:HV}(h:qh 1 (some (.ptr o k)) (some v) s=.v .undef s')(c:cellsOf v=some [v]):kG s (aj s.h o) o k [v]=some s':=by
 rw[kD,c]at h;simp only[dP,dB,bp,lv]at h;cases b:kG s (aj s.h o) o k [v]with
 |none=>rw[b]at h;cases h
 |some s2=>rw[b]at h;cases h;rfl
def AH{x:Fa}(D:DB x){P:aG}(h0:P 0)(t:∀i,i<x.nx.length->P i->∀e∈x.nx.getD i [],P e.to):∀i,i<x.nx.length->P i:=by
 obtain⟨c,E,I,J⟩:=D.bfs;have key:∀i,i<=x.nx.length->∀j,j<c i->P j:=by
  intro i
  induction i with
  |zero=>intro _ j b;rw[E]at b;rw[show j=0 by omega];exact h0
  |succ i A=>
   intro B;obtain⟨M,_,O,V⟩:=J i (by omega);have u:=A (by omega) i M;have d:=t i (by omega) u;have C:∀k,k<=(x.nx.getD i []).length->∀j,j<gp (c i) ((x.nx.getD i []).take k)->P j:=by
    intro k
    induction k with
    |zero=>intro _ j b;exact A (by omega) j (by simpa[gp]using b)
    |succ k q=>
     intro C j b;have r:k<(x.nx.getD i []).length:=by omega
     rw[eW r,ub]at b;unfold AD at b
     split at b
     .rename_i X;by_cases z:j<gp (c i) ((x.nx.getD i []).take k)
      .exact q (by omega) j z
      have:j=((x.nx.getD i [])[k]).to:=by omega
      rw[this];exact d _ (cb r)
     exact q (by omega) j b
   intro j b;rw[O]at b;exact C _ (aV _) j (by rwa[mP])
 intro i B;exact key _ (aV _) i (by rw[I];exact B)
def Kk.MD{x:Fa}(I:bA x)(B:FK x)(k:DB x){cls:bb}{ss:ep}(h:Kk x cls ss)(h0:sI cls 0):sH x cls λp=>p<x.nx.length:=by
 have b:∀i,i<x.nx.length->sI cls i:=AH k h0 λi _ ⟨c,r,t⟩=>(h.ok i c r t).1
 refine⟨h.len,λc k=>by have:=h.sm c k;omega,λp q C D u=>?_⟩;obtain⟨c,r,t⟩:=b p C;obtain⟨d,z,E⟩:=b q D;rw[KP,r,KP,z]at u;simp only[gB]at u;subst u;have A:=(h.ok p c r t).2;rw[(h.ok q c z E).2]at A;exact DH B (λc k=>by have:=h.sm c k;unfold gq;omega) (lr A).symm
def afM(x:Fa)(hx:bA x)(hs:FK x)(hc:DB x)(hg:x.nx.length<=24):∃(cls:bb) (b:Bool),(b=false->sH x cls λp=>p<x.nx.length)/\gy U.f199 R [.agg x.c]=true/\∀s,R (.call 166 [.agg x.c] s)=.val (.cO [.psl (cls.map iC),.bool b]) s:=by
 have hn:=hx.n;have A:=hx.pos;generalize hr:bO R U.Q6 (bc [.agg x.c] 0) s0=r
 suffices h:∃(cls:bb) (b:Bool),(b=false->sH x cls λp=>p<x.nx.length)/\pF [.cell 2 none,.cell 3 none] r=some (.cO [.psl (cls.map iC),.bool b])/\UP [.cell 2 none,.cell 3 none] r=true by obtain⟨cls,b,h1,h,hf⟩:=h;rw[<-hr]at h hf;exact⟨cls,b,h1,by rw[sC];exact hf,λs=>ad1 h⟩
 have h0:aI s0 (λ_=>none) [] []:=⟨dV.start (by simp),by simp,by simp⟩;generalize kr:s0=S0 at h0 hr;have hj:=h0.cL x.c;generalize hl:HS.mk _ _ _ _=B at hj;have ho:=hj.cL [.ah];generalize hp:HS.mk _ _ _ _=E at ho;have ht:=ho.cL [.bool false];generalize hy:HS.mk _ _ _ _=S3 at ht;obtain⟨c4,M⟩:=ht.DI (sz:=1) (t:=[[iV (-1)]]) (Sz.cons rfl Sz.nil);have e4:=(M.bm 2 _ _ rfl).1.1;generalize hz:HS.mk _ _ _ _=S4 at M e4;simp only[bq,aB,aC,bn]at M;obtain⟨d,s5,c5,q5,k0⟩:=afL M (i:=0) rfl hg A;simp only[bo,bq]at k0;obtain⟨s6,b6,h5⟩:=k0.yB (a:=1) rfl 0 (by simp) (x:=.sl d 0 x.nx.length 1) rfl;simp only[aO,bJ]at h5;have e6:=(h5.bm 2 _ _ rfl).1.1;obtain⟨s7,m7,kn,ko⟩:=lZ (s:=s6) (n:=x.nx.length) (bI:=140737488355328) (by omega) (.bool false);obtain⟨c7,h6⟩:=h5.join ko kn (λk hk=>by subst hk;exact aV _);rw[show List.replicate x.nx.length [HV.bool false]=(List.replicate x.nx.length false).map bC by simp]at h6;simp only[bo,bq]at h6;have k1:=h6.cL [.ah];generalize k2:HS.mk _ _ _ _=S8 at k1;obtain⟨s9,b9,k5⟩:=k1.yB (a:=0) rfl 0 (by simp) (x:=.sl s6.nx 0 x.nx.length 1) rfl;simp only[aO]at k5;have O:=k5.mkm;generalize k6:HS.mk _ _ _ _=u at O;have P:=O.cL [.fS];generalize V:HS.mk _ _ _ _=ks at P;obtain⟨z,k7,X⟩:=P.yB (a:=0) rfl 0 (by simp) (x:=.mp s9.nx) rfl;simp only[aO]at X;have Y:=X.cL [.gY];generalize Z:HS.mk _ _ _ _=kt at Y;obtain⟨k8,k9,I⟩:=Y.yB (a:=0) rfl 0 (by simp) (x:=.fn 182 [] [.ptr s7.nx 0,.ptr S0.nx 0,.ptr E.nx 0,.ptr B.nx 0,.ptr z.nx 0,.ptr u.nx 0]) rfl;simp only[aO]at I;have ka:=(I.k.bm 0 _ _ rfl).1.1;have hV:VK x d s6.nx s9.nx S0.nx B.nx E.nx s7.nx u.nx z.nx [(z.nx,[.fn 182 [] [.ptr s7.nx 0,.ptr S0.nx 0,.ptr E.nx 0,.ptr B.nx 0,.ptr z.nx 0,.ptr u.nx 0]]),(u.nx,[.mp s9.nx]),(s7.nx,[.sl s6.nx 0 x.nx.length 1]),(E.nx,[.bool false]),(B.nx,[.sl d 0 x.nx.length 1]),(S0.nx,x.c)]:=
  ⟨by simp,by simp,by simp,by simp,by simp⟩
 have hB:Kk x (List.replicate x.nx.length (-1)) []:=by
  refine⟨by simp,λc hc=>by rw[Aw hc];omega,?_,λq c hq hc=>?_⟩
  .have:=List.countP_le_length (p:=λc:Int=>decide (c<0)) (l:=List.replicate x.nx.length (-1));rw[BU]at this;unfold UQ;rw[aC];omega
  rw[yJ]at hq
  split at hq
  .cases hq;omega
  cases hq
 have h7:cS k8 c7 (D7 S3.nx d s6.nx x.nx.length (List.replicate x.nx.length (-1)) (List.replicate x.nx.length false)) [(z.nx,[.fn 182 [] [.ptr s7.nx 0,.ptr S0.nx 0,.ptr E.nx 0,.ptr B.nx 0,.ptr z.nx 0,.ptr u.nx 0]]),(u.nx,[.mp s9.nx]),(s7.nx,[.sl s6.nx 0 x.nx.length 1]),(E.nx,[.bool false]),(B.nx,[.sl d 0 x.nx.length 1]),(S0.nx,x.c)] s9.nx (lB HV.str [] 0):=I;obtain⟨kb,cls,kp,ss,b,h8,kc,ku,h2⟩:=YI hx hs (UR (List.replicate x.nx.length (-1)) (List.replicate x.nx.length false) x.nx.length) (al:=3) (p:=0) (c:= -1) hV rfl h7 hB (by simp) A (by rw[yJ,au A]) (by rw[yJ,au A]) (by omega) (aV _);have hK:∃Kb,cS kb c7 (D7 S3.nx d s6.nx x.nx.length cls kp) Kb s9.nx (lB HV.str ss 0)/\Kb[4]?=some (B.nx,[.sl d 0 x.nx.length 1])/\Kb[3]?=some (E.nx,[.bool b]):=by cases b<;>exact⟨_,by simpa using kc,rfl,rfl⟩
 obtain⟨Kb,h9,k4,k3⟩:=hK;have kd:=(h9.k.bm 4 _ _ k4).1.1;have h3:=(h9.k.bm 3 _ _ k3).1.1;obtain⟨kv,ke,C⟩:=h9.yB k4 0 (by simp) (x:=.sl d 0 x.nx.length 1) rfl;simp only[aO]at C;have kg:(Kb.set 4 (B.nx,[.sl d 0 x.nx.length 1]))[4]?=some (B.nx,[.sl d 0 x.nx.length 1]):=gK (aU.1 k4).1;have ha:(Kb.set 4 (B.nx,[.sl d 0 x.nx.length 1]))[3]?=some (E.nx,[.bool b]):=by rw[jm (by omega)];exact k3
 have ki:=(C.k.bm 3 _ _ ha).1.1;have kj:=(C.k.bm 4 _ _ kg).1.1;obtain⟨kq,kk,D⟩:=C.yB ha 0 (by simp) (x:=.bool b) rfl;simp only[aO]at D;have kl:((Kb.set 4 (B.nx,[.sl d 0 x.nx.length 1])).set 3 (E.nx,[.bool b]))[3]?=some (E.nx,[.bool b]):=gK (aU.1 ha).1;have km:((Kb.set 4 (B.nx,[.sl d 0 x.nx.length 1])).set 3 (E.nx,[.bool b]))[4]?=some (B.nx,[.sl d 0 x.nx.length 1]):=by rw[jm (by omega)];exact kg
 have hd:=(D.k.bm 3 _ _ kl).1.1;have J:=(D.k.bm 4 _ _ km).1.1;have h4:=D.k.mem.own 1 _ _ _ rfl;have hv:=h4.vw (n:=13) (jS _);have h8:R (.call 182 [.int .i64 0,.ptr s7.nx 0,.ptr S0.nx 0,.ptr E.nx 0,.ptr B.nx 0,.ptr z.nx 0,.ptr u.nx 0] k8)=.val (.cO []) kb:=h8;simp only[aB,aC,bn,Nat.reduceAdd,Fa.c,iV,cj,gS,bo,bq]at hl hp hy hz k2 V Z e4 e6 ka kd h3 ki kj hd J q5;have d6:=iu b6 rfl;have d9:=iu b9 rfl;have kx:=iu k7 rfl;have ky:=iu k9 rfl;have kz:=iu ke rfl;have x0:=iu kk rfl;simp[U.Q6,d6,hl,hp,hy,hz,e4,q5,e6,m7,k2,b9,k6,V,k7,Z,k9,ka,h8,kd,h3,ke,ki,kk]at hr;subst hr;refine⟨cls,b,λhb=>(h2 hb).2.1.MD hx hs hc (h2 hb).2.2.2.1,?_,vV (v:=.cO [.sl d 0 x.nx.length 1,.bool b]) (s':=kq) (by simp[hd,J]) (MU λv hv=>?_)⟩
 .simp[hd,J];exact aY (.cO (.cons hv (.data (by simp))))
 rcases bk.1 hv with rfl|hv
 .exact sE h4 (GL cls)
 rw[cr.1 hv];exact DD rfl
def cS.push{s:HS}{ao:aW}{L:cq}{K:de}{o:Ky}{es:List (HV×HV)}(h:cS s ao L K o es)(sz:Nat):cS s ao (L++[(.ah,sz,[])]) K o es:=⟨h.k.push sz,h.mp,h.lt,h.co⟩
abbrev GW:Int->HV:=λn=>iV n
def uP(cls:bb)(c:Nat):bb:=(List.range c).map λi=>cls.getD i 0
def MZ{cls:bb}{n:Nat}(b:∀i j:Nat,i<n->j<n->cls.getD i 0=cls.getD j 0->i=j){c p:Nat}(r:c<=n)(k:p<c):(uP cls c).idxOf (cls.getD p 0)=p/\cls.getD p 0∈uP cls c:=by
 have d:cls.getD p 0∈uP cls c:=cU.2 ⟨p,fX.2 k,rfl⟩;refine⟨?_,d⟩;have q:p<(uP cls c).length:=by simp[uP,k]
 refine rp (p:=λa=>a==cls.getD p 0) q (λj t=>?_) ?_
 .simp only[uP,BR,B4,beq_eq_false_iff_ne];intro e;have:=b j p (by omega) (by omega) e;omega
 simp[uP]
def Na{cls:bb}{n:Nat}(b:∀i j:Nat,i<n->j<n->cls.getD i 0=cls.getD j 0->i=j){c:Nat}(d:c<n):cls.getD c 0 ∉ uP cls c:=by intro h;obtain⟨j,k,q⟩:=cU.1 h;rw[fX]at k;have:=b j c (by omega) d q;omega
def Kn(cls:bb)(c:Nat):uP cls (c+1)=uP cls c++[cls.getD c 0]:=by simp[uP,yl]
section
variable{s:HS}{ao:aW}{L:cq}{K:de}
def YJ{cls:bb}{n:Nat}(hd:cls.length=n)(hn:n<=400)(z:∀i j:Nat,i<n->j<n->cls.getD i 0=cls.getD j 0->i=j){c p a:Nat}(hp:p<n)(hg:p<=c)(X:c<=n){sP jh kf P:Ky}{Y:HV}
  (A:cS s ao L K P (lB GW (uP cls c) 0))(Z:L[0]?=some (Y,1,(List.range c).map nC))(V:K[a]?=some (kf,[Y]))(h3:(sP,[.mp P])∈K)(h4:(jh,[.psl (cls.map iC)])∈K):
  ∃s' E q,R (.call 186 [iV p,.ptr sP 0,.ptr jh 0,.ptr kf 0] s)=.val (iV p) s'/\cS s' E (L.set 0 (q,1,(List.range (if p=c then c+1 else c)).map nC)) (K.set a (kf,[q])) P (lB GW (uP cls (if p=c then c+1 else c)) 0):=by
 have d:p<cls.length:=by omega
 have hb:(p:Int)<cls.length:=by omega
 have h6:=(aU.1 Z);have h7:=(aU.1 V);have d1:=A.get h3;have d2:=A.get h4;have d3:=(A.k.bm a _ _ V).1.1;have b:=lkK (K:=KI) (f:=GW) sn (λ_=>rfl) A.mp (cls.getD p 0);simp only[aB,aC,bn]at d1 d2 d3;rw[getD_at d]at b;by_cases h8:p<c
 .obtain⟨h1,h2⟩:=MZ z X h8;rw[getD_at d]at h1 h2;rw[au h2,h1,dq h2]at b;have B:∃C,ev R U.Fk (bc [iV p,.ptr sP 0,.ptr jh 0,.ptr kf 0] 0) s=.code .ret C s/\look C 5=some (iV p):=by generalize I:ev R U.Fk (bc [iV p,.ptr sP 0,.ptr jh 0,.ptr kf 0] 0) s=r;simp only[iV]at b;simp[U.Fk,d1,d2,d,b]at I;subst I;exact⟨_,rfl,by simp⟩
  obtain⟨C,B,h5⟩:=B;refine⟨s,ao,Y,XC rfl ⟨.ret,_,s,B,.inr rfl,by simp[h5]⟩,?_⟩;rw[ar (by omega),<-h6.2,yD,<-h7.2,yD];exact A
 have h9:p=c:=by omega
 subst h9;have t:=Na z hp;rw[getD_at d]at t;rw[ar t,cK t]at b;have u:=muK (K:=KI) (f:=GW) sn (λ_=>rfl) A.mp t;have D:=A.put (lB GW (uP cls p++[cls[p]]) 0);have e3:=(D.k.bm a _ _ V).1.1;generalize hj:s.aJ P (Ob.mp (lB GW (uP cls p++[cls[p]]) 0))=S1 at D u e3;obtain⟨q,s2,J,a2,k2,ha⟩:=D.append 0 Z (new:=[[iV p]]) (Sz.cons rfl Sz.nil) (by simp) (bI:=17592186044416) (by simp;omega);obtain⟨s3,b3,M⟩:=ha.yB V 0 (by simp) k2;simp only[aO]at M;have hlen:=A.k.mem.len 0 Z s;rw[bz,B5]at hlen;have O:(uP cls p).length=p:=by simp[uP]
 rw[O]at u;simp only[aB,aC,bn]at e3;have B:∃C,ev R U.Fk (bc [iV p,.ptr sP 0,.ptr jh 0,.ptr kf 0] 0) s=.code .ret C s3/\look C 5=some (iV p):=by generalize I:ev R U.Fk (bc [iV p,.ptr sP 0,.ptr jh 0,.ptr kf 0] 0) s=r;simp only[iV]at b u hlen;simp[U.Fk,d1,d2,d3,d,b,hlen,u,e3,a2,b3]at I;subst I;exact⟨_,rfl,by simp⟩
 obtain⟨C,B,h5⟩:=B;refine⟨s3,J,q,XC rfl ⟨.ret,_,s3,B,.inr rfl,by simp[h5]⟩,?_⟩;rw[au rfl,Kn,getD_at d,yl,eU];exact M
end
def AI(c:Nat):∀(l:bu) (k:Nat),gp c (l.take k)<=gp c l:=by
 have b:∀(l:bu) (c:Nat),c<=gp c l:=by
  intro l
  induction l with
  |nil=>intro c;exact aV _
  |cons e l d=>
   intro c;have:=d (AD c e);unfold gp at*;rw[List.foldl_cons];have:c<=AD c e:=by unfold AD;split<;>omega
   omega
 intro l k
 conv=>rhs;rw[<-List.take_append_drop k l]
 unfold gp;rw[List.foldl_append];exact b _ _
def YK{x:Fa}(Z:bA x){cls:bb}(h1:cls.length=x.nx.length)(E:∀i j:Nat,i<x.nx.length->j<x.nx.length->cls.getD i 0=cls.getD j 0->i=j){i c0:Nat}(hi:i<x.nx.length)(h2:gp c0 x.nx[i]<=x.nx.length)
  (hb:∀(k:Nat) (e:Eg),x.nx[i][k]?=some e->e.to<=gp c0 (x.nx[i].take k)){M:cq}{e:En}{s:HS}{o:Out}{sP jh kf na C:Ky}{b vN vF v9:HV}{ao:aW}
  (d:bB e [(2,.aw x.c),(4,.ptr na 0),(6,.ptr kf 0),(7,.fn 186 [] [.ptr sP 0,.ptr jh 0,.ptr kf 0]),(8,iV i),(9,v9),(29,.psl (x.nx[i].map Eg.c)),(30,iV x.nx[i].length),(31,iV 0)])
  (D:cS s ao ((b,1,(List.range c0).map nC)::(M++[(v9,5,[])])) [(kf,[b]),(sP,[.mp C]),(na,[vN,vF]),(jh,[.psl (cls.map iC)])] C (lB GW (uP cls c0) 0))(ho:bO R (.loop U.xO) e s=o):
  ∃(e':En) (s':HS) (ao:aW) (b v9:HV),o=.code (.exit 2) e' s'/\bB e' [(2,.aw x.c),(4,.ptr na 0),(6,.ptr kf 0),(7,.fn 186 [] [.ptr sP 0,.ptr jh 0,.ptr kf 0]),(8,iV i),(9,v9)]/\
   cS s' ao ((b,1,(List.range (gp c0 x.nx[i])).map nC)::(M++[(v9,5,x.nx[i].map Eg.c)])) [(kf,[b]),(sP,[.mp C]),(na,[vN,vF]),(jh,[.psl (cls.map iC)])] C (lB GW (uP cls (gp c0 x.nx[i])) 0):=by
 have hn:=Z.n;have h9:=Z.row hi;revert o;show∀o,_;refine ajX x.nx[i].length
  (λk e s=>∃(ao:aW) (b v9:HV),bB e [(2,.aw x.c),(4,.ptr na 0),(6,.ptr kf 0),(7,.fn 186 [] [.ptr sP 0,.ptr jh 0,.ptr kf 0]),(8,iV i),(9,v9),(29,.psl (x.nx[i].map Eg.c)),(30,iV x.nx[i].length),(31,iV k)]/\
   cS s ao ((b,1,(List.range (gp c0 (x.nx[i].take k))).map nC)::(M++[(v9,5,(x.nx[i].take k).map Eg.c)])) [(kf,[b]),(sP,[.mp C]),(na,[vN,vF]),(jh,[.psl (cls.map iC)])] C (lB GW (uP cls (gp c0 (x.nx[i].take k))) 0))
  0 (by omega) ⟨ao,b,v9,d,by simpa[gp]using D⟩ ?_ ?_
 .rintro k e s r I ⟨ao,b,v9,d,D⟩ J
  have h3:(k:Int)<x.nx[i].length:=by omega
  have O:=aX I;have h4:=Z.to _ (cb hi) _ (cb I);have hle:=hb k _ O;have h5:gp c0 (x.nx[i].take k)<=x.nx.length:=fu (AI _ _ _) h2;have h6:(x.nx[i].map Eg.c)[k]?=some (x.nx[i][k]).c:=by rw[fV,O];rfl
  have z:gp c0 (x.nx[i].take (k+1))=if(x.nx[i][k]).to=gp c0 (x.nx[i].take k)then gp c0 (x.nx[i].take k)+1 else gp c0 (x.nx[i].take k):=by rw[eW I,ub];rfl
  have h7:x.nx[i].take (k+1)=x.nx[i].take k++[x.nx[i][k]]:=eW I;generalize he:x.nx[i][k]=ed at*;generalize hc:gp c0 (x.nx[i].take k)=c at*;have A:=D.cL ed.c;have d1:=(A.k.bm 0 _ _ rfl).1.1;generalize P:HS.mk _ _ _ _=S1 at A d1;obtain⟨s2,h8,q,u,t⟩:=YJ h1 hn E (a:=1) (p:=ed.to) h4 hle h5 A rfl rfl (sP:=sP) (jh:=jh) (by simp) (by simp);simp only[aO,bJ]at t;rw[<-z]at t;have d2:=(t.k.bm 0 _ _ rfl).1.1;have hg:((q,1,(List.range (gp c0 (x.nx[i].take (k+1)))).map nC)::(M++[(v9,5,(x.nx[i].take k).map Eg.c)]))[M.length+1]?=some (v9,5,(x.nx[i].take k).map Eg.c):=by simp
  obtain⟨B,s3,V,a3,k3,X⟩:=t.append (M.length+1) hg (new:=[ed.c]) (Sz.cons rfl Sz.nil) (by simp) (bI:=3518437208883) (by simp;omega);have Y:((q,1,(List.range (gp c0 (x.nx[i].take (k+1)))).map nC)::(M++[(v9,5,(x.nx[i].take k).map Eg.c)])).set (M.length+1) (B,5,(x.nx[i].take k).map Eg.c++[ed.c])=(q,1,(List.range (gp c0 (x.nx[i].take (k+1)))).map nC)::(M++[(B,5,(x.nx[i].take (k+1)).map Eg.c)]):=by rw[h7];simp
  rw[Y]at X;have hw:=br (n:=6000) (show k<6000 by omega) (by omega);simp only[ab,ae]at d;simp only[Eg.c,aB,aC,bn,Nat.reduceAdd,iV]at d1 d2 P h6 u a3;simp[U.xO,d,I,h3,he,P,d1,d2,aq,aA,an,u,a3,hw]at J;subst J;exact .inl ⟨_,_,rfl,V,q,B,by simp[d],X.tail⟩
 rintro e s r ⟨ao,b,v9,d,D⟩ J
 simp only[ab,ae]at d;simp[U.xO,d]at J;subst J;rw[mP]at D;exact⟨by simp,_,_,ao,b,v9,rfl,by simp[d],D⟩
def YL{x:Fa}(hx:bA x){cls:bb}(h7:cls.length=x.nx.length)(O:∀i j:Nat,i<x.nx.length->j<x.nx.length->cls.getD i 0=cls.getD j 0->i=j){c:Nat->Nat}(c0:c 0=1)(cn:c x.nx.length=x.nx.length)
  (hb:∀i,i<x.nx.length->i<c i/\c i<=x.nx.length/\c (i+1)=gp (c i) (x.nx.getD i [])/\∀k e,(x.nx.getD i [])[k]?=some e->e.to<=gp (c i) ((x.nx.getD i []).take k))
  {e:En}{s:HS}{o:Out}{sP jh kf na E:Ky}{q:HV}{ao:aW}
  (z:bB e [(2,.aw x.c),(4,.ptr na 0),(6,.ptr kf 0),(7,.fn 186 [] [.ptr sP 0,.ptr jh 0,.ptr kf 0]),(8,iV 0)])
  (d:cS s ao [(q,1,(List.range 1).map nC),(.ah,1,[]),(.ah,1,[])] [(kf,[q]),(sP,[.mp E]),(na,[.ah,.ah]),(jh,[.psl (cls.map iC)])] E (lB GW (uP cls 1) 0))(ho:bO R (.loop U.xP) e s=o):
  ∃(e':En) (s':HS) (ao:aW) (q vN vF:HV) (aE:cq),o=.code (.exit 0) e' s'/\bB e' [(4,.ptr na 0)]/\
   cS s' ao ((q,1,(List.range x.nx.length).map nC)::(vN,1,aE.map gP)::(vF,1,x.fi.map bC)::aE) [(kf,[q]),(sP,[.mp E]),(na,[vN,vF]),(jh,[.psl (cls.map iC)])] E (lB GW (uP cls x.nx.length) 0)/\aE.map (·.2)=x.nx.map (λes=>(5,es.map Eg.c)):=by
 have hn:=hx.n;have h8:=hx.nf;have hg:=hx.pos;revert o;show∀o,_;refine ajX x.nx.length
  (λi e s=>∃(ao:aW) (q vN vF:HV) (aE:cq),bB e [(2,.aw x.c),(4,.ptr na 0),(6,.ptr kf 0),(7,.fn 186 [] [.ptr sP 0,.ptr jh 0,.ptr kf 0]),(8,iV i)]/\
   cS s ao ((q,1,(List.range (c i)).map nC)::(vN,1,aE.map gP)::(vF,1,(x.fi.take i).map bC)::aE) [(kf,[q]),(sP,[.mp E]),(na,[vN,vF]),(jh,[.psl (cls.map iC)])] E (lB GW (uP cls (c i)) 0)/\aE.map (·.2)=(x.nx.take i).map (λes=>(5,es.map Eg.c))/\aE.length=i)
  0 (by omega) ⟨ao,q,.ah,.ah,[],z,by rw[c0];simpa using d,by simp,rfl⟩ ?_ ?_
 .rintro i e s r I ⟨ao,q,vN,vF,aE,z,d,hI,P⟩ B
  obtain⟨V,hs,A,X⟩:=hb i I;rw[getD_at I]at A X;have ht:(i:Int)<x.nx.length:=by omega
  have Y:(i:Int)<c i:=by omega
  have Z:c (i+1)<=x.nx.length:=by
   by_cases hl:i+1<x.nx.length
   .exact(hb (i+1) hl).2.1
   rw[show i+1=x.nx.length by omega,cn];exact aV _
  obtain⟨of,rfl⟩:=(d.k.mem.own 0 _ _ _ rfl).gP (by intro h;have:=ch List.length h;simp at this;omega);rw[bz,B5]at d;have J:=(d.k.bm 0 _ _ rfl).1.1;have g1:=iy (d.k.mem.own 0 _ _ _ rfl) (i:=i) (by simpa using V);rw[B4]at g1;have hj:(x.nx.map oG)[i]?=some [.psl (x.nx[i].map Eg.c)]:=by rw[fV,aX I];rfl
  have hw:=br (n:=400) (show i<400 by omega) (by omega);simp only[ab,ae]at z;simp only[aB,aC,bn]at J;simp[U.xP,z,J,V,Y,I,g1]at B;generalize ho:bO R (.loop U.xO) _ _=o at B;have h1:=d.push 5;simp only[bo]at h1;obtain⟨e2,s2,hk,hy,v9,rfl,C,b⟩:=YK hx h7 O I (c0:=c i) (by rw[<-A];exact Z) X (M:=(vN,1,aE.map gP)::(vF,1,(x.fi.take i).map bC)::aE) (sP:=sP) (jh:=jh) (kf:=kf) (na:=na) (v9:=.ah) (by simp[z]) h1 ho;clear ho;rw[<-A]at b;simp only[bo]at b;have t:i<c (i+1):=by have:=AI (c i) x.nx[i] 0;simp only[List.take_zero]at this;have h2:gp (c i) []=c i:=rfl;rw[A];omega
  have h9:(i:Int)<c (i+1):=by omega
  obtain⟨ha,rfl⟩:=(b.k.mem.own 0 _ _ _ rfl).gP (by intro h;have:=ch List.length h;simp at this;omega);rw[bz,B5]at b;have c8:cellsOf v9=some [v9]:=(b.k.mem.own (aE.length+3) v9 5 _ (by simp;rfl)).one;have f1:=(b.k.bm 0 _ _ rfl).1.1;have f2:=(b.k.bm 2 _ _ rfl).1.1;have g2:=iy (b.k.mem.own 0 _ _ _ rfl) (i:=i) (by simpa using t);rw[B4]at g2;obtain⟨hd,s3,hp,a3,k3,u⟩:=b.append 1 rfl (new:=[[v9]]) (Sz.cons rfl Sz.nil) (by simp) (bI:=5864062014805) (by simp;omega);simp only[bJ,aO]at u;have f3:=(u.k.bm 0 _ _ rfl).1.1;have f4:=(u.k.bm 2 _ _ rfl).1.1;have g3:=iy (u.k.mem.own 0 _ _ _ rfl) (i:=i) (by simpa using t);rw[B4]at g3;have h3:i<x.fi.length:=by omega
  have hq:(i:Int)<x.fi.length:=by omega
  obtain⟨hf,s4,h4,a4,k4,h5⟩:=u.append 2 rfl (new:=[bC x.fi[i]]) (Sz.cons rfl Sz.nil) (by simp) (bI:=140737488355328) (by simp;omega);simp only[bJ,aO]at h5;obtain⟨s5,b5,h6⟩:=h5.yB (a:=2) rfl 0 (by simp) k3;simp only[bJ,aO]at h6;obtain⟨s6,b6,D⟩:=h6.yB (a:=2) rfl 1 (by simp) k4;simp only[bJ,aO]at D;simp only[bC]at a4;simp only[aB,aC,bn,Nat.reduceAdd]at f1 f2 f3 f4;simp only[ab,ae]at C;simp[C,f1,f2,f3,f4,g2,g3,t,h3,c8,a3,a4,b5,b6,hw]at B;subst B;refine .inl ⟨_,_,rfl,h4,.sl ha 0 (c (i+1)) 1,hd,hf,aE++[(v9,5,x.nx[i].map Eg.c)],by simp[C],?_,?_,by simp[P]⟩
  .rw[show aE.map gP++[[v9]]=(aE++[(v9,5,x.nx[i].map Eg.c)]).map gP by simp,show(x.fi.take i).map bC++[bC x.fi[i]]=(x.fi.take (i+1)).map bC by rw[eW h3,eU];rfl]at D;exact D
  rw[eW I,eU,eU,hI];rfl
 rintro e s r ⟨ao,q,vN,vF,aE,z,d,hI,P⟩ B
 rw[cn]at d;obtain⟨of,rfl⟩:=(d.k.mem.own 0 _ _ _ rfl).gP (by intro h;have:=ch List.length h;rw[bz,B5]at this;simp only[aC]at this;omega);have J:=(d.k.bm 0 _ _ rfl).1.1;rw[bz,B5]at J;simp only[ab,ae]at z;simp only[aB,aC,bn]at J;simp[U.xP,z,J]at B;subst B;rw[mP]at hI;rw[show x.fi.take x.nx.length=x.fi by rw[h8,mP]]at d;exact⟨by simp,_,_,ao,_,vN,vF,aE,rfl,by simp[z],d,hI⟩
def YM(x:Fa)(hx:bA x)(I:DB x){cls:bb}(J:cls.length=x.nx.length)(B:∀i j:Nat,i<x.nx.length->j<x.nx.length->cls.getD i 0=cls.getD j 0->i=j):gy U.f201 R [.agg x.c,.psl (cls.map iC)]=true/\∀s,R (.call 168 [.agg x.c,.psl (cls.map iC)] s)=.val (.agg x.c) s:=by
 have hn:=hx.n;have M:=hx.pos;obtain⟨c,c0,cn,hb⟩:=I.bfs;generalize E:bO R U.Q8 (bc [.agg x.c,.psl (cls.map iC)] 0) s0=r
 suffices h:pF [.cell 4 (some 2)] r=some (.agg x.c)/\UP [.cell 4 (some 2)] r=true by obtain⟨h,hf⟩:=h;rw[<-E]at h hf;exact⟨by rw[sC];exact hf,λs=>ad5 h⟩
 have h0:aI s0 (λ_=>none) [] []:=⟨dV.start (by simp),by simp,by simp⟩;generalize hp:s0=S0 at h0 E;have O:=h0.cL [.psl (cls.map iC)];generalize P:HS.mk _ _ _ _=S1 at O;have V:=O.cL [.ah,.ah];generalize X:HS.mk _ _ _ _=S2 at V;have Y:=V.mkm;generalize hd:HS.mk _ _ _ _=S3 at Y;have Z:=Y.cL [.fS];generalize h1:HS.mk _ _ _ _=S4 at Z;obtain⟨s5,b5,h3⟩:=Z.yB (a:=0) rfl 0 (by simp) (x:=.mp S2.nx) rfl;simp only[aO]at h3;have C:=(h3.cL [.ah]).push 1;generalize h5:HS.mk _ _ _ _=S6 at C;simp only[bq]at C;obtain⟨s7,hl,vf,d,h6⟩:=YJ (L:=[(.ah,1,[])]) J hn B (c:=0) (p:=0) (a:=0) (sP:=S3.nx) (jh:=S0.nx) M (aV _) (by omega) (by simpa[uP,lB]using C) rfl rfl (by simp) (by simp);simp only[aO,bp,bn]at h6;have h7:=(h6.push 1).push 1;simp only[bo,bq]at h7;have d5:=iu b5 rfl;have d:R (.call 186 [.int .i64 0,.ptr S3.nx 0,.ptr S0.nx 0,.ptr s5.nx 0] S6)=.val (.int .i64 0) s7:=d;simp only[aB,aC,bn,Nat.reduceAdd]at P X h1 h5;simp[U.Q8,P,X,hd,h1,b5,h5,d]at E;generalize ho:bO R (.loop U.xP) _ _=o at E;obtain⟨e9,s9,h8,hq,vN,vF,aE,rfl,A,q,hI⟩:=YL hx J B c0 cn hb (sP:=S3.nx) (jh:=S0.nx) (kf:=s5.nx) (na:=S1.nx) (by simp) h7 ho;clear ho;have cN:cellsOf vN=some [vN]:=(q.k.mem.own 1 _ _ _ rfl).one;have cF:cellsOf vF=some [vF]:=(q.k.mem.own 2 _ _ _ rfl).one;have hC:=(q.k.bm 2 _ _ rfl).1.1;obtain⟨h9,Gj,b⟩:=q.k.put (a:=2) rfl (v:=.agg [vN,vF]) (new:=[vN,vF]) (by simp) rfl;simp only[bJ,aO]at b;have hE:=(b.bm 2 _ _ rfl).1.1;simp only[aB,aC,bn,Nat.reduceAdd]at Gj hE hC;simp only[ab,ae]at A;simp[A,hC,an,Gj]at E;subst E;have t:∀k,(D:k<aE.length)->∃u:k<x.nx.length,aE[k].2=(5,(x.nx[k]).map Eg.c)/\cu h9 aE[k].1 5 (λp=>h8 p=some (k+3)) ((x.nx[k]).map Eg.c):=by
  intro k D;have h2:=ch (λl=>l[k]?) hI;simp[D]at h2;have hlen:aE.length=x.nx.length:=by have:=ch List.length hI;simpa using this
  have u:k<x.nx.length:=by omega
  have h4:aE[k].2=(5,(x.nx[k]).map Eg.c):=by simp[u]at h2;exact h2.symm▸rfl
  exact⟨u,h4,b.mem.own (k+3) aE[k].1 5 ((x.nx[k]).map Eg.c) (by simp[D];rw[<-h4])⟩
 refine⟨?_,vV (v:=.agg [vN,vF]) (s':=h9) (by simp[A,hE,an]) (MV λv hv=>?_)⟩
 .simp[A,hE,an];refine aY (.agg (.cons ?_ (.cons ?_ .nil)))
  .have hg:=((b.mem.own 1 _ _ _ rfl).vwH (f:=λe:tO=>e.1) (g:=λe:tO=>HV.psl e.2.2) (n:=14) (λy hy=>?_))
   .have:aE.map (λx=>[HV.psl x.2.2])=x.nx.map oG:=by
     have h:=ch (List.map λ(p:Nat×List ai)=>[HV.psl p.2]) hI;have ha:oG=λx:bu=>[HV.psl (List.map Eg.c x)]:=rfl
     rw[ha];simpa[Function.comp_def]using h
    rw[<-this];exact hg
   obtain⟨k,D,rfl⟩:=eO.1 hy;obtain⟨u,h4,z⟩:=t k D;rw[h4];exact z.vw (by simp)
  exact(b.mem.own 2 _ _ _ rfl).vw (by simp)
 rcases bk.1 hv with rfl|hv
 .refine AE (b.mem.own 1 _ _ _ rfl) λc I=>?_
  have hj:aD (aE.map gP)=aE.map (·.1):=by
   clear q b hI t I
   induction aE with|nil=>rfl|cons a l ih=>rw[bX,cj,ih];rfl
  rw[hj]at I;obtain⟨y,hy,rfl⟩:=cU.1 I;obtain⟨k,D,rfl⟩:=eO.1 hy;obtain⟨u,h4,z⟩:=t k D;exact sE z (J7 _)
 rw[cr.1 hv];exact sE (b.mem.own 2 _ _ _ rfl) (GM _)
open Classical in
def afN(l:fH)(d:l.length<=6000)(s:HS):R (.call 127 [.psl (l.map Ei.c)] s)=.val (.bool (!decide (rq l))) s:=by
 refine adA ?_;have h:=afk l d;by_cases b:rq l
 .simp only[b,eV]at h;simp[U.Qw,h,b,aa]
 simp only[b,kY]at h;simp[U.Qw,h,b,aa]
open Classical in
def YN(x:Ax)(A:mN x)(s:HS):R (.call 158 [.psl (x.nx.map zd),.fn 127 [] []] s)=.val (iV (zB (λl:fH=> !decide (rq l)) x.nx)) s:=by
 refine Xw ?_ rfl (by simp[eo]);have O:=A.n;simp[U.Q0];generalize B:bO R (.loop U.nL) _ _=o;have C:=jd B x.nx.length (λi=>∀h:i<x.nx.length,rq x.nx[i]) (λi=>[(0,.psl (x.nx.map zd)),(1,.fn 127 [] []),(7,iV x.nx.length),(8,iV i)]) [] 0 (λi o=>∃u,o=.code .ret u s0/\look u 4=some (iV i)) (by simp)
  (λi e r c d k=>by
   have q:(i:Int)<x.nx.length:=by omega
   have b:=afN x.nx[i] (A.row (aX c));simp only[ab,ae]at d;by_cases z:rq x.nx[i]
   .simp only[z,eV,mB]at b;simp[U.nL,d,c,q,b,br (n:=6000) (show i<6000 by omega) (by omega)]at k;subst k;exact .inl ⟨λ_=>z,_,rfl,by simp[d]⟩
   simp only[z,kY,ua]at b;simp[U.nL,d,c,q,b]at k;subst k;exact .inr ⟨λh=>z (h c),by simp,_,rfl,by simp⟩)
  (λe r d k=>by
   simp only[ab,ae]at d;simp[U.nL,d]at k;subst k;exact⟨_,rfl,by simp⟩)
 clear B;rcases C with⟨i,c,D,E,u,rfl,I⟩|⟨t,u,rfl,_⟩
 .have J:¬rq x.nx[i]:=λh=>E λ_=>h
  rw[vU (p:=λl:fH=> !decide (rq l)) c (λj M=>by simpa using D j M (by omega)) (by simpa using J)];simp[I,aa]
 rw[mY (p:=λl:fH=> !decide (rq l)) (λi c=>by simpa using t i c c)];simp[aa]
open Classical in
def YO(x:Ax)(b:mN x)(s:HS):R (.call 131 [.psl (x.nx.map zd),.fn 127 [] []] s)=.val (.bool (x.nx.any λl=> !decide (rq l))) s:=by refine Xv ?_ rfl (by simp[eo]);have h:=YN x b;simp only[iV]at h;rw[<-yG];simp[U.Qz,h,aa]
def Ko(l:bu):rq (l.map Eg.i)↔tR l:=by unfold rq tR;simp only[bz,BR,Eg.i]
open Classical in
def Nb(x:Fa):(x.i.nx.any λl=> !decide (rq l))= !decide (rj x):=by
 by_cases b:rj x
 .rw[dq b,mB,rh];intro l c;obtain⟨k,d,rfl⟩:=cU.1 c;simp[(Ko k).2 (b k d)]
 rw[cK b,ua,ahf];obtain⟨l,c⟩:=Classical.not_forall.1 b;obtain⟨d,q⟩:=Classical.not_imp.1 c;exact⟨l.map Eg.i,cU.2 ⟨l,d,rfl⟩,by simp[mt (Ko l).1 q]⟩
def fZ{s s':HS}{o:Ky}{k n:Nat}{v:HV}{l:ai}(h:qh n (some (.ptr o k)) (some v) s=.v .undef s')(c:cellsOf v=some l)(d:l.length=n):kG s (aj s.h o) o k l=some s':=by
 rw[kD,c]at h;simp only[dP,d,bp,lv]at h;cases b:kG s (aj s.h o) o k l with
 |none=>rw[b]at h;cases h
 |some s2=>rw[b]at h;cases h;rfl
def AJ{x:Fa}{cls:bb}{m:Mv}{P:Eg->Bool}:∀{l l':bu},l.map (λe=>(e.m,cls.getD e.to 0))=l'.map (λe=>(e.m,cls.getD e.to 0))->(∀e∈l,P e=decide (e.m=m))->(∀e∈l',P e=decide (e.m=m))->
  match l.find? P,l'.find? P with|none,none=>True|some e,some k=>cls.getD e.to 0=cls.getD k.to 0/\e∈l/\k∈l'|_,_=>False
 |[],[],_,_,_=>trivial
 |[],b::l',h,_,_=>by cases h
 |a::l,[],h,_,_=>by cases h
 |a::l,b::l',h,q,r=>by
  rw[bX,bX]at h;injection h with u z
  injection u with A B
  have c:=AJ (x:=x) (m:=m) (P:=P) z (λe d=>q e (by simp[d])) (λe d=>r e (by simp[d]));rw[tY,tY,q a (by simp),r b (by simp),A];by_cases t:b.m=m
  .simp only[t,eV];exact⟨B,by simp⟩
  simp only[t,kY];cases C:l.find? P<;>cases D:l'.find? P<;>rw[C,D]at c
  .exact c
  .exact c
  .exact c
  exact⟨c.1,by simp[c.2.1,c.2.2]⟩
def DN{x:Fa}(r:bA x)(C:DB x){cls:bb}(A:sH x cls λp=>p<x.nx.length):∀i j:Nat,i<x.nx.length->j<x.nx.length->cls.getD i 0=cls.getD j 0->i=j:=by
 intro i j D E t;have I:=r.nf;refine C.inj (λa b=>a<x.nx.length/\b<x.nx.length/\cls.getD a 0=cls.getD b 0) ⟨λa b ⟨k,q,d⟩=>?_,λa b ⟨k,q,d⟩ m=>?_⟩ i j ⟨D,E,t⟩
 .have c:=(A.eq a b k q d).1;rw[getD_at (by omega),getD_at (by omega)]at c;exact⟨k,q,by rw[aX (by omega),aX (by omega),c],by rw[yJ,yJ,au k,au q]⟩
 have B:∀p,∀e∈x.nx.getD p [],im (List.replicate x.nx.length true) m e=decide (e.m=m):=by intro p e t;have:=jB r p e t;unfold im;rw[KP,yJ,au this];simp
 have c:=AJ (x:=x) (m:=m) (A.eq a b k q d).2 (B a) (B b);cases u:(x.nx.getD a []).find? (im (List.replicate x.nx.length true) m)<;>cases z:(x.nx.getD b []).find? (im (List.replicate x.nx.length true) m)<;>rw[u,z]at c
 .trivial
 .exact c
 .exact c
 exact⟨jB r a _ c.2.1,jB r b _ c.2.2,c.1⟩
def afO(x:Fa)(B:bA x)(hs:FK x)(d:x=j8∨DB x)(hq:x.nx.length<=24){s:HS}{ao:aW}{vN vF:HV}(h:aI s ao [(vF,1,x.fi.map bC),(vN,1,x.nx.map oG)] []):
  ∃s',R (.call 133 [.agg [vN,vF]] s)=.val (.agg x.c) s':=by
 have hn:=B.n;have ht:=B.nf;have hy:=B.pos;obtain⟨z,rfl⟩:=(h.mem.own 1 _ _ _ rfl).gP (by intro h;have:=ch List.length h;rw[bz]at this;simp only[aC]at this;omega);obtain⟨A,rfl⟩:=(h.mem.own 0 _ _ _ rfl).gP (by intro h;have:=ch List.length h;rw[bz]at this;simp only[aC]at this;omega);rw[bz,bz,<-ht]at h;rw[bz,bz,<-ht];obtain⟨u,h4,h5,k0⟩:=afC x B;have kj:=h4.1;have q:∀{S:HS} {ao:aW} {K:de},aI S ao [(.sl A 0 x.nx.length 1,1,x.fi.map bC),(.sl z 0 x.nx.length 1,1,x.nx.map oG)] K->Vw S 16 (.agg [.sl z 0 x.nx.length 1,.sl A 0 x.nx.length 1]) (.agg x.c):=λh=>.agg (.cons ((h.mem.own 1 _ _ _ rfl).vw (n:=13) (pM _)) (.cons ((h.mem.own 0 _ _ _ rfl).vw (n:=13) (MI _)) .nil))
 have M:=h.cL [.ah,.ah];generalize h6:HS.mk _ _ _ _=J at M;have V:R (.call 162 [.agg [.sl z 0 x.nx.length 1,.sl A 0 x.nx.length 1]] J)=.val (.psl (u.map bC)) J:=adX (by simp[cI,cm]) (.cons (q M) .nil) (by simp) h5 k0;have kk:=M.cL [.psl (u.map bC)];have hz:=M.cL [.ah];have dz:=(hz.bm 0 _ _ rfl).1.1;obtain⟨s3,b3,O⟩:=hz.yB (a:=0) rfl 0 (by simp) (x:=.psl (u.map bC)) rfl;simp only[aO]at O;generalize h7:HS.mk (av (some (.cells (cP [HV.ah]) 0 [HV.ah].length J.nx)) J.nx J.h) _ _ _=S2 at hz dz b3;have d3:=(O.bm 0 _ _ rfl).1.1;have u0:0<u.length:=by omega
 simp only[aB,aC,bn,Nat.reduceAdd]at h6 h7 d3 dz;have h8:=iu b3 rfl;rw[dz]at h8;have k1:∃e' s',ev R U.Js (bc [.agg [.sl z 0 x.nx.length 1,.sl A 0 x.nx.length 1]] 0) s=.code .ret e' s'/\look e' 2=some (.ptr s.nx 0)/\∃ao K,aI s' ao [(.sl A 0 x.nx.length 1,1,x.fi.map bC),(.sl z 0 x.nx.length 1,1,x.nx.map oG)] ((J.nx,[.psl (u.map bC)])::(s.nx,x.c)::K):=by
  generalize t:ev R U.Js (bc [.agg [.sl z 0 x.nx.length 1,.sl A 0 x.nx.length 1]] 0) s=r;rcases d with C|d
  .have h9:u[0]=false:=by
    cases hb:u[0]
    .rfl
    exfalso;have:=(h4.2 0).1 (by rw[aX u0,hb]);rw[C]at this;cases this with
    |fin hf=>simp[j8]at hf
    |Fy hl he _=>simp[j8]at hl;subst hl;cases he
   have D:=afD;rw[<-C]at D;obtain⟨P,b4,k⟩:=O.put (a:=1) rfl (v:=.agg x.c) (new:=x.c) (by simp[cellsOf]) rfl;simp only[aO,bJ]at k;have k2:=fZ (l:=x.c) b4 rfl rfl;simp only[aB,aC,bn,Nat.reduceAdd,Fa.c]at b4 k2;simp only[Fa.c]at D;simp[U.Js,h6,V,h7,h8,d3,u0,h9,D,k2]at t;subst t;exact⟨_,P,rfl,by simp,_,[],k⟩
  have E:∀i,i<x.nx.length->u[i]?=some true:=λi X=>(h4.2 i).2 (d.live i X)
  have h9:u[0]=true:=by have:=E 0 hy;rw[aX u0]at this;exact lr this
  simp[U.Js,h6,V,h7,h8,d3,u0,h9]at t;generalize ho:ev R (.loop U.BA) _ _=o at t;have ha:∃(e':En) (s':HS) (ao:aW),o=.code (.exit 0) e' s'/\bB e' [(1,.aw [.sl z 0 x.nx.length 1,.sl A 0 x.nx.length 1]),(2,.ptr s.nx 0),(3,.ptr J.nx 0)]/\
    aI s' ao [(.sl A 0 x.nx.length 1,1,x.fi.map bC),(.sl z 0 x.nx.length 1,1,x.nx.map oG)] [(J.nx,[.psl (u.map bC)]),(s.nx,[.ah,.ah])]:=by
   clear t;revert o;refine ajY x.nx.length
    (λi e s'=>∃ao,bB e [(1,.aw [.sl z 0 x.nx.length 1,.sl A 0 x.nx.length 1]),(2,.ptr s.nx 0),(3,.ptr J.nx 0),(16,iV x.nx.length),(17,iV i)]/\
     aI s' ao [(.sl A 0 x.nx.length 1,1,x.fi.map bC),(.sl z 0 x.nx.length 1,1,x.nx.map oG)] [(J.nx,[.psl (u.map bC)]),(s.nx,[.ah,.ah])])
    0 (by omega) ⟨_,by simp,O⟩ ?_ ?_
   .rintro i e s' r X ⟨ao,hL,hM⟩ t
    have k9:(i:Int)<x.nx.length:=by omega
    have ka:=B.row X;have dc:=(hM.bm 0 _ _ rfl).1.1;have g1:eN (aj s'.h z) i=some (.psl (x.nx[i].map Eg.c)):=by rw[(hM.mem.own 1 _ _ _ rfl).cell i (by simpa using X)];simp
    have k3:=Yo u x.nx[i] ka (λe he=>E _ (B.to _ (cb X) e he)) dc;obtain⟨o1,P,q1,q2,k⟩:=hM.jQ 1 rfl i (by simpa using X) (x:=.psl (x.nx[i].map Eg.c)) rfl;simp[X]at q1;obtain rfl:=q1;simp only[aO,bJ,jl]at k q2;have q3:=iu q2 rfl;have k4:(x.nx.map oG).set i [.psl (x.nx[i].map Eg.c)]=x.nx.map oG:=by
     refine qD (by simp) λj h1 h2=>?_
     by_cases k5:i=j
     .subst k5;simp
     rw[Kp k5]
    rw[k4]at k;have hw:=br (n:=400) (show i<400 by omega) (by omega);simp only[ab,ae]at hL;simp[U.BA,hL,X,k9,g1,k3,q3,hw]at t;subst t;exact .inl ⟨_,_,rfl,ao,by simp[hL],k⟩
   rintro e s' r ⟨ao,hL,hM⟩ t
   simp only[ab,ae]at hL;simp[U.BA,hL]at t;subst t;exact⟨by simp,_,_,ao,rfl,by simp[hL],hM⟩
  obtain⟨e4,P,ke,rfl,I,k⟩:=ha;obtain⟨Y,b,kb,hd,k6⟩:=afM x B hs d hq;obtain⟨Z,kc,hg,k7⟩:=afJ x B hs;have kg:dv [HV.agg x.c]=true:=by simp
  have h3:R (.call 166 [.agg [.sl z 0 x.nx.length 1,.sl A 0 x.nx.length 1]] P)=.val (.cO [.psl (Y.map iC),.bool b]) P:=ad2 (by simp[cI,cm]) (.cons (q k) .nil) (by simp) hd k6;have k8:R (.call 167 [.agg [.sl z 0 x.nx.length 1,.sl A 0 x.nx.length 1]] P)=.val (.psl (Z.map iC)) P:=ad4 (by simp[cI,cm]) (.cons (q k) .nil) (by simp) hg k7;have a201:∀hj:bb,(sH x hj λp=>p<x.nx.length)->R (.call 168 [.agg [.sl z 0 x.nx.length 1,.sl A 0 x.nx.length 1],.psl (hj.map iC)] P)=.val (.agg x.c) P:=λhj hG=>ad6 (by simp[cI,cm]) (.cons (q k) (.cons (.data (by simp)) .nil)) (by simp) (YM x B d hG.len (DN B d hG)).1 (YM x B d hG.len (DN B d hG)).2
  obtain⟨s5,b5,hk⟩:=k.put (a:=1) rfl (v:=.agg x.c) (new:=x.c) (by simp[cellsOf]) rfl;simp only[aO,bJ]at hk;have hp:=fZ (l:=x.c) b5 rfl rfl;simp only[aB,aC,bn,Nat.reduceAdd,Fa.c]at b5 hp;simp only[Fa.c]at a201;simp only[ab,ae]at I;cases b
  .have a201:=a201 Y (kb rfl);simp[I,h3,a201,hp]at t;subst t;exact⟨_,s5,rfl,by simp[I],_,[],hk⟩
  have a201:=a201 Z kc;simp[I,h3,k8,a201,hp]at t;subst t;exact⟨_,s5,rfl,by simp[I],_,[],hk⟩
 obtain⟨e',s',hE,h2,ki,K',kd⟩:=k1;have hC:=(kd.bm 1 _ _ rfl).1.1;simp only[aB,aC,bn,Nat.reduceAdd,Fa.c]at hC;exact⟨s',adG rfl ⟨.ret,_,s',hE,.inr rfl,by simp[h2,hC,an]⟩⟩
def afP(x:Fa)(r:bA x)(M:rj x)(C:hZ x=x)(P:FK x)(z:x.nx.length<=24)(s:HS):R (.call 111 [.agg x.c] s)=.val (iV 0) s:=by
 refine ado ?_;have A:=MT r M C;have k:=afu x.i r.ok;have b:=afr x.i r.ok;have q:=YO x.i r.ok;have d:=afy x.i x.i r.ok;simp only[Nb,M,eV,mB]at q;simp only[eV]at d;have B:mo x.i=true:=by unfold mo;simp only[bY];refine⟨by simp[Fa.i,r.pos],by simp[Fa.i,r.nf],λl C e V=>?_⟩;simp only[Fa.i,cU]at C;obtain⟨X,D,rfl⟩:=C;obtain⟨Y,E,rfl⟩:=cU.1 V;have:=r.to X D Y E;simp only[Eg.i,Fa.i,bz];omega
 rw[B]at b;have I:x.i.nx.map zd=x.nx.map oG:=by have O:=Fa.XH x;simp only[Ax.c,Fa.c,n6,HV.psl.injEq,and_true]at O;exact O.1
 rw[I]at q;rw[Fa.XH]at k b d;have h0:aI s0 (λ_=>none) [] []:=⟨dV.start (by simp),by simp,by simp⟩;obtain⟨vN,vF,Z,c1,K1,t,kN,kF,J⟩:=afF x r h0;obtain⟨s2,u⟩:=afO x r P A z (ao:=c1) (s:=Z) (vN:=vN) (vF:=vF) ⟨J.mem,by simp,by simp⟩;simp only[Fa.c]at k b d u t;simp[U.V5,k,b,q,d,u,t,aa]
def YP(row:ai)(x:Sn):Prop:=row=x.c∨(x.mn.op=[]/\row=[iV x.st,.ah,.bool x.mn.lost,.bool x.mn.forced,.bool x.mn.begun])
def YQ(row:ai)(x y:Sn)(d:YP row x)(b:x.mn.op.length<=400)(s:HS):R (.call 72 [.agg row,.agg y.c] s)=.val (.bool (decide (x=y))) s:=by
 rcases d with rfl|⟨h0,rfl⟩
 .exact Yb x y b s
 have h:=Yb x y b s0;refine yx 72 U.f134 _ [.agg x.c,.agg y.c] _ s rfl rfl rfl ?_ (by simp[eo]) ?_ (by simp) h
 .have:=gF (y.mn.op.map Mv.c) (cD (λx=>by simp) _);simp[cI,cm,this,iV]
 have:=iW (y.mn.op.map Mv.c) (cD (λx=>by simp) _);simp[oH,nn,this,h0,iV]
def YR(row:ai)(x:Mn):Prop:=row=x.c∨(x.op=[]/\row=[.ah,.bool x.lost,.bool x.forced,.bool x.begun])
def Oj(row:ai)(x:Mn)(b:YR row x)(s:HS):R (.call 69 [.agg row] s)=.val (.bool x.over) s:=by
 rcases b with rfl|⟨h0,rfl⟩
 .exact Ya x s
 exact yx 69 U.f131 _ [.agg x.c] _ s rfl rfl rfl (by simp[cI,cm]) (by simp[eo]) (by simp[oH,nn,h0]) (by simp) (Ya x s0)
def YS(a:Ar)(ok:fz a)(b:aQ a=0)(row:ai)(x:Mn)(q:YR row x)(d:x.op.length<=400)(m:Mv)(s:HS):R (.call 70 [.agg row,.agg a.c,.agg m.c] s)=.val (.bool (ir a x m)) s:=by
 rcases q with rfl|⟨h0,rfl⟩
 .exact Yc a ok b x d m s
 have k:dv a.c=true:=by simp
 refine yx 70 U.f132 _ [.agg x.c,.agg a.c,.agg m.c] _ s rfl rfl rfl ?_ (by simp[eo]) ?_ (by simp) (Yc a ok b x d m s0)
 .have:=dU a.c k;simp only[cI,cm,this];simp[cI,cm]
 have:=mS a.c k;simp only[oH,nn,this];simp[oH,nn,h0]
def YU(row:ai)(x:Mn)(k:YR row x)(d:x.op.length<=400)(m:Mv)(b:dS m=false->x.op≠ [])(s:HS):R (.call 71 [.agg row,.agg m.c] s)=.val (.agg (gL x m).c) s:=by
 rcases k with rfl|⟨h0,rfl⟩
 .exact Yd x d m b s
 exact yx 71 U.f133 _ [.agg x.c,.agg m.c] _ s rfl rfl rfl (by simp[cI,cm]) (by simp[eo]) (by simp[oH,nn,h0]) (by simp) (Yd x d m b s0)
def Kq(v:HV)(l:bE):Prop:=v=.psl (l.map Mv.c)∨(l=[]/\v=.ah)
def Ok(v b:HV)(l l':bE)(h:Kq v l)(d:Kq b l')(k:l.length<=400)(s:HS):R (.call 68 [v,b] s)=.val (.bool (decide (nU l=nU l'))) s:=by
 have h0:=afc l l' k;rcases h with rfl|⟨rfl,rfl⟩
 .rcases d with rfl|⟨rfl,rfl⟩
  .exact h0 s
  refine yx 68 U.f130 _ [.psl (l.map Mv.c),.psl []] _ s rfl rfl rfl ?_ (by simp[eo]) ?_ (by simp) (h0 s0)
  .have:=gF _ (qk l);simp[cI,cm,this]
  have:=iW _ (qk l);simp[oH,nn,this]
 rcases d with rfl|⟨rfl,rfl⟩
 .refine yx 68 U.f130 _ [.psl [],.psl (l'.map Mv.c)] _ s rfl rfl rfl ?_ (by simp[eo]) ?_ (by simp) (h0 s0)
  .have:=gF _ (qk l');simp[cI,cm,this]
  have:=iW _ (qk l');simp[oH,nn,this]
 exact yx 68 U.f130 _ [.psl [],.psl []] _ s rfl rfl rfl (by simp[cI,cm]) (by simp[eo]) (by simp[oH,nn]) (by simp) (h0 s0)
section
variable{y:Sn}
def afQ{l:jT}{ak:aP}(I:ak.length=l.length)(J:∀i,(h:i<l.length)->YP (ak[i]'(by omega)) l[i])(dA:∀x∈l,x.mn.op.length<=400)(hb:l.length<=3518437208883){e:En}{s:HS}{o:Out}{o8 o13:Ky}{v2 v3 v4 v5 v6 v7 v9 v10 v11 v12:HV}{F:bM}
  (d:bB e [(2,v2),(3,v3),(4,v4),(5,v5),(6,v6),(7,v7),(8,.sl o8 0 l.length 5),(9,v9),(10,v10),(11,v11),(12,v12),(13,.ptr o13 0),(14,.bool false),(15,iV 0)])
  (M:cu s (.sl o8 0 l.length 5) 5 F ak)(B:aj s.h o13=some (.cells (cP y.c) 0 5 o13))(O:bO R (.loop U.Aa) e s=o):
  ∃e',o=.code (.exit 4) e' s/\bB e' [(2,v2),(3,v3),(4,v4),(5,v5),(6,v6),(7,v7),(8,.sl o8 0 l.length 5),(9,v9),(10,v10),(11,v11),(12,v12),(13,.ptr o13 0),(14,.bool (l.any λx=>decide (x=y)))]:=by
 have P:=jd O l.length (λ_=>True)
  (λi=>[(2,v2),(3,v3),(4,v4),(5,v5),(6,v6),(7,v7),(8,.sl o8 0 l.length 5),(9,v9),(10,v10),(11,v11),(12,v12),(13,.ptr o13 0),(14,.bool ((l.take i).any λx=>decide (x=y))),(15,iV i)])
  [(2,v2),(3,v3),(4,v4),(5,v5),(6,v6),(7,v7),(8,.sl o8 0 l.length 5),(9,v9),(10,v10),(11,v11),(12,v12),(13,.ptr o13 0),(14,.bool (l.any λx=>decide (x=y)))] 4 (λ_ _=>False) (by simpa using d)
  (λi e r t d b=>by
   have u:(i:Int)<l.length:=by omega
   have C:=br (n:=3518437208883) (show i<3518437208883 by omega) (by omega);have z:((l.take (i+1)).any λx=>decide (x=y))=(((l.take i).any λx=>decide (x=y))||decide (l[i]=y)):=by rw[eW t,List.any_append];simp
   have q:=YQ ak[i] l[i] y (J i t) (dA _ (cb t));obtain⟨V,D,_,_,X⟩:=M.at (k:=.i64) i (by omega);have A:V=o8:=by simp[t]at D;exact D.symm
   subst A;simp only[ab,ae]at d;simp only[Sn.c,iV]at q B;cases E:(l.take i).any λx=>decide (x=y)
   .rw[E]at d z;simp[U.Aa,d,t,u,C,X,B,an,q]at b;subst b;exact .inl ⟨trivial,_,rfl,by simp[d,z]⟩
   rw[E]at d z;simp[U.Aa,d,u,C]at b;subst b;exact .inl ⟨trivial,_,rfl,by simp[d,z]⟩)
  (λe r d b=>by
   simp only[ab,ae,mP]at d;simp[U.Aa,d]at b;subst b;exact⟨_,rfl,by simp[d]⟩)
 rcases P with⟨_,_,_,_,h⟩|⟨_,e',Y,Z⟩
 .exact h.elim
 exact⟨e',Y,Z⟩
end
def GX{a:Ar}{x:Mn}{m:Mv}(h:ir a x m=true)(b:dS m=false):x.op≠ []:=by intro h0;unfold ir at h;rw[h0,b]at h;simp at h
def yN(l:jT)(b:Sn)(e:Eg):jT:=
 if l.any λx=>decide (x=⟨e.to,gL b.mn e.m⟩)then l else l++[⟨e.to,gL b.mn e.m⟩]
def jx(b:Sn)(l:jT)(es:bu):jT:=es.foldl (λl e=>yN l b e) l
def Ig(b:Sn)(l:jT)(es:bu)(e:Eg):jx b l (es++[e])=yN (jx b l es) b e:=by simp[jx]
def DO(x:Mn)(m:Mv):(gL x m).op.length<=x.op.length+1:=by
 unfold gL
 split
 .simp
 simp;omega
section
variable{s:HS}{ao:aW}{L:cq}{K:de}
def aI.tail{k:Ky×List HV}(h:aI s ao L (k::K)):aI s ao L K:=
 ⟨h.mem,λa o c q=>h.bm (a+1) o c q,λa b o c d q r=>by have:=h.nd (a+1) (b+1) o c d q r;omega⟩
end
structure DP(l:jT)(ak:aP)(D:Nat):Prop where
 len:ak.length=l.length
 row:∀i,(h:i<l.length)->YP (ak[i]'(by omega)) l[i]
 op:∀x∈l,x.mn.op.length<=D
def DP.snoc{l:jT}{ak:aP}{D:Nat}(h:DP l ak D){y:Sn}(k:y.mn.op.length<=D):DP (l++[y]) (ak++[y.c]) D:=by
 refine⟨by simp[h.len],λi q=>?_,λx r=>?_⟩
 .by_cases b:i<l.length
  .rw[yy (by rw[h.len];exact b),yy b];exact h.row i b
  have t:i=l.length:=by simp at q;omega
  subst t;left;rw[FO (by rw[h.len];exact aV _),FO (aV _)];simp
 rcases l5.1 r with d|d
 .exact h.op x d
 rw[cr.1 d];exact k
def afR(a:Ar)(ok:fz a)(hc:aQ a=0)(x:Fa)(hx:bA x)(b:Sn)(P:b.st<x.nx.length){D:Nat}(hD:D<400)(k0:b.mn.op.length<=D)(l0:jT)(hB:∀k,(jx b l0 (x.nx[b.st].take k)).length<3518437208883)
  {e:En}{s:HS}{o:Out}{o10:Ky}{v4 v5 v6 v7 v8 v9 vo:HV}{ao:aW}{E6 E7 ak:aP}(hf:Kq vo b.mn.op)
  (A:bB e [(2,.aw a.c),(3,.aw x.c),(4,v4),(5,v5),(6,v6),(7,v7),(8,v8),(9,v9),(10,.ptr o10 0),(11,iV 0)])
  (O:aI s ao [(v6,1,E6),(v7,1,E7),(v8,5,ak)] [(o10,[iV b.st,vo,.bool b.mn.lost,.bool b.mn.forced,.bool b.mn.begun])])(u:DP l0 ak (D+1))(h0:l0≠ [])(ho:bO R (.loop U.Ab) e s=o):
  (∃k,∃h:k<x.nx[b.st].length,ir a b.mn x.nx[b.st][k].m=false/\∃e' s',o=.code .ret e' s'/\look e' 4=some .ah/\look e' 5=some (.bool false))∨
  ((∀k,(h:k<x.nx[b.st].length)->ir a b.mn x.nx[b.st][k].m=true)/\∃(e':En) (s':HS) (ao:aW) (v8:HV) (ak:aP),o=.code (.exit 2) e' s'/\bB e' [(2,.aw a.c),(3,.aw x.c),(4,v4),(5,v5),(6,v6),(7,v7),(8,v8),(9,v9)]/\
   aI s' ao [(v6,1,E6),(v7,1,E7),(v8,5,ak)] []/\DP (jx b l0 x.nx[b.st]) ak (D+1)):=by
 have ht:(b.st:Int)<x.nx.length:=by omega
 revert o;show∀o,_;refine ajX x.nx[b.st].length
  (λk e s=>(∀j,(h:j<x.nx[b.st].length)->j<k->ir a b.mn x.nx[b.st][j].m=true)/\∃(ao:aW) (v8:HV) (ak:aP),bB e [(2,.aw a.c),(3,.aw x.c),(4,v4),(5,v5),(6,v6),(7,v7),(8,v8),(9,v9),(10,.ptr o10 0),(11,iV k)]/\
   aI s ao [(v6,1,E6),(v7,1,E7),(v8,5,ak)] [(o10,[iV b.st,vo,.bool b.mn.lost,.bool b.mn.forced,.bool b.mn.begun])]/\DP (jx b l0 (x.nx[b.st].take k)) ak (D+1)/\jx b l0 (x.nx[b.st].take k)≠ [])
  0 (by omega) ⟨λj h hj=>by omega,ao,v8,ak,A,O,u,h0⟩ ?_ ?_
 .rintro k e s r hk ⟨B,ao,v8,ak,A,O,u,h0⟩ C
  have h6:(k:Int)<x.nx[b.st].length:=by omega
  have k1:=hx.row P;have hw:=br (n:=6000) (show k<6000 by omega) (by omega);generalize hl:jx b l0 (x.nx[b.st].take k)=l at u h0;have k2:l.length<3518437208883:=by rw[<-hl];exact hB k
  obtain⟨o8,rfl⟩:=(O.mem.own 2 _ _ _ rfl).gP (by intro h;have h1:=u.len;rw[h]at h1;exact h0 (ja h1.symm));rw[u.len]at A O;have h7:YR [vo,.bool b.mn.lost,.bool b.mn.forced,.bool b.mn.begun] b.mn:=by
   rcases hf with rfl|⟨h1,rfl⟩
   .exact .inl rfl
   exact .inr ⟨h1,rfl⟩
  have q:=YS a ok hc _ b.mn h7 (by omega) x.nx[b.st][k].m;have hC:=(O.bm 0 o10 _ rfl).1.1;have E:=O.cL (x.nx[b.st][k]).c;have hz:=(O.cL [HV.int .i64 0,.int .i64 0,.int .u8 0,.int .i64 0,.int .i64 0]).bm 1 o10 _ rfl;have V:=(E.bm 1 o10 _ rfl).1.1;have X:=(E.bm 0 _ _ rfl).1.1;generalize h4:HS.mk (av (some (.cells (cP (x.nx[b.st][k]).c) 0 (x.nx[b.st][k]).c.length s.nx)) s.nx s.h) s.nx.succ (av (some [s.nx]) s.nx s.gr) s.ty=Y at E V X;have hlen:=u.len;simp only[ab,ae]at A;simp only[aB,aC,bn,Nat.reduceAdd,Eg.c]at hC V X h4;simp only[Ar.c,Mv.c]at q;cases I:ir a b.mn x.nx[b.st][k].m
  .rw[I]at q;simp[U.Ab,A,P,hk,h6,hC,V,X,h4,aq,aA,an,q]at C;subst C;exact .inr ⟨by simp,.inl ⟨k,hk,I,_,_,rfl,by simp⟩⟩
  rw[I]at q;have h2:=YU _ b.mn h7 (by omega) x.nx[b.st][k].m (λha=>GX I ha);have hz:=E.cL [HV.int .i64 0,.ah,.bool false,.bool false,.bool false];have h8:=(hz.bm 2 o10 _ rfl).1.1;have h3:=(hz.bm 1 _ _ rfl).1.1;generalize hy:(⟨(x.nx[b.st][k]).to,gL b.mn x.nx[b.st][k].m⟩:Sn)=y;have hg:[iV (x.nx[b.st][k]).to,.psl ((gL b.mn x.nx[b.st][k].m).op.map Mv.c),.bool (gL b.mn x.nx[b.st][k].m).lost,.bool (gL b.mn x.nx[b.st][k].m).forced,.bool (gL b.mn x.nx[b.st][k].m).begun]=y.c:=by rw[<-hy];rfl
  have J:=E.cL y.c;have Z:=(J.bm 0 _ _ rfl).1.1;generalize h5:HS.mk (av (some (.cells (cP y.c) 0 y.c.length Y.nx)) Y.nx Y.h) Y.nx.succ (av (some [Y.nx]) Y.nx Y.gr) Y.ty=S2 at J Z;rw[<-hg]at h5;simp only[aB,aC,bn,Nat.reduceAdd,Eg.c,Mv.c,Mn.c,iV]at h8 h3 h5 h2;simp[U.Ab,A,P,hk,h6,hC,V,X,h4,aq,aA,an,q,h2,h3,h5]at C;generalize ho:bO R (.loop U.Aa) _ _=o at C;obtain⟨e2,rfl,t⟩:=afQ (y:=y) (o8:=o8) (o13:=Y.nx) (v2:=.aw a.c) (v3:=.aw x.c) (v4:=v4) (v5:=v5) (v6:=v6) (v7:=v7) (v9:=v9) (v10:=.ptr o10 0) (v11:=iV k) (v12:=.ptr s.nx 0) u.len u.row (λz hz=>by have:=u.op z hz;omega) (by omega) (by simp[A]) (J.mem.own 2 _ _ _ rfl) Z ho;clear ho;have d:jx b l0 (x.nx[b.st].take (k+1))=if l.any λx=>decide (x=y)then l else l++[y]:=by rw[eW hk,Ig,hl,yN,hy]
  have M:∀(j:Nat) (h:j<x.nx[b.st].length),j<k+1->ir a b.mn x.nx[b.st][j].m=true:=λj h hj=>by
   by_cases hq:j=k
   .subst hq;exact I
   exact B j h (by omega)
  have h9:y.mn.op.length<=D+1:=by rw[<-hy];have:=DO b.mn x.nx[b.st][k].m;simp only;omega
  simp only[ab,ae]at t;cases hp:l.any λx=>decide (x=y)
  .rw[hp]at t d;obtain⟨hs,s3,hb,a3,c3,hd⟩:=J.append 2 rfl (new:=[y.c]) (Sz.cons rfl Sz.nil) (by simp) (bI:=3518437208883) (by simp;omega);simp only[bJ,aO]at hd;simp only[Sn.c,aB,aC,bn,Nat.reduceAdd,iV]at a3 Z;simp[t,Z,an,a3,hw]at C;subst C;refine .inl ⟨_,_,rfl,M,hb,hs,ak++[y.c],by simp[t],hd.tail.tail,?_,?_⟩
   .rw[d];exact u.snoc h9
   rw[d];simp
  rw[hp]at t d;simp[t,hw]at C;subst C;refine .inl ⟨_,_,rfl,M,_,_,ak,by simp[t],J.tail.tail,?_,?_⟩
  .rw[d];exact u
  rw[d];exact h0
 rintro e s r ⟨B,ao,v8,ak,A,O,u,h0⟩ C
 have hC:=(O.bm 0 o10 _ rfl).1.1;simp only[aB,aC,bn,Nat.reduceAdd]at hC;simp only[ab,ae]at A;simp[U.Ab,A,hC,P]at C;subst C;rw[mP]at u;exact⟨by simp,.inr ⟨λj h=>B j h h,_,_,ao,v8,ak,rfl,by simp[A],O.tail,u⟩⟩
structure Lg where
 l:jT
 op:List bE
 kn:cf
def B6(x:Fa)(g:Lg)(b:Sn):Bool:=
 (g.kn.getD b.st false&& !decide (nU (g.op.getD b.st [])=nU b.mn.op))||((x.fi.getD b.st false != b.mn.over)&& !(decide (x.nx.length=1)&& !(x.fi.getD 0 false)))
def og(a:Ar)(x:Fa)(g:Lg)(i:Nat):Option Lg:=
 match g.l[i]?with
 |none=>some g
 |some b=>
  if B6 x g b then none
  else if(x.nx.getD b.st []).all λe=>ir a b.mn e.m then some ⟨jx b g.l (x.nx.getD b.st []),g.op.set b.st b.mn.op,g.kn.set b.st true⟩else none
def ft(a:Ar)(x:Fa):Nat->Option Lg
 |0=>some ⟨[⟨0,⟨[],false,false,false⟩⟩],List.replicate x.nx.length [],List.replicate x.nx.length false⟩
 |i+1=>(ft a x i).bind λg=>og a x g i
structure Ih(op:List bE)(E6:aP):Prop where
 len:E6.length=op.length
 row:∀i,(h:i<op.length)->∃v,E6[i]'(by omega)=[v]/\Kq v op[i]/\cellsOf v=some [v]
def Kq.one{v:HV}{l:bE}(h:Kq v l):cellsOf v=some [v]:=by rcases h with rfl|⟨_,rfl⟩<;>rfl
def Ih.set{op:List bE}{c:aP}(h:Ih op c){i:Nat}{v:HV}{l:bE}(d:Kq v l):Ih (op.set i l) (c.set i [v]):=by
 refine⟨by simp[h.len],λj k=>?_⟩;rw[jk]at k;by_cases b:i=j
 .subst b;exact⟨v,by simp,by simpa using d,d.one⟩
 obtain⟨w,q,r,t⟩:=h.row j k;exact⟨w,by rw[Kp b];exact q,by rw[Kp b];exact r,t⟩
def Ih.start(n:Nat):Ih (List.replicate n []) (List.replicate n [.ah]):=
 ⟨by simp,λi b=>⟨.ah,by simp,by simp[Kq],rfl⟩⟩
def YP.ex{row:ai}{x:Sn}(h:YP row x):∃b,Kq b x.mn.op/\row=[iV x.st,b,.bool x.mn.lost,.bool x.mn.forced,.bool x.mn.begun]:=by
 rcases h with rfl|⟨h0,rfl⟩
 .exact⟨_,.inl rfl,rfl⟩
 exact⟨_,.inr ⟨h0,rfl⟩,rfl⟩
def Kq.mn{b:HV}{x:Mn}(h:Kq b x.op):YR [b,.bool x.lost,.bool x.forced,.bool x.begun] x:=by
 rcases h with rfl|⟨c,rfl⟩
 .exact .inl rfl
 exact .inr ⟨c,rfl⟩
structure Kr(a:Ar)(x:Fa)(N D:Nat):Prop where
 d:D<399
 n:N<=3518437208883
 st:∀i g,ft a x i=some g->(∀y∈g.l,y.st<x.nx.length/\y.mn.op.length<=D)/\(∀l∈g.op,l.length<=D)/\g.l≠ []/\g.l.length<3518437208883/\g.op.length=x.nx.length/\g.kn.length=x.nx.length
 le:∀i g cur,ft a x i=some g->g.l[i]?=some cur->∀k,(jx cur g.l ((x.nx.getD cur.st []).take k)).length<3518437208883
 fin:∀g,ft a x N=some g->g.l.length<=N
def afS(a:Ar)(ok:fz a)(hc:aQ a=0)(x:Fa)(hx:bA x){N D:Nat}(hN:Kr a x N D){i:Nat}(hi:i<N){g:Lg}(hg:ft a x i=some g){e:En}{s:HS}{r:Out}{v4 v5 v6 v7 v8:HV}{ao:aW}{E6 ak:aP}
  (hL:bB e [(2,.aw a.c),(3,.aw x.c),(4,v4),(5,v5),(6,v6),(7,v7),(8,v8),(9,iV i)])
  (hM:aI s ao [(v6,1,E6),(v7,1,g.kn.map bC),(v8,5,ak)] [])(hE:Ih g.op E6)(hS:DP g.l ak D)(u:i<g.l.length)(J:bO R U.lW e s=r)(q:B6 x g g.l[i]=true):
  ∃e' s',r=.code .ret e' s'/\look e' 4=some .ah/\look e' 5=some (.bool false):=by
 obtain⟨h9,ha,hb,hy,hd,h4⟩:=hN.st i g hg;have hD:=hN.d;have hn:=hx.n;have hz:=hx.nf;have hq:=hx.pos;generalize V:g.l[i]=b at q;have h7:b∈g.l:=by rw[<-V];exact cb u
 obtain⟨E,k0⟩:=h9 b h7;obtain⟨o6,rfl⟩:=(hM.mem.own 0 _ _ _ rfl).gP (by intro h;have:=hE.len;rw[h]at this;simp at this;omega);obtain⟨o7,rfl⟩:=(hM.mem.own 1 _ _ _ rfl).gP (by intro h;have:=ch List.length h;simp at this;rw[this]at h4;simp at h4;omega);obtain⟨o8,rfl⟩:=(hM.mem.own 2 _ _ _ rfl).gP (by intro h;have h1:=hS.len;rw[h]at h1;exact hb (ja h1.symm));rw[hE.len,hd,bz,h4,hS.len]at hL hM;obtain⟨vo,h5,X⟩:=(hS.row i u).ex;rw[V]at h5 X;obtain⟨ob,g1,_,_,g4⟩:=(hM.mem.own 2 _ _ _ rfl).at (k:=.i64) i (by rw[hS.len];exact u);have hj:ob=o8:=by simp[u]at g1;exact g1.symm
 subst hj;rw[X]at g4;have M:=hM.cL [iV b.st,vo,.bool b.mn.lost,.bool b.mn.forced,.bool b.mn.begun];have hC:=(M.bm 0 _ _ rfl).1.1;generalize C:HS.mk _ _ _ _=S1 at M hC;obtain⟨vq,hl,ho,k1⟩:=hE.row b.st (by omega);have g6:eN (aj S1.h o6) b.st=some vq:=by rw[(M.mem.own 0 _ _ _ rfl).cell b.st (by rw[hE.len];omega),hl];rfl
 have Y:eN (aj S1.h o7) b.st=some (.bool (g.kn[b.st]'(by omega))):=ly (M.mem.own 1 _ _ _ rfl) (aX (by omega));have z:=Ok vq vo _ _ ho h5 (by have:=ha _ (cb (show b.st<g.op.length by omega));omega);have B:=Oj _ b.mn h5.mn;unfold B6 at q;rw[getD_at (by omega),getD_at (by omega),getD_at (by omega),getD_at (by omega)]at q;have A:(i:Int)<g.l.length:=by omega
 have hs:(b.st:Int)<x.nx.length:=by omega
 have O:b.st<x.fi.length:=by omega
 have ht:(b.st:Int)<x.fi.length:=by omega
 have h8:0<x.fi.length:=by omega
 simp only[ab,ae]at hL;simp only[aB,aC,bn,Nat.reduceAdd,iV]at hC C g4;have I:(x.fi[b.st] != b.mn.over&& !(decide (x.nx.length=1)&& !x.fi[0]))=true->(g.kn[b.st]'(by omega)=true->nU g.op[b.st]=nU b.mn.op)->∃e' s',r=.code .ret e' s'/\look e' 4=some .ah/\look e' 5=some (.bool false):=by
  intro h1 h2;rw[aL]at h1;obtain⟨h1,h3⟩:=h1;have P:¬x.fi[b.st]=b.mn.over:=by simpa using h1
  cases Z:g.kn[b.st]'(by omega)
  .rw[Z]at Y;by_cases h6:x.nx.length=1
   .have t:(x.nx.length:Int)=1:=by omega
    have hf:x.fi[0]=true:=by simpa[h6]using h3
    simp-implicitDefEqProofs[U.lW,hL,u,A,g4,C,aq,aA,an,hC,E,Y,B,O,P,t,h8,hf]at J;subst J;exact⟨_,_,rfl,by simp⟩
   have t:¬(x.nx.length:Int)=1:=by omega
   simp-implicitDefEqProofs[U.lW,hL,u,A,g4,C,aq,aA,an,hC,E,Y,B,O,P,t]at J;subst J;exact⟨_,_,rfl,by simp⟩
  have hp:=h2 Z;rw[Z]at Y;rw[dq hp]at z;by_cases h6:x.nx.length=1
  .have t:(x.nx.length:Int)=1:=by omega
   have hf:x.fi[0]=true:=by simpa[h6]using h3
   simp-implicitDefEqProofs[U.lW,hL,u,A,g4,C,aq,aA,an,hC,E,g6,Y,z,B,O,P,t,h8,hf]at J;subst J;exact⟨_,_,rfl,by simp⟩
  have t:¬(x.nx.length:Int)=1:=by omega
  simp-implicitDefEqProofs[U.lW,hL,u,A,g4,C,aq,aA,an,hC,E,g6,Y,z,B,O,P,t]at J;subst J;exact⟨_,_,rfl,by simp⟩
 cases Z:g.kn[b.st]'(by omega)
 .rw[Z,FD,wq]at q;exact I q (λh=>by rw[Z]at h;cases h)
 by_cases hp:nU g.op[b.st]=nU b.mn.op
 .rw[Z,dq hp,mB,yz,wq]at q;exact I q (λ_=>hp)
 rw[Z]at Y;rw[cK hp]at z;simp-implicitDefEqProofs[U.lW,hL,u,A,g4,C,aq,aA,hC,E,g6,Y,z]at J;subst J;exact⟨_,_,rfl,by simp⟩
def FP(h n:Nat):Nat:=min 9 (if h=0 then n else n-1)
def YV(c:Nat):Nat:=(32+c%32)*2^(c/32)
def afT(l:az):az:=0::l.flatMap λc=>[YV c,YV c]
def SN:ep:=[
 [4,54,92,127,161,194,226,259,292,325,357,390,422,454,486,518,550,582,614,646,677,708,731,750,770,787,805,824,842,862,878,898,915,932,943,960,971,986,999,1012,1028,1038,1054,1065,1076,1082,1089,1093,1098,1104,1113,1122,1129,1138,1144,1150,1154,1159,1164,1169],
 [0,38,73,107,140,173,206,239,272,305,338,370,402,434,466,498,530,562,594,625,655,676,693,712,731,748,769,785,804,821,840,853,868,881,897,908,923,936,948,963,974,979,985,992,997,1002,1010,1019,1028,1036,1041,1047,1052,1058,1063,1067,1072,1077,1083,1089],
 [0,38,73,107,140,173,206,239,272,305,337,369,401,433,465,497,529,560,590,611,628,647,666,683,704,719,739,756,771,783,800,811,826,839,850,866,877,882,888,894,900,905,913,922,931,939,944,949,955,961,966,970,975,980,985,992,995,999,1003,1006],
 [0,38,73,107,140,173,206,239,272,304,336,368,400,432,464,495,525,546,562,582,600,618,638,654,674,686,702,714,728,742,753,769,780,785,791,796,803,808,816,825,834,842,847,852,857,864,869,873,878,882,888,894,898,902,904,908,910,914,919,920],
 [0,38,73,107,140,173,206,239,271,303,335,367,399,430,460,481,497,517,535,553,573,588,605,617,631,645,656,672,683,688,693,699,706,711,719,728,737,745,750,754,760,766,772,776,780,785,791,795,801,803,807,808,812,816,817,818,824,825,827,832],
 [0,38,73,107,140,173,206,238,270,302,334,365,395,416,431,452,469,488,506,520,533,548,559,574,586,591,596,602,609,614,622,631,640,648,652,657,663,668,675,679,683,688,692,697,702,706,707,711,714,715,716,721,722,724,728,731,732,736,737,738],
 [0,38,73,107,140,173,205,237,269,300,330,350,366,387,404,422,436,451,462,477,489,494,499,505,512,517,525,534,543,551,555,560,565,571,578,582,586,590,594,599,603,606,610,613,614,615,619,620,622,625,628,629,632,633,636,638,640,641,642,643],
 [0,38,73,107,140,172,204,235,265,285,301,322,338,354,365,379,392,397,402,408,414,420,428,437,446,454,458,463,468,474,481,485,488,492,496,500,503,508,512,513,514,518,519,520,523,526,527,529,530,533,535,536,537,540,542,545,545,546,546,547],
 [0,38,73,107,139,170,200,219,236,257,268,282,295,300,305,311,313,323,331,340,349,357,361,366,371,377,384,387,391,394,398,400,405,408,410,412,417,418,419,422,424,425,427,428,431,432,433,434,437,439,441,442,443,444,446,448,449,450,451,451],
 [0,38,73,105,135,154,171,185,198,203,208,210,212,226,234,243,252,260,264,269,274,280,285,290,293,296,298,303,305,307,309,314,316,318,321,323,324,326,327,329,330,331,332,335,336,338,339,340,341,343,344,346,348,349,350,352,353,353,354,355],
 [0,38,69,87,101,106,107,108,115,129,137,146,155,163,167,172,177,182,187,192,195,197,201,203,205,207,211,213,215,217,221,223,225,226,228,229,230,231,233,234,236,237,238,239,240,241,243,245,246,247,248,249,250,251,254,255,256,257,257,258],
 [0,0,0,2,14,28,38,47,56,65,69,74,78,83,87,92,96,99,101,103,105,108,110,112,114,117,119,121,123,126,128,129,130,132,133,134,135,136,137,138,139,141,142,143,144,145,146,147,148,150,151,152,153,154,155,156,157,159,160,161]].map afT++[List.range 121]
def DQ(n c:Nat):az->az->Bool
 |a::t,b::u=>decide (4*n+c*a<=b)&&DQ n c t u
 |_,_=>true
def AK{n c:Nat}:∀{t u:az},DQ n c t u=true->∀r (h:r<t.length) (k:r<u.length),4*n+c*t[r]<=u[r]
 |a::t,b::u,d,0,_,_=>by simp[DQ]at d;exact d.1
 |a::t,b::u,d,r+1,h,k=>by simp[DQ]at d;simpa using AK d.2 r (by simpa using h) (by simpa using k)
def SO(h:Nat)(b t:az):Bool:=decide (b.length=121)&&decide (t.length=121)&&(List.range 121).all λn=>DQ n (FP h n) b (t.drop n)
def Ks{h:Nat}{b t:az}(c:SO h b t=true){n r:Nat}(q:n+r<=120):4*n+FP h n*b.getD r 0<=t.getD (n+r) 0:=by simp only[SO,aL,bY,fG,fX]at c;obtain⟨⟨u,z⟩,k⟩:=c;have d:=AK (k n (by omega)) r (by omega) (by simp;omega);rw[List.getElem_drop]at d;rw[KP,KP,aX (by omega),aX (by omega)];exact d
def DR(h r:Nat):Nat:=(SN.getD h []).getD r 0
def SP:((List.range 12).all λh=>SO h (SN.getD (h+1) []) (SN.getD h []))=true:=by decide+kernel
def Nc:((List.range 121).all λr=>decide (DR 12 r=r))=true:=by decide+kernel
def Nd:((List.range 121).all λr=>decide (DR 0 r+130<3518437208883))=true:=by decide+kernel
def nb(f:Nat->Nat)(h:Nat):Nat->Nat
 |0=>0
 |k+1=>f h+nb f (h+1) k
def D8(M:Nat->Nat)(h:Nat):Nat:=if h<12 then 4*M h else M h
def dp{N M c:Nat->Nat}(t:∀h,M (h+1)=M h*c h)(u:∀h,h<12->c h<=FP h (N h)):∀k h,h+k=12->nb N h (k+1)<=120->nb (λh=>N h*D8 M h) h (k+1)<=M h*DR h (nb N h (k+1))
 |0,h,A,d=>by
  have q:h=12:=by omega
  subst q;simp only[nb,Nat.add_zero,D8,ec,bD]at*;have:=Nc;simp only[fG,fX,bY]at this;rw[this _ (by omega),Et];exact aV _
 |k+1,h,A,d=>by
  have b:h<12:=by omega
  rw[nb]at d;have B:=dp t u k (h+1) (by omega) (by omega);rw[nb,nb.eq_def N h (k+1+1)];simp only;generalize nb N (h+1) (k+1)=r at*;have z:=SP;simp only[fG,fX]at z;have C:=Ks (z h b) (n:=N h) (r:=r) d
  calc N h*D8 M h+nb (λh=>N h*D8 M h) (h+1) (k+1)<=N h*D8 M h+M (h+1)*DR (h+1) r:=J9 B _
   _=M h*(4*N h+c h*DR (h+1) r):=by rw[t,Nat.mul_add,D8,au b,Et (N h),SQ,SQ,Nat.mul_left_comm 4]
   _<=M h*(4*N h+FP h (N h)*DR (h+1) r):=SR _ (J9 (ji _ (u h b)) _)
   _<=M h*DR h (N h+r):=SR _ C
def AL(M:Nat->Nat)(v:Nat)(l:az):∀k h,nb (λh=>(v::l).count h*M h) h k=(if h<=v/\v<h+k then M v else 0)+nb (λh=>l.count h*M h) h k
 |0,h=>by rw[ar (by omega)];rfl
 |k+1,h=>by
  rw[nb,AL M v l k (h+1),nb];by_cases b:v=h
  .subst b;rw[List.count_cons_self,ar (by omega),au (by omega),oR];omega
  rw[List.count_cons_of_ne (λh=>b h)];by_cases c:h+1<=v/\v<h+1+k
  .rw[au c,au (by omega)];omega
  rw[ar c,ar (by omega)];omega
def B7(M:Nat->Nat):∀l:az,(∀v∈l,v<13)->(l.map M).sum=nb (λh=>l.count h*M h) 0 13
 |[],_=>by simp[nb]
 |v::l,h=>by have c:=h v (by simp);rw[AL,au (by omega),<-B7 M l (λw b=>h w (by simp[b]))];simp
def FQ{α:Type}{f g:α->Nat}:∀{l:List α},(∀x∈l,f x<=g x)->(l.map f).sum<=(l.map g).sum
 |[],_=>aV _
 |x::l,h=>by simp only[bX,FR];exact Nat.add_le_add (h x (by simp)) (FQ λy b=>h y (by simp[b]))
def yO{α:Type}{p q r:α->Bool}(b:∀x,p x=true->r x=true)(c:∀x,q x=true->r x=true)(d:∀x,p x=true->q x=true->False):∀l:List α,l.countP p+l.countP q<=l.countP r
 |[]=>by simp
 |x::l=>by
  have u:=yO b c d l;simp only[pR];cases k:p x<;>cases t:q x
  .simp;omega
  .rw[c x t];simp;omega
  .rw[b x k];simp;omega
  exact(d x k t).elim
def sJ{α:Type}[BEq α][LawfulBEq α]:∀{l l':List α},l.Nodup->(∀x∈l,x∈l')->l.length<=l'.length
 |[],_,_,_=>by simp
 |x::l,l',b,d=>by
  rw[mE]at b;have k:=d x (by simp);have:=sJ b.2 (l':=l'.erase x) (λy q=>by
   have c:y≠x:=λh=>by subst h;exact b.1 q
   exact(List.mem_erase_of_ne c).2 (d y (by simp[q])))
  rw[List.length_erase_of_mem k]at this;have:=List.length_pos_of_mem k;simp;omega
def SS{N M c:Nat->Nat}(h0:M 0=1)(r:∀h,M (h+1)=M h*c h)(l:az)(d:∀h,N h=l.count h)(q:∀h,h<12->c h<=FP h (N h))(k:∀v∈l,v<13)(hlen:l.length<=120):(l.map (D8 M)).sum+130<3518437208883:=by
 have b:nb N 0 13=l.length:=by
  have:=B7 (λ_=>1) l k;simp only[jl]at this;rw[show(l.map λ_=>1).sum=l.length by clear this hlen k q d;induction l with
   |nil=>rfl
   |cons _ _ t=>simp[t];omega]at this
  rw[this]
  congr 1
  exact funext d
 have u:nb (λh=>N h*D8 M h) 0 13<=M 0*DR 0 (nb N 0 13):=dp r q 12 0 rfl (by show nb N 0 13<=120;rw[b];exact hlen);rw[b,h0,Nat.one_mul]at u;rw[B7 (D8 M) l k,show(λh=>l.count h*D8 M h)=λh=>N h*D8 M h from funext λh=>by rw[d]];have:=Nd;simp only[fG,fX,bY]at this;have:=this l.length (by omega);omega
def cM(x:Fa)(p:Nat):bu:=x.nx.getD p []
def AM:Sn:=⟨0,⟨[],false,false,false⟩⟩
structure qG(a:Ar)(x:Fa)(i:Nat)(g:Lg):Prop where
 nd:g.l.Nodup
 ne:g.l≠ []
 Oc:g.op.length=x.nx.length
 YW:g.kn.length=x.nx.length
 st:∀y∈g.l,y.st<x.nx.length
 gen:∀y∈g.l,y=AM∨∃z∈g.l.take i,∃e∈cM x z.st,y=⟨e.to,gL z.mn e.m⟩
 can:∀z∈g.l.take i,∀e∈cM x z.st,ir a z.mn e.m=true
 kn:∀z∈g.l.take i,g.kn.getD z.st false=true/\nU (g.op.getD z.st [])=nU z.mn.op
 kz:∀p,g.kn.getD p false=true->∃z∈g.l.take i,z.st=p
 opz:∀l∈g.op,l=[]∨∃z∈g.l.take i,z.mn.op=l
 US:∀y∈g.l,∀q m,y.mn.op=q++[m]->dS m=true/\∃z∈g.l.take i,z.mn.op=q/\∃e∈cM x z.st,e.m=m
def wa(c:Sn):∀(es:bu) (l:jT),l.Nodup->∃t,jx c l es=l++t/\(l++t).Nodup/\(∀y∈t,∃e∈es,y=⟨e.to,gL c.mn e.m⟩)/\t.length<=es.length
 |[],l,h=>⟨[],by simp[jx],by simpa using h,by simp⟩
 |e::es,l,h=>by
  have I:jx c l (e::es)=jx c (yN l c e) es:=by simp[jx]
  rw[I];unfold yN;generalize J:(⟨e.to,gL c.mn e.m⟩:Sn)=y;cases E:l.any λx=>decide (x=y)
  .simp only[df,bD];have q:y ∉ l:=by intro M;rw[rh]at E;exact E y M (by simp)
   obtain⟨t,r,u,A,O⟩:=wa c es (l++[y]) (by
    rw[tB];refine⟨h,by simp,λa P b V=>?_⟩;rw[cr.1 V];intro B;exact q (B▸P))
   refine⟨y::t,by rw[r];simp,by simpa using u,λz k=>?_,by simp;omega⟩;rcases bk.1 k with rfl|k
   .exact⟨e,by simp,J.symm⟩
   obtain⟨C,d,D⟩:=A z k;exact⟨C,by simp[d],D⟩
  simp only[bp];obtain⟨t,r,u,A,O⟩:=wa c es l h;refine⟨t,r,u,λz k=>?_,by simp;omega⟩;obtain⟨C,d,D⟩:=A z k;exact⟨C,by simp[d],D⟩
def jO{α:Type}(l:List α)(i j:Nat)(v d:α)(b:i<l.length):(l.set i v).getD j d=if i=j then v else l.getD j d:=by
 rw[KP,gl,KP];by_cases h:i=j
 .subst h;simp[b]
 simp[h]
def Kt{α:Type}{l q:List α}{a m:α}(h:l++[a]=q++[m]):l=q/\a=m:=by have b:=ch List.dropLast h;have c:=ch List.getLast? h;simp at b c;exact⟨b,c⟩
def qG.start(a:Ar)(x:Fa)(c:0<x.nx.length):qG a x 0 ⟨[AM],List.replicate x.nx.length [],List.replicate x.nx.length false⟩ where
 nd:=by simp
 ne:=by simp
 Oc:=by simp
 YW:=by simp
 st:=by intro y b;rw[cr.1 b];exact c
 gen:=by intro y b;exact .inl (cr.1 b)
 can:=by simp
 kn:=by simp
 kz:=by
  intro p h;rw[KP,yJ]at h
  split at h<;>simp at h
 opz:=by intro l hl;exact .inl (Aw hl)
 US:=by intro y b q m h;rw[cr.1 b]at h;simp[AM]at h
def qG.step{a:Ar}{x:Fa}{i:Nat}{g g':Lg}(h:qG a x i g)(hx:bA x)(B:og a x g i=some g'):qG a x (i+1) g':=by
 unfold og at B
 split at B
 .rename_i hn;cases B;have hlen:=Dz.1 hn;have ht:g.l.take (i+1)=g.l.take i:=by rw[fD (by omega),fD hlen]
  refine⟨h.nd,h.ne,h.Oc,h.YW,h.st,?_,?_,?_,?_,?_,?_⟩<;>rw[ht]
  .exact h.gen
  .exact h.can
  .exact h.kn
  .exact h.kz
  .exact h.opz
  exact h.US
 rename_i b C
 split at B
 .cases B
 rename_i D
 split at B
 case isFalse=>cases B
 rename_i P;cases B;obtain⟨Y,Z⟩:=aU.1 C;have E:b∈g.l:=Z▸cb Y;have u:=h.st b E;obtain⟨t,h3,h4,J,_⟩:=wa b (x.nx.getD b.st []) g.l h.nd;have k:∀z,z∈(g.l++t).take (i+1)↔z∈g.l.take i∨z=b:=by intro z;rw[Al (by omega),Ku,C];simp
 have hk:g.kn.getD b.st false=true->nU (g.op.getD b.st [])=nU b.mn.op:=by intro hk;simp only[B6,hk,j7,n9,not_or]at D;simpa using D.1
 have dA:b.st<g.op.length:=by rw[h.Oc];exact u
 have V:b.st<g.kn.length:=by rw[h.YW];exact u
 have M:∀e∈cM x b.st,ir a b.mn e.m=true:=λe I=>fG.1 P e I
 constructor<;>simp only[h3]
 .exact h4
 .simp[h.ne]
 .simp[h.Oc]
 .simp[h.YW]
 .intro y c;rcases l5.1 c with c|c
  .exact h.st y c
  obtain⟨e,I,rfl⟩:=J y c;rw[getD_at u]at I;exact hx.to _ (cb u) e I
 .intro y c;rcases l5.1 c with c|c
  .rcases h.gen y c with h0|⟨z,d,h0⟩
   .exact .inl h0
   exact .inr ⟨z,(k z).2 (.inl d),h0⟩
  obtain⟨e,I,rfl⟩:=J y c;exact .inr ⟨b,(k b).2 (.inr rfl),e,I,rfl⟩
 .intro z d;rcases(k z).1 d with d|rfl
  .exact h.can z d
  exact M
 .intro z d;rw[jO _ _ _ _ _ dA,jO _ _ _ _ _ V];rcases(k z).1 d with d|rfl
  .obtain⟨O,X⟩:=h.kn z d;by_cases A:b.st=z.st
   .rw[au A,au A];refine⟨rfl,?_⟩;rw[<-hk (A▸O),A,X]
   rw[ar A,ar A];exact⟨O,X⟩
  simp
 .intro p hp;rw[jO _ _ _ _ _ V]at hp;by_cases A:b.st=p
  .exact⟨b,(k b).2 (.inr rfl),A⟩
  rw[ar A]at hp;obtain⟨z,d,h0⟩:=h.kz p hp;exact⟨z,(k z).2 (.inl d),h0⟩
 .intro l hl;rcases yk hl with hl|rfl
  .rcases h.opz l hl with h0|⟨z,d,h0⟩
   .exact .inl h0
   exact .inr ⟨z,(k z).2 (.inl d),h0⟩
  exact .inr ⟨b,(k b).2 (.inr rfl),rfl⟩
 intro y c q m r;rcases l5.1 c with c|c
 .obtain⟨O,z,d,h0⟩:=h.US y c q m r;exact⟨O,z,(k z).2 (.inl d),h0⟩
 obtain⟨e,I,rfl⟩:=J y c;simp only[gL]at r;cases ha:dS e.m
 .rw[ha]at r;simp only[df,bD]at r;have h5:b.mn.op≠ []:=by intro h0;rw[h0]at r;simp at r
  obtain⟨_,z,d,h0,_⟩:=h.US b E _ _ (SU h5).symm;rw[r]at h0;obtain⟨O,w,hw,X⟩:=h.US z (ag1 d) q m h0;exact⟨O,w,(k w).2 (.inl hw),X⟩
 rw[ha]at r;simp only[bp]at r;obtain⟨rfl,rfl⟩:=Kt r;exact⟨ha,b,(k b).2 (.inr rfl),rfl,e,I,rfl⟩
def qG.run{a:Ar}{x:Fa}(c:bA x):∀(i:Nat) {g:Lg},ft a x i=some g->qG a x i g
 |0,g,b=>by cases b;exact qG.start a x c.pos
 |i+1,g,b=>by
  rw[ft]at b;cases h:ft a x i with
  |none=>rw[h]at b;cases b
  |some d=>rw[h]at b;exact(qG.run c i h).step c b
def dd{α:Type}[DecidableEq α]:List α->List α
 |[]=>[]
 |x::l=>if x∈dd l then dd l else x::dd l
def yP{α:Type}[DecidableEq α]{y:α}:∀{l:List α},y∈dd l↔y∈l
 |[]=>by simp[dd]
 |x::l=>by
  rw[dd]
  split
  .rename_i h;rw[yP,bk];exact⟨.inr,λb=>b.elim (λc=>c▸yP.1 h) id⟩
  rw[bk,yP,bk]
def Kv{α:Type}[DecidableEq α]:∀l:List α,(dd l).Nodup
 |[]=>by simp[dd]
 |x::l=>by
  rw[dd]
  split
  .exact Kv l
  rename_i h;exact mE.2 ⟨h,Kv l⟩
def Kw{α:Type}[DecidableEq α]:∀l:List α,(dd l).length<=l.length
 |[]=>by simp[dd]
 |x::l=>by
  have:=Kw l;rw[dd]
  split<;>simp<;>omega
def je{a:Ar}{x:Mn}{m:Mv}(h:ir a x m=true):gT a m=true:=by
 unfold ir at h
 split at h
 .assumption
 cases h
def yQ{a:Ar}{x:Mn}{m:Mv}(h:ir a x m=true)(h0:x.op=[]):x.begun=false/\m.id=0:=by
 unfold ir at h;rw[au (je h)]at h;cases b:x.begun
 .simp[b]at h;exact⟨rfl,h.1⟩
 simp[b,h0]at h
def yR{a:Ar}{x:Mn}{m top:Mv}(h:ir a x m=true)(q:x.begun=true)(r:x.op.getLast?=some top)(c:dS m=true):
  x.lost=false/\x.forced=false/\((0<top.id/\top.arg=0)->m.id=top.id/\0<m.arg)/\(¬(0<top.id/\top.arg=0)->0<m.id/\m.arg=0):=by
 unfold ir at h;rw[au (je h),au q,r]at h;simp only at h;have t:m.kind≠3:=by intro u;simp[dS,u]at c
 cases d:x.lost<;>cases k:x.forced
 .refine⟨rfl,rfl,λb=>?_,λb=>?_⟩
  .simp[d,k,c,b.1,b.2]at h;exact h
  simp only[d,k,c,SV,df,bD,bp]at h;rw[ar (by simpa using b)]at h;simpa using h
 all_goals
  simp[d,k,vr,t]at h
section
variable{a:Ar}{x:Fa}{i:Nat}{g:Lg}(h:qG a x i g)
include h
theorem qG.begun{y:Sn}(b:y∈g.l)(h0:y.mn.op≠ []):y.mn.begun=true:=by
 rcases h.gen y b with rfl|⟨z,_,e,_,rfl⟩
 .exact(h0 rfl).elim
 simp only[gL]
 split<;>rfl
theorem qG.pre:∀(n:Nat) (y:Sn),y∈g.l->y.mn.op.length=n->∀(j:Nat) (m:Mv),y.mn.op[j]?=some m->dS m=true/\∃z∈g.l.take i,z.mn.op=y.mn.op.take j/\∃e∈cM x z.st,e.m=m
 |0,y,_,c,j,m,b=>by rw[ja c]at b;simp at b
 |n+1,y,C,c,j,m,b=>by
  have d:y.mn.op≠ []:=by intro h0;rw[h0]at c;cases c
  have k:=(SU d).symm;obtain⟨D,z,B,t,E⟩:=h.US y C _ _ k;generalize y.mn.op.getLast d=last at*;generalize y.mn.op.dropLast=q at*;rw[k]at c b ⊢;simp at c;by_cases u:j<q.length
  .rw[dD u,<-t]at b;rw[Al (by omega),<-t];exact qG.pre n z (ag1 B) (by rw[t];exact c) j m b
  obtain⟨r,_⟩:=aU.1 b;have A:j=q.length:=by simp at r;omega
  subst A;rw[iZ (aV _),kZ]at b;simp at b;subst b;rw[List.take_left];exact⟨D,z,B,t,E⟩
theorem qG.ask{y:Sn}(A:y∈g.l){j:Nat}{m:Mv}(B:y.mn.op[j]?=some m):dS m=true/\gT a m=true/\(j=0->m.id=0)/\∀k top,k+1=j->y.mn.op[k]?=some top->
  ((0<top.id/\top.arg=0)->m.id=top.id/\0<m.arg)/\(¬(0<top.id/\top.arg=0)->0<m.id/\m.arg=0):=by
 obtain⟨q,z,r,t,e,C,rfl⟩:=h.pre _ y A rfl j m B;have d:=h.can z r e C;refine⟨q,je d,λh0=>?_,λk top D u=>?_⟩
 .subst h0;exact(yQ d (by rw[t];rfl)).2
 subst D;obtain⟨E,I⟩:=aU.1 u;have c:z.mn.op=y.mn.op.take k++[top]:=by rw[t,Ku,u];rfl
 have b:z.mn.op.getLast?=some top:=by rw[c];simp
 exact(yR d (h.begun (ag1 r) (by rw[c];simp)) b q).2.2
theorem qG.par{y:Sn}(k:y∈g.l):∀{j:Nat} {m:Mv},y.mn.op[j]?=some m->((0<m.id/\m.arg=0)↔j%2=1)
 |0,m,b=>by
  have:=(h.ask k b).2.2.1 rfl;constructor
  .intro c;omega
  intro c;omega
 |j+1,m,b=>by
  obtain⟨r,_⟩:=aU.1 b;have q:=aX (show j<y.mn.op.length by omega);have c:=qG.par k q;obtain⟨t,u⟩:=(h.ask k b).2.2.2 j _ rfl q;by_cases d:0<(y.mn.op[j]'(by omega)).id/\(y.mn.op[j]'(by omega)).arg=0
  .have:=t d;have:=c.1 d;constructor
   .intro z;omega
   intro z;omega
  have A:=u d;have:¬j%2=1:=λB=>d (c.2 B)
  constructor
  .intro _;omega
  intro _;exact A
theorem qG.plc{z b:Sn}(d:z∈g.l.take i)(c:b∈g.l.take i)(k:z.st=b.st):nU z.mn.op=nU b.mn.op:=by rw[<-(h.kn z d).2,<-(h.kn b c).2,k]
end
def Nf{a:Ar}(k:aQ a=0){m:Mv}(d:gT a m=true)(z:0<m.arg){b:Bs}{e:Bool}(c:dC a m.id 0=some (b,e))(hid:0<m.id):b.cell=false:=by
 unfold gT cG lX at d;unfold dC at c d;rw[ar (by omega)]at c d;by_cases A:1<=m.id/\m.id<=a.ids.length
 .rw[au A]at c d;cases q:a.ids[(m.id-1).toNat]?with
  |none=>rw[q]at c;cases c
  |some t=>
   rw[q]at c d;simp only[bp]at c;simp only[bQ,gj]at c;obtain⟨rfl,_⟩:=c;simp only[ar (show¬m.arg=0 by omega)]at d;have r:t.ps≠ []:=by intro h0;rw[h0]at d;rw[ar (by simp;omega)]at d;simp at d
   unfold aQ at k
   split at k
   .cases k
   split at k
   .cases k
   rename_i B;simp only[n9,not_or,BX,rh]at B;have C:=B.2 t (cE q);simp only[gm,Bool.not_eq_false',aL,n9]at C;cases u:t.res.cell
   .rfl
   have D:t.ps.isEmpty=false:=by cases E:t.ps with|nil=>exact(r E).elim|cons _ _=>rfl
   simp[u,D]at C
 rw[ar A]at c;cases c
def AN(a:Ar):Prop:=∀id arg b e,dC a id arg=some (b,e)->b.n<=8
def YX{a:Ar}{m:Mv}(q:gT a m=true)(d:dS m=true):m∈cG a m.id m.arg:=by
 unfold gT at q;simp only[bY,Kx,n9]at q;rcases q with b|b
 .exact b
 exfalso;unfold lX at b
 split at b
 .simp at b
 unfold pK at b;rcases l5.1 b with c|c
 .split at c
  .rw[cr.1 c]at d;simp[dS]at d
  simp at c
 rw[cU]at c;obtain⟨k,_,r⟩:=c;rw[<-r]at d;simp[dS,pJ]at d
def SW{a:Ar}(c:AN a)(id arg:Int):(cG a id arg).length<=9:=by
 unfold cG
 split
 .simp
 rename_i b e d;have:=c _ _ _ _ d;unfold dX
 split<;>simp<;>omega
def SX{a:Ar}{id arg:Int}(c:∀b e,dC a id arg=some (b,e)->b.cell=false):(cG a id arg).length<=1:=by
 unfold cG
 split
 .simp
 rename_i b e h0;have:=c _ _ h0;simp[dX,this]
def yS:∀{l:az} {x:Nat},x∈l->x<=l.sum
 |a::l,x,h=>by
  rw[FR];rcases bk.1 h with rfl|h
  .omega
  have:=yS h;omega
def yU(v:Nat->bE):Nat->List bE
 |0=>[[]]
 |d+1=>(yU v d).flatMap λq=>(v d).map λm=>q++[m]
def yV{α β γ:Type}(f:α->β->γ)(vs:List β):∀l:List α,(l.flatMap λq=>vs.map (f q)).length=l.length*vs.length
 |[]=>by simp
 |x::l=>by rw[mU,bZ,yV f vs l,bz,aB,iR];omega
def DS{v:Nat->bE}{l:bE}:∀d,d<=l.length->(∀j m,j<d->l[j]?=some m->m∈v j)->l.take d∈yU v d
 |0,_,_=>by simp[yU]
 |d+1,q,b=>by have k:=DS d (by omega) (λj m r=>b j m (by omega));have c:=aX (show d<l.length by omega);rw[yU,qF];refine⟨_,k,?_⟩;rw[cU];exact⟨_,b d _ (by omega) c,by rw[Ku,c];rfl⟩
def qH(c:Nat->Nat):Nat->Nat
 |0=>1
 |h+1=>qH c h*c h
def GY{v:Nat->bE}{c:Nat->Nat}:∀d,(∀j,j<d->(v j).length<=if j%2=0 then c (j/2)else 1)->(yU v d).length<=qH c ((d+1)/2)
 |0,_=>by simp[yU,qH]
 |d+1,q=>by
  have k:=GY d (λj t=>q j (by omega));have b:=q d (by omega);rw[yU,yV];by_cases r:d%2=0
  .rw[au r]at b;rw[show(d+1+1)/2=d/2+1 by omega,qH];rw[show(d+1)/2=d/2 by omega]at k;exact FT k b
  rw[ar r]at b;rw[show(d+1+1)/2=(d+1)/2 by omega];have:=FT k b;omega
def B8(x:Fa)(g:Lg):List (Nat×Eg):=(List.range x.nx.length).flatMap λp=>if g.kn.getD p false then(cM x p).map λe=>(p,e)else []
def FU(g:Lg)(p:Nat):Nat:=(g.op.getD p []).length
def zC(g:Lg)(d:Nat)(q:Nat×Eg):Bool:=dS q.2.m&&decide (FU g q.1=d)
def vq(a:Ar)(x:Fa)(g:Lg)(d:Nat)(ρ:Int×Int):bE:=
 dd ((((B8 x g).filter (zC g d)).map λq=>q.2.m).filter λm=>decide (m.id=ρ.1/\m.arg=ρ.2)&&(gT a m&&dS m))
def vp(a:Ar)(x:Fa)(g:Lg)(p:Nat)(j:Nat):bE:=vq a x g j ((nU (g.op.getD p [])).getD j (0,0))
def aN(x:Fa)(g:Lg)(d:Nat):Nat:=(B8 x g).countP (zC g d)
def cN(x:Fa)(g:Lg)(h:Nat):Nat:=min 9 (aN x g (2*h))
def ue(g:Lg)(q:Nat×Eg):Nat:=if dS q.2.m then(FU g q.1+1)/2 else FU g q.1/2
def YY(a:Ar)(x:Fa)(g:Lg)(q:Nat×Eg):jT:=
 if dS q.2.m then(yU (vp a x g q.1) (FU g q.1)).map λl=>⟨q.2.to,⟨l++[q.2.m],false,false,true⟩⟩
 else(yU (vp a x g q.1) (FU g q.1-1)).flatMap λl=>[(false,false),(false,true),(true,false),(true,true)].map λf=>⟨q.2.to,⟨l,f.1,f.2,true⟩⟩
def B9{x:Fa}{g:Lg}{p:Nat}{e:Eg}:(p,e)∈B8 x g↔p<x.nx.length/\g.kn.getD p false=true/\e∈cM x p:=by
 unfold B8;rw[qF];constructor
 .rintro⟨q,c,h⟩
  split at h
  .rename_i d;rw[cU]at h;obtain⟨u,b,h⟩:=h;cases h;exact⟨fX.1 c,d,b⟩
  cases h
 rintro⟨k,r,t⟩
 exact⟨p,fX.2 k,by rw[au r,cU];exact⟨e,t,rfl⟩⟩
def Ng(x:Fa)(g:Lg):(B8 x g).length<=(x.nx.map List.length).sum:=by
 have b:(x.nx.map List.length)=(List.range x.nx.length).map λp=>(cM x p).length:=by
  refine qD (by simp) λi b c=>?_
  simp at b;simp[cM,b]
 rw[b];unfold B8;rw[SY];refine FQ λp _=>?_
 split<;>simp
def GZ(l:bE):(nU l).length=l.length:=by simp[nU]
def YZ{a:Ar}{x:Fa}{g:Lg}(j:Nat)(ρ:Int×Int):(vq a x g j ρ).length<=aN x g j:=by unfold vq aN;refine fu (Kw _) (fu (Ka _ _) ?_);rw[bz,SF];exact aV _
section
variable{a:Ar}{x:Fa}{i:Nat}{g:Lg}(h:qG a x i g)
include h
theorem qG.dep{z:Sn}(b:z∈g.l.take i):FU g z.st=z.mn.op.length:=by have:=ch List.length (h.kn z b).2;rwa[GZ,GZ]at this
theorem qG.known{z:Sn}(b:z∈g.l.take i){e:Eg}(c:e∈cM x z.st):(z.st,e)∈B8 x g:=B9.2 ⟨h.st z (ag1 b),(h.kn z b).1,c⟩
theorem qG.inv{z:Sn}(k:z∈g.l.take i){j:Nat}{m:Mv}(c:z.mn.op[j]?=some m):m∈vp a x g z.st j:=by
 have d:=ag1 k;obtain⟨q,r,b,u,e,t,rfl⟩:=h.pre _ z d rfl j m c;obtain⟨A,_⟩:=aU.1 c;unfold vp vq;rw[yP,tk,cU,(h.kn z k).2];refine⟨⟨(r.st,e),tk.2 ⟨h.known b t,?_⟩,rfl⟩,?_⟩
 .simp only[zC,aL,bY];exact⟨q,by rw[h.dep b,u,od];omega⟩
 have B:(nU z.mn.op).getD j (0,0)=(e.m.id,e.m.arg):=by rw[KP,nU,fV,c];rfl
 rw[B];simp[q,je (h.can r b e t)]
theorem qG.Y0(j:Nat)(ρ:Int×Int):(vq a x g j ρ).length<=(cG a ρ.1 ρ.2).length:=by
 refine sJ (Kv _) λm b=>?_
 unfold vq at b;rw[yP,tk]at b;have c:=b.2;simp only[aL,bY]at c;obtain⟨⟨d,k⟩,q,r⟩:=c;rw[<-d,<-k];exact YX q r
theorem qG.few(M:aQ a=0)(O:AN a){z:Sn}(B:z∈g.l.take i){d:Nat}(hd:d<=z.mn.op.length)(P:d<z.mn.op.length∨d=0∨∃e∈cM x z.st,dS e.m=true):(yU (vp a x g z.st) d).length<=qH (cN x g) ((d+1)/2):=by
 have q:=ag1 B;refine GY d λj hj=>?_
 split
 .rename_i V;unfold cN;rw[show 2*(j/2)=j by omega];exact Nat.le_min.2 ⟨fu (h.Y0 j _) (SW O _ _),YZ j _⟩
 rename_i V;have r:=aX (show j<z.mn.op.length by omega);generalize z.mn.op[j]=top at r;obtain⟨hid,c⟩:=(h.par q r).2 (by omega);have C:(nU (g.op.getD z.st [])).getD j (0,0)=(top.id,top.arg):=by rw[(h.kn z B).2,KP,nU,fV,r];rfl
 unfold vp;rw[C];refine fu (h.Y0 j _) ?_;simp only;have X:∃m:Mv,m.id=top.id/\0<m.arg/\gT a m=true:=by
  by_cases D:j+1<z.mn.op.length
  .have E:=aX D;obtain⟨_,I,_,Y⟩:=h.ask q E;obtain⟨t,u⟩:=(Y j top rfl r).1 ⟨hid,c⟩;exact⟨_,t,u,I⟩
  rcases P with I|I|⟨e,Z,J⟩
  .omega
  .omega
  have k:=h.can z B e Z;have hl:z.mn.op.getLast?=some top:=by rw[Su,show z.mn.op.length-1=j by omega,r]
  obtain⟨t,u⟩:=(yR k (h.begun q (by intro h0;rw[h0]at r;simp at r)) hl J).2.2.1 ⟨hid,c⟩;exact⟨_,t,u,je k⟩
 obtain⟨m,t,u,h7⟩:=X;refine SX λb e A=>?_
 rw[c,<-t]at A;exact Nf M h7 u A (by omega)
theorem qG.deep{z:Sn}(k:z∈g.l.take i):z.mn.op.length+1<=x.nx.length:=by
 have:=sJ (l:=List.range (z.mn.op.length+1)) (l':=(List.range x.nx.length).map (FU g)) List.nodup_range (λj r=>by
  rw[fX]at r;rw[cU];have b:=ag1 k;by_cases d:j<z.mn.op.length
  .obtain⟨_,q,c,t,_⟩:=h.pre _ z b rfl j _ (aX d);exact⟨q.st,fX.2 (h.st q (ag1 c)),by rw[h.dep c,t,od];omega⟩
  exact⟨z.st,fX.2 (h.st z b),by rw[h.dep k];omega⟩)
 simpa using this
theorem qG.big{y:Sn}(B:y∈g.l):y∈AM::(B8 x g).flatMap (YY a x g):=by
 rcases h.gen y B with rfl|⟨z,k,e,u,rfl⟩
 .simp
 refine cY _ (qF.2 ⟨(z.st,e),h.known k u,?_⟩);have q:=ag1 k;have b:=h.can z k e u;have c:∀d,d<=z.mn.op.length->z.mn.op.take d∈yU (vp a x g z.st) d:=λd C=>DS d C λj m _ D=>h.inv k D
 unfold YY gL;simp only;rw[h.dep k];cases E:dS e.m
 .simp only[df,bD];rw[qF];refine⟨_,c (z.mn.op.length-1) (by omega),?_⟩;rw[cU];rw[J3];exact⟨(_,_),(show∀I J:Bool,(I,J)∈[(false,false),(false,true),(true,false),(true,true)] by decide) _ _,rfl⟩
 simp only[bp];rw[cU];refine⟨z.mn.op,by simpa using c z.mn.op.length (aV _),?_⟩;have M:z.mn.lost=false:=by
  by_cases h0:z.mn.op=[]
  .have r:=(yQ b h0).1;rcases h.gen z q with t|⟨w,_,O,_,t⟩
   .rw[t];rfl
   rw[t]at r;simp only[gL]at r
   split at r<;>cases r
  cases A:z.mn.op.getLast? with|none=>exact(h0 (List.getLast?_eq_none_iff.1 A)).elim|some top=>exact(yR b (h.begun q h0) A E).1
 rw[M]
theorem qG.Kz(r:aQ a=0)(t:AN a)(J:x.nx.length<=24){q:Nat×Eg}(D:q∈B8 x g):(YY a x g q).length<=D8 (qH (cN x g)) (ue g q)/\ue g q<13:=by
 obtain⟨p,e⟩:=q;obtain⟨M,E,u⟩:=B9.1 D;obtain⟨z,b,rfl⟩:=h.kz p E;have I:=h.deep b;have c:=h.can z b e u;unfold YY ue D8;simp only;rw[h.dep b];cases A:dS e.m
 .simp only[df,bD];have k:=GX c A;have B:0<z.mn.op.length:=ym.2 k;have C:=h.few r t b (d:=z.mn.op.length-1) (by omega) (.inl (by omega));rw[show(z.mn.op.length-1+1)/2=z.mn.op.length/2 by omega]at C;rw[yV,au (by omega)];simp only[aB,aC];omega
 simp only[bp,bz];have C:=h.few r t b (d:=z.mn.op.length) (aV _) (.inr (.inr ⟨e,u,A⟩))
 split<;>omega
theorem qG.cap:∀k,k<12->cN x g k<=FP k (((B8 x g).map (ue g)).count k):=by
 intro k _;have r:((B8 x g).map (ue g)).count k=(B8 x g).countP λq=>ue g q==k:=by rw[List.count_eq_countP,List.countP_map];rfl
 have b:∀d,(d+1)/2=k->∀q,zC g d q=true->(ue g q==k)=true:=by intro d P q c;simp only[zC,aL,bY]at c;simp only[ue,c.1,bp,c.2,P,El]
 unfold cN FP;rw[r];refine Nat.le_min.2 ⟨EA _ _,?_⟩;by_cases D:k=0
 .subst D;rw[au rfl];exact fu (S9 _ _) (List.countP_mono_left λq _ c=>b 0 rfl q c)
 rw[ar D];by_cases t:aN x g (2*k)=0
 .rw[t];simp
 have E:=yO (b (2*k) (by omega)) (b (2*k-1) (by omega)) (λq I A=>by
  simp only[zC,aL,bY]at I A;omega) (B8 x g)
 have J:1<=(B8 x g).countP (zC g (2*k-1)):=by
  have h0:0<(B8 x g).countP (zC g (2*k)):=by unfold aN at t;omega
  obtain⟨⟨p,e⟩,c,M⟩:=Ta.1 h0;obtain⟨I,A,h3⟩:=B9.1 c;obtain⟨z,O,rfl⟩:=h.kz p A;simp only[zC,aL,bY]at M;rw[h.dep O]at M;have B:=ag1 O;obtain⟨V,X,u,Y,Z,C,h6⟩:=h.pre _ z B rfl (2*k-1) _ (aX (by omega));refine Ta.2 ⟨(X.st,Z),h.known u C,?_⟩;simp only[zC,aL,bY];exact⟨by rw[h6];exact V,by rw[h.dep u,Y,od];omega⟩
 refine fu (S9 _ _) ?_;unfold aN;omega
theorem qG.bound(d:aQ a=0)(r:AN a)(t:x.nx.length<=24)(z:(x.nx.map List.length).sum<=120):g.l.length+129<3518437208883:=by
 have A:=sJ h.nd (λy B=>h.big B);rw[aB,SY]at A;have E:((B8 x g).map λq=>(YY a x g q).length).sum<=((B8 x g).map λq=>D8 (qH (cN x g)) (ue g q)).sum:=FQ λq b=>(h.Kz d r t b).1
 have u:=SS (N:=λk=>((B8 x g).map (ue g)).count k) (M:=qH (cN x g)) (c:=cN x g) rfl (λ_=>rfl) ((B8 x g).map (ue g)) (λ_=>rfl) h.cap (λv C=>by
  obtain⟨q,b,rfl⟩:=cU.1 C;exact(h.Kz d r t b).2) (by rw[bz];exact fu (Ng x g) z)
 rw[wB]at u;have D:(D8 (qH (cN x g))∘ue g)=λq=>D8 (qH (cN x g)) (ue g q):=rfl
 rw[D]at u;omega
end
def Tb{a:Ar}{x:Fa}(hx:bA x)(hc:aQ a=0)(ht:AN a)(hn:x.nx.length<=24)(he:(x.nx.map List.length).sum<=120):Kr a x 3518437208883 24 where
 d:=by omega
 n:=aV _
 st:=λi g b=>by
  have h:=qG.run hx i b;have hb:=h.bound hc ht hn he;refine⟨λy u=>⟨h.st y u,?_⟩,λl hl=>?_,h.ne,by omega,h.Oc,h.YW⟩
  .rcases h.gen y u with rfl|⟨z,r,e,_,rfl⟩
   .simp[AM]
   have:=h.deep r;have:=DO z.mn e.m;simp only;omega
  rcases h.opz l hl with rfl|⟨z,r,rfl⟩
  .simp
  have:=h.deep r;omega
 le:=λi g cur b c k=>by
  have h:=qG.run hx i b;have hb:=h.bound hc ht hn he;obtain⟨t,A,_,_,B⟩:=wa cur ((x.nx.getD cur.st []).take k) g.l h.nd;rw[A,bZ];have C:(x.nx.getD cur.st []).length<=120:=by have q:=h.st cur (cE c);rw[getD_at q];refine fu ?_ he;exact yS (cU.2 ⟨_,cb q,rfl⟩)
  have h4:=List.length_take_le k (x.nx.getD cur.st []);have h5:=List.length_take_le' k (x.nx.getD cur.st []);omega
 fin:=λg b=>by have:=(qG.run hx _ b).bound hc ht hn he;omega
section
variable{s:HS}{ao:aW}{L:cq}{K:de}
def Y1(h:aI s ao L K)(a:Mv)(t:bE)(O:t.length<=100000):∃v s' b,R (.call 171 [.psl (a.c::t.map Mv.c)] s)=.val v s'/\cellsOf v=some [v]/\aI s' b (L++[(v,4,(a::t).map Mv.c)]) K:=by
 obtain⟨C,D⟩:=h.FI 4;generalize q:HS.mk _ _ _ _=P at D;have I:(L++[(HV.sl s.nx 0 0 4,4,([]:aP))])[L.length]?=some (.sl s.nx 0 0 4,4,[]):=by simp
 obtain⟨v,s2,d,u,J,E⟩:=D.wg L.length I (new:=(a::t).map Mv.c) (Sz.map (f:=Mv.c) (λx=>rfl) _) (bI:=4398046511104) (by simp;omega);have k:(L++[(HV.sl s.nx 0 0 4,4,([]:aP))]).set L.length (v,4,[]++(a::t).map Mv.c)=L++[(v,4,(a::t).map Mv.c)]:=by simp
 rw[k]at E;rw[bX]at u;have z:∃A,ev R U.Jv (bc [.psl (a.c::t.map Mv.c)] 0) s=.code .ret A s2/\look A 2=some v:=by generalize B:ev R U.Jv (bc [.psl (a.c::t.map Mv.c)] 0) s=r;simp only[Mv.c]at u B ⊢;simp[U.Jv,q,u]at B;subst B;exact⟨_,rfl,by simp⟩
 obtain⟨A,z,M⟩:=z;exact⟨v,s2,d,aeb ⟨.ret,_,s2,z,.inr rfl,by simp[M]⟩,J,E⟩
def Y2(h:aI s ao L K)(l:bE)(k:l.length<=100000):∃v s' b d,R (.call 171 [.psl (l.map Mv.c)] s)=.val v s'/\cellsOf v=some [v]/\aI s' b (L++d) K/\((l=[]/\v=.psl []/\d=[])∨d=[(v,4,l.map Mv.c)]):=by cases l with|nil=>exact⟨.psl [],s,ao,[],aea,rfl,by simpa using h,.inl ⟨rfl,rfl,rfl⟩⟩|cons a t=>obtain⟨v,s',b,q,r,u⟩:=Y1 h a t (by simp at k;omega);exact⟨v,s',b,[(v,4,(a::t).map Mv.c)],q,r,u,.inr rfl⟩
end
def afU(m:Mv)(s:HS):R (.call 172 [.agg m.c] s)=.val (.bool (dH m)) s:=by refine aec ?_;by_cases h:m.kind=3<;>simp[U.Wo,h,aa,dH]
def UT(m:Mv)(b:Bool):Bool:=decide (m.kind≠3)&&decide (0<m.id)&&(decide (0<m.arg)==b)
def Y3(m:Mv)(b:Bool)(s:HS):R (.call 173 [.agg m.c,.bool b] s)=.val (.bool (UT m b)) s:=by
 refine aed ?_;unfold UT;by_cases h:m.kind=3
 .simp[U.Rc,h,aa]
 by_cases d:0<m.id<;>simp[U.Rc,h,d,aa]
def oy(x:Mn):ai:=[.psl (x.op.map Mv.c),.bool x.forced,.bool x.lost]
section
variable{a:Ar}{x:Mn}{m:Mv}
def yW(h:dS m=true):m.kind≠3:=by intro b;simp[dS,b]at h
def Y4(ok:fz a)(J:aQ a=0)(b:ir a ⟨[],false,false,false⟩ m=true)(s:HS):
  R (.call 135 [.agg (oy ⟨[],false,false,false⟩),.agg a.c,.agg m.c,.bool true] s)=.val (.cO [.agg (oy (gL ⟨[],false,false,false⟩ m)),.bool true]) s:=by
 refine RV ?_ rfl (by simp[oy]);have d:=R3 a ok m;rw[tZ,je b,J]at d;have hid:=(yQ b rfl).2;have k:dS m=true:=by unfold ir at b;rw[au (je b)]at b;simp at b;exact b.2
 have M:=yW k;have h0:aI s0 (λ_=>none) [] []:=⟨dV.start (by simp),by simp,by simp⟩;have u:=h0.cL [.ah,.bool false,.bool false];generalize z:HS.mk _ _ _ _=B at u;obtain⟨O,q⟩:=u.DI (sz:=4) (t:=[m.c]) (Sz.cons rfl Sz.nil);generalize A:HS.mk _ _ _ _=P at q;simp only[bq,aB,aC,bn]at q;obtain⟨s3,C,r⟩:=q.put (a:=0) rfl (v:=.agg [.sl B.nx 0 1 4,.bool false,.bool false]) (new:=[.sl B.nx 0 1 4,.bool false,.bool false]) (by simp[cellsOf]) rfl;have D:=fZ (l:=[.sl B.nx 0 1 4,.bool false,.bool false]) C rfl rfl;simp only[aO]at r;have E:=(r.bm 0 _ _ rfl).1.1;have I:=(r.mem.own 0 _ _ _ rfl).vw (n:=12) (by simp[eT,dv,eo]);simp only[Mv.c,hid]at I;simp only[eV,j7,iV,Ar.c,Mv.c,hid]at d;simp only[aB,aC,bn,Nat.reduceAdd,cj,gS,qE,Mv.c,hid]at z A C D E;unfold gL;rw[au k];simp[U.qX,oy,d,hid,M,z,A,C,E,an];refine aY (.cO (.cons (.agg (.cons I (.data (by simp)))) (.data (by simp))))
end
section
variable{a:Ar}{m top:Mv}{l:bE}{n:Nat}
def Y5(ok:fz a)(hc:aQ a=0)(hl:l.length<=400)(hn:l.length=n+1)(J:l[n]?=some top)(M:gT a m=true)(O:dS m=true)
  (h1:(0<top.id/\top.arg=0)->m.id=top.id/\0<m.arg)(h2:¬(0<top.id/\top.arg=0)->0<m.id/\m.arg=0)(s:HS):
  R (.call 135 [.agg [.psl (l.map Mv.c),.bool false,.bool false],.agg a.c,.agg m.c,.bool false] s)=.val (.cO [.agg [.psl ((l++[m]).map Mv.c),.bool false,.bool false],.bool true]) s:=by
 refine RV ?_;have k:=R3 a ok m;rw[tZ,M,hc]at k;have P:=yW O;obtain⟨A,B⟩:=aU.1 J;have h6:(n:Int)<l.length:=by omega
 have h7:¬(l.length:Int)=0:=by omega
 have t:l≠ []:=λh=>by rw[h]at hn;cases hn
 have hw:bT .i64 ((l.length:Int)-1)=n:=by rw[hn];simp;exact cx (by omega) (by omega)
 have h0:aI s0 (λ_=>none) [] []:=⟨dV.start (by simp),by simp,by simp⟩;have C:=h0.cL [.ah,.bool false,.bool false];generalize u:HS.mk _ _ _ _=S1 at C;have D:=C.cL top.c;have hz:=C.cL [.int .i64 0,.int .i64 0,.int .u8 0,.int .i64 0];have I:=(D.bm 0 _ _ rfl).1.1;generalize q:HS.mk _ _ _ _=S2 at D I;obtain⟨v,s3,c3,L',r,k3,V,h3⟩:=Y2 D l (by omega);rcases h3 with⟨h,_⟩|rfl
 .exact(t h).elim
 have d3:=(V.bm 0 _ _ rfl).1.1;obtain⟨v4,s4,c4,a4,k4,X⟩:=V.append 0 rfl (new:=[m.c]) (Sz.cons rfl Sz.nil) (by simp) (bI:=4398046511104) (by simp;omega);simp only[bq,aO]at X;obtain⟨s5,Y,E⟩:=X.put (a:=1) rfl (v:=.agg [v4,.bool false,.bool false]) (new:=[v4,.bool false,.bool false]) (by simp[cellsOf]) rfl;have h4:=fZ (l:=[v4,.bool false,.bool false]) Y (by simp[cellsOf]) rfl;simp only[bJ,aO]at E;have d5:=(E.bm 1 _ _ rfl).1.1;have hv:=(E.mem.own 0 _ _ _ rfl).vw (n:=12) (by rw[show l.map Mv.c++[m.c]=(l++[m]).map Mv.c by simp];exact cD (λx=>by simp[dv,eo]) _);have b:=Y3 m false;have d:=Y3 m true;have hQ:UT m false=(decide (0<m.id)&& !decide (0<m.arg)):=by unfold UT;simp[P]
 have h5:UT m true=(decide (0<m.id)&&decide (0<m.arg)):=by unfold UT;simp[P]
 rw[hQ]at b;rw[h5]at d;simp only[eV,j7,iV,Ar.c,Mv.c]at k;simp only[Mv.c]at b d a4 q I d3;simp only[aB,aC,bn,Nat.reduceAdd]at u q I d3 d5;simp only[aB,aC,bn,Nat.reduceAdd]at Y h4;by_cases Z:0<top.id
 .by_cases z:top.arg=0
  .obtain⟨q1,q2⟩:=h1 ⟨Z,z⟩;have q3:0<m.id:=by omega
   simp only[q3,q2,eV,mB,yz,jL]at b d;simp[U.qX,k,t,hw,A,B,P,u,q,I,aq,aA,an,Z,cZ z,b,d,cZ q1,r,a4,k4,Y,d5];exact aY (.cO (.cons (.agg (.cons (by simpa using hv) (.data (by simp)))) (.data (by simp))))
  obtain⟨q1,q2⟩:=h2 (λh=>z h.2);have q4:¬0<m.arg:=by omega
  simp only[q1,q4,eV,kY,ua,yz,jL]at b d;simp[U.qX,k,t,hw,A,B,P,u,q,I,aq,aA,an,Z,z,b,r,a4,k4,Y,d5];exact aY (.cO (.cons (.agg (.cons (by simpa using hv) (.data (by simp)))) (.data (by simp))))
 obtain⟨q1,q2⟩:=h2 (λh=>Z h.1);have q4:¬0<m.arg:=by omega
 simp only[q1,q4,eV,kY,ua,yz,jL]at b d;simp[U.qX,k,t,hw,A,B,P,u,q,I,aq,aA,an,Z,b,r,a4,k4,Y,d5];exact aY (.cO (.cons (.agg (.cons (by simpa using hv) (.data (by simp)))) (.data (by simp))))
end
set_option maxHeartbeats 4000000
section
variable{a:Ar}{m top:Mv}{l:bE}{n:Nat}
def Y6(ok:fz a)(hc:aQ a=0)(lo fo:Bool)(hl:l.length<=400)(hn:l.length=n+1)(ho:l[n]?=some top)(hd:gT a m=true)(hk:m.kind=3)
  (V:m.id=top.id)(I:m.arg=top.arg)(h3:(fo||lo)=true->m.n= -1)
  (h4:(fo||lo)=false->m.n= -1->0<top.arg∨(top.arg=0/\0<top.id/\a.jumps=true))(h5:(fo||lo)=false->¬m.n= -1->top.kind=1∨m.n=0)(s:HS):
  R (.call 135 [.agg [.psl (l.map Mv.c),.bool fo,.bool lo],.agg a.c,.agg m.c,.bool false] s)=
   .val (.cO [.agg [.psl (l.dropLast.map Mv.c),.bool (dH m&&decide (0<m.arg)),.bool (lo||(dH m&&decide (0<m.id)&&decide (m.arg=0)&& !fo))],.bool true]) s:=by
 refine RV ?_;have d:=R3 a ok m;rw[tZ,hd,hc]at d;obtain⟨g1,g2,g3,_,g5⟩:=fR hd;obtain⟨C,D⟩:=aU.1 ho;have hx:(n:Int)<l.length:=by omega
 have hy:¬(l.length:Int)=0:=by omega
 have E:l≠ []:=λh=>by rw[h]at hn;cases hn
 have hw:bT .i64 ((l.length:Int)-1)=n:=by rw[hn];simp;exact cx (by omega) (by omega)
 have h0:aI s0 (λ_=>none) [] []:=⟨dV.start (by simp),by simp,by simp⟩;have hp:=h0.cL [.ah,.bool false,.bool false];generalize z:HS.mk _ _ _ _=S1 at hp;have hf:=hp.cL top.c;have d2:=(hf.bm 0 _ _ rfl).1.1;generalize u:HS.mk _ _ _ _=S2 at hf d2;have hr:(l.map Mv.c).take n=l.dropLast.map Mv.c:=by rw[J3,hn];simp
 obtain⟨v,s3,c3,L',q,k3,hq,hs⟩:=Y2 hf l.dropLast (by simp;omega);have d3:=(hq.bm 0 _ _ rfl).1.1;have A:dk 4 (l.map Mv.c)=true:=mK (Sz.map (f:=Mv.c) (λ_=>rfl) l);have hg:=hq.cL [.ah,.bool false,.bool false];generalize B:HS.mk _ _ _ _=S4 at hg;have d4:=(hg.bm 1 _ _ rfl).1.1;have H:∀fb lb:Bool,∃s5 s6,(qh 3 (some (.ptr s3.nx 0)) (some (.agg [v,.bool fb,.bool lb])) S4=.v .undef s5)/\(qh 3 (some (.ptr s0.nx 0)) (some (.agg [v,.bool fb,.bool lb])) s5=.v .undef s6)/\aj s5.h s3.nx=some (.cells (cP [v,.bool fb,.bool lb]) 0 3 s3.nx)/\aj s5.h S1.nx=some (.cells (cP top.c) 0 4 S1.nx)/\aj s6.h S1.nx=some (.cells (cP top.c) 0 4 S1.nx)/\aj s6.h s0.nx=some (.cells (cP [v,.bool fb,.bool lb]) 0 3 s0.nx)/\∀b,Ai (.val (.cO [.agg [v,.bool fb,.bool lb],.bool b]) s6)=some (.cO [.agg [.psl (l.map Mv.c).dropLast,.bool fb,.bool lb],.bool b]):=by
  intro fb lb;rw[<-List.map_dropLast];obtain⟨s5,O,h8⟩:=hg.put (a:=0) rfl (v:=.agg [v,.bool fb,.bool lb]) (new:=[v,.bool fb,.bool lb]) (by simp[cellsOf]) rfl;simp only[aO]at h8;obtain⟨s6,P,h9⟩:=h8.put (a:=2) rfl (v:=.agg [v,.bool fb,.bool lb]) (new:=[v,.bool fb,.bool lb]) (by simp[cellsOf]) rfl;simp only[bJ,aO]at h9;refine⟨s5,s6,O,P,(h8.bm 0 _ _ rfl).1.1,(h8.bm 1 _ _ rfl).1.1,(h9.bm 1 _ _ rfl).1.1,(h9.bm 2 _ _ rfl).1.1,λb=>aY (.cO (.cons (.agg (.cons ?_ (.data (by simp)))) (.data (by simp))))⟩;rcases hs with⟨h,rfl,rfl⟩|rfl
  .rw[h];exact .data rfl
  exact(h9.mem.own 0 _ _ _ rfl).vw (n:=12) (cD (λx=>by simp[dv,eo]) _)
 have k:=afU m;have r:n<=l.length:=by omega
 rw[<-hr]at q;simp only[eV,j7,iV,Ar.c,Mv.c]at d;simp only[Mv.c]at u d2 q k A;simp only[aB,aC,bn,Nat.reduceAdd]at z u B d2 d3 d4;by_cases J:m.n= -1
 .have h6:dH m=true:=by simp[dH,hk,J]
  rw[h6]at k ⊢;simp only[j7];by_cases ha:0<top.arg
  .have t:¬top.arg=0:=by omega
   have M:0<top.id:=by rw[<-V];exact g3 (by rw[I];exact ha)
   have hb:decide (0<m.arg)=true:=by rw[I];simpa using ha
   have h7:(lo||(decide (0<m.id)&&decide (m.arg=0)&& !fo))=lo:=by rw[I];simp[t]
   rw[hb,h7];obtain⟨s5,s6,O,P,X,Y,Z,d6,hv⟩:=H true lo;cases fo<;>cases lo<;>simp-implicitDefEqProofs[U.qX,d,E,hw,C,r,D,cZ hk,z,u,B,d2,d3,k3,aq,aA,an,cZ J,ha,t,M,cZ V,cZ I,q,k,A,O,P,d4,X,Y,Z,d6]<;>exact hv _
  have t:top.arg=0:=by rw[I]at g2;omega
  have hb:decide (0<m.arg)=false:=by rw[I];simpa using ha
  by_cases M:0<top.id
  .have h7:(lo||(decide (0<m.id)&&decide (m.arg=0)&& !fo))=(lo|| !fo):=by rw[V,I];simp[t,M]
   rw[hb,h7];cases fo
   .obtain⟨s5,s6,O,P,X,Y,Z,d6,hv⟩:=H false true;cases lo
    .have hj:a.jumps=true:=by rcases h4 rfl J with h|⟨_,_,h⟩;exact(ha h).elim;exact h
     rw[hj]at d;simp-implicitDefEqProofs[U.qX,d,E,hw,C,r,D,cZ hk,z,u,B,d2,d3,k3,aq,aA,an,cZ J,ha,cZ t,M,hj,cZ V,cZ I,q,k,A,O,P,d4,X,Y,Z,d6];exact hv _
    simp-implicitDefEqProofs[U.qX,d,E,hw,C,r,D,cZ hk,z,u,B,d2,d3,k3,aq,aA,an,cZ J,ha,cZ t,M,cZ V,cZ I,q,k,A,O,P,d4,X,Y,Z,d6];exact hv _
   obtain⟨s5,s6,O,P,X,Y,Z,d6,hv⟩:=H false lo;cases lo<;>simp-implicitDefEqProofs[U.qX,d,E,hw,C,r,D,cZ hk,z,u,B,d2,d3,k3,aq,aA,an,cZ J,ha,cZ t,M,cZ V,cZ I,q,k,A,O,P,d4,X,Y,Z,d6]<;>exact hv _
  have h7:(lo||(decide (0<m.id)&&decide (m.arg=0)&& !fo))=lo:=by rw[V];simp[M]
  rw[hb,h7];obtain⟨s5,s6,O,P,X,Y,Z,d6,hv⟩:=H false lo;have hj:fo=true∨lo=true:=by
   cases fo<;>cases lo<;>simp;rcases h4 rfl J with h|⟨_,h,_⟩
   .exact(ha h).elim
   exact(M h).elim
  rcases hj with rfl|rfl
  .cases lo<;>simp-implicitDefEqProofs[U.qX,d,E,hw,C,r,D,cZ hk,z,u,B,d2,d3,k3,aq,aA,an,cZ J,ha,M,cZ V,cZ I,q,k,A,O,P,d4,X,Y,Z,d6]<;>exact hv _
  cases fo<;>simp-implicitDefEqProofs[U.qX,d,E,hw,C,r,D,cZ hk,z,u,B,d2,d3,k3,aq,aA,an,cZ J,ha,M,cZ V,cZ I,q,k,A,O,P,d4,X,Y,Z,d6]<;>exact hv _
 have h6:dH m=false:=by simp[dH,hk,J]
 rw[h6]at k ⊢;have ht:(fo||lo)=false:=by cases h:(fo||lo)with|false=>rfl|true=>exact(J (h3 h)).elim
 obtain⟨rfl,rfl⟩:fo=false/\lo=false:=by simpa using ht
 simp only[FD,SV];obtain⟨s5,s6,O,P,X,Y,Z,d6,hv⟩:=H false false;by_cases ha:0<top.arg
 .have t:¬top.arg=0:=by omega
  have M:0<top.id:=by rw[<-V];exact g3 (by rw[I];exact ha)
  by_cases hu:top.kind=1
  .simp-implicitDefEqProofs[U.qX,d,E,hw,C,r,D,cZ hk,z,u,B,d2,k3,aq,aA,an,J,cZ hu,t,M,cZ V,cZ I,q,k,A,O,P,d4,X,Y,Z,d6];exact hv _
  simp-implicitDefEqProofs[U.qX,d,E,hw,C,r,D,cZ hk,z,u,B,d2,k3,aq,aA,an,J,hu,cZ ((h5 rfl J).resolve_left hu),t,M,cZ V,cZ I,q,k,A,O,P,d4,X,Y,Z,d6];exact hv _
 have t:top.arg=0:=by rw[I]at g2;omega
 by_cases hu:top.kind=1
 .by_cases M:0<top.id<;>simp-implicitDefEqProofs[U.qX,d,E,hw,C,r,D,cZ hk,z,u,B,d2,k3,aq,aA,an,J,cZ hu,cZ t,M,cZ V,cZ I,q,k,A,O,P,d4,X,Y,Z,d6]<;>exact hv _
 by_cases M:0<top.id<;>simp-implicitDefEqProofs[U.qX,d,E,hw,C,r,D,cZ hk,z,u,B,d2,k3,aq,aA,an,J,hu,cZ ((h5 rfl J).resolve_left hu),cZ t,M,cZ V,cZ I,q,k,A,O,P,d4,X,Y,Z,d6]<;>exact hv _
end
section
variable{a:Ar}{x:Mn}{m:Mv}
def afV(ok:fz a)(B:aQ a=0)(b:ir a x m=true)(hlen:x.op.length<=400)(V:x.begun=false->x.op=[]/\x.forced=false/\x.lost=false)(s:HS):
  R (.call 135 [.agg (oy x),.agg a.c,.agg m.c,.bool (!x.begun)] s)=.val (.cO [.agg (oy (gL x m)),.bool true]) s:=by
 obtain⟨op,lo,fo,X⟩:=x;cases X with
 |false=>obtain⟨E,I,J⟩:=V rfl;simp only at E I J;subst E I J;exact Y4 ok B b s
 |true=>
  have d:=je b;obtain⟨g1,Y,g3,Z,g5⟩:=fR d;unfold ir at b;rw[au d]at b;simp only[bp]at b hlen;cases A:op.getLast? with
  |none=>rw[A]at b;cases b
  |some top=>
   rw[A]at b;simp only at b;have M:op.length=op.length-1+1:=by cases op with|nil=>simp at A|cons _ _=>simp
   have q:op[op.length-1]?=some top:=by rw[<-List.getLast?_eq_getElem?];exact A
   have u:dH m=true->m.kind=3/\m.n= -1:=by intro h;simpa[dH]using h
   have C:dS m=true->m.kind≠3:=yW;have z:vr top m=true->m.id=top.id/\m.arg=top.arg/\m.kind=3/\(top.kind=1∨m.n<=0):=by intro h;simpa[vr,and_assoc]using h
   cases r:dS m with
   |true=>
    have k:(lo||fo)=false:=by cases h:(lo||fo)with|false=>rfl|true=>rw[h]at b;simp at b;exact(C r (u b.2).1).elim
    obtain⟨rfl,rfl⟩:lo=false/\fo=false:=by simpa using k
    simp only[Bool.or_self,df,bD,r,bp]at b;have:=Y5 ok B hlen M q d r (λh=>by simpa[h.1,h.2]using b) (λh=>by
     rw[ar (by simpa using h)]at b;simpa using b) s
    unfold gL;rw[au r];exact this
   |false=>
    have t:m.kind=3:=by
     have:¬(m.kind=1∨m.kind=2):=by intro h;simp[dS,h]at r
     rcases Z with h|h|h
     .exact(this (.inl h)).elim
     .exact(this (.inr h)).elim
     exact h
    have hA:vr top m=true/\((lo||fo)=true->dH m=true)/\((lo||fo)=false->dH m=true->top.arg=0->0<top.id/\a.jumps=true):=by
     cases k:(lo||fo)with
     |true=>rw[k]at b;simp at b;exact⟨b.1,λ_=>b.2,λh=>by cases h⟩
     |false=>
      rw[k]at b;simp only[df,bD,r]at b;cases D:dH m with
      |false=>rw[D]at b;simp at b;exact⟨b,λh=>(by cases h),λ_ h=>(by cases h)⟩
      |true=>
       by_cases h0:top.arg=0
       .rw[D,h0]at b;simp at b;exact⟨b.1.1,λh=>(by cases h),λ_ _ _=>⟨b.1.2,b.2⟩⟩
       rw[D]at b;simp[h0]at b;exact⟨b,λh=>(by cases h),λ_ _ h=>(h0 h).elim⟩
    obtain⟨q1,q2,q3⟩:=hA;obtain⟨i1,O,i3,i4⟩:=z q1;have:=Y6 ok B lo fo hlen M q d t i1 O (λh=>(u (q2 (by rw[FE];exact h))).2) (λh P=>by
      by_cases h0:top.arg=0
      .obtain⟨r1,r2⟩:=q3 (by rw[FE];exact h) (by simp[dH,t,P]) h0;exact .inr ⟨h0,r1,r2⟩
      .rw[O]at Y;exact .inl (by omega)) (λh P=>by
      rcases i4 with h|h
      .exact .inl h
      have:=g5 t;exact .inr (by omega)) s
    unfold gL;rw[ar (by rw[r];decide)];exact this
end
def l6(n:Nat):az:=if n<128 then [n]else [192+n/64,128+n%64]
def Nh(v:bS)(s:HS):cX:=match v with|some (.int _ (.ofNat n))=>bif Nat.blt n 128 then .v (.str [n]) s else bif Nat.blt n 2048 then .v (.str [192+n/64,128+n%64]) s else .bad|_=>.bad
@[simp]def aaq{e:En}{s:HS}{x:X}:dA (.cis x) e s=Nh (bw x e) s:=rfl
def DT{s:HS}{k:IntKind}{n:Nat}(h:n<2048):Nh (some (.int k (n:Int))) s=.v (.str (l6 n)) s:=by
 show(bif Nat.blt n 128 then cX.v (.str [n]) s else bif Nat.blt n 2048 then .v (.str [192+n/64,128+n%64]) s else .bad)=_;unfold l6;by_cases b:n<128
 .rw[ck.2 b,au b];rfl
 have:Nat.blt n 128=false:=by cases c:Nat.blt n 128 with|false=>rfl|true=>exact(b (ck.1 c)).elim
 rw[this,ck.2 h,ar b];rfl
def DU{n:Nat}(h:n<2048):∀k∈l6 n,k<256:=by
 intro k b;unfold l6 at b
 split at b
 .simp at b;omega
 simp at b;omega
def uf(n:Nat):(l6 n).length<=2:=by unfold l6;split<;>simp
section
variable{s:HS}{ao:aW}{L:cq}{K:de}
def lA.keep{s':HS}{o:Ky}{p v:HV}{F:bM}{ak:aP}(q:lA s o p v)(C:o.toNat<s.nx.toNat)(z:cu s v 1 F ak)(A:∀k,k.toNat<s.nx.toNat->aj s'.ty k=aj s.ty k):lA s' o p v:=by
 refine⟨by rw[A o C];exact q.ty,q.pp,λr a b c d=>?_⟩;have u:r.toNat<s.nx.toNat:=by
  rcases z.2.2 with⟨h,_⟩|⟨I,t,J,g,B,D,_,_,_,_,_,E,_⟩
  .rw[h]at d;cases d
  rw[D]at d;cases d;exact z.2.1 _ (E _ (by simp))
 rw[A r u];exact q.tv r a b c d
def Ol{a i:Nat}{o:Ky}{p v:HV}{l:az}(P:aI s ao L K)(B:K[a]?=some (o,[p,v]))(hi:L[i]?=some (v,1,l.map uC))(C:lA s o p v)(t:az)(hl:l.length+t.length<=140737488355328):
  ∃c s' d,R (.call 174 [.ptr o 0,.str t] s)=.val (.cO [iV t.length,.fU]) s'/\aI s' d (L.set i (c,1,(l++t).map uC)) (K.set a (o,[.ptr o 0,c]))/\lA s' o (.ptr o 0) c/\(∀k,k.toNat<s.nx.toNat->aj s'.ty k=aj s.ty k):=by
 obtain⟨s1,h1,q,D,V⟩:=SG P B C;have E:=(aU.1 B).1;have I:=(P.bm a o _ B).1.2.2;have u:(K.set a (o,[.ptr o 0,v]))[a]?=some (o,[.ptr o 0,v]):=by rw[gK E]
 have X:=(q.bm a o _ u).1.1;obtain⟨c,s2,z,h2,k2,J,tv,Y,n2⟩:=Ke q hi (by rw[D];exact C.tv) t hl;obtain⟨s3,h3,b,M,n3⟩:=J.MX u 1 (by simp) k2;rw[B2]at b;simp only[bJ,aO]at b;simp only[aB,aC,bn,Nat.reduceAdd]at X;have O:∃A,ev R U.Fh (bc [.ptr o 0,.str t] 0) s=.code .ret A s3/\look A 4=some (iV t.length)/\look A 5=some .fU:=by generalize Z:ev R U.Fh (bc [.ptr o 0,.str t] 0) s=r;simp[U.Fh,h1,X,h2,h3]at Z;subst Z;exact⟨_,rfl,by simp⟩
 obtain⟨A,O,h4,h5⟩:=O;refine⟨c,s3,z,Xx rfl ⟨.ret,_,s3,O,.inr rfl,by simp[h4,h5]⟩,b,⟨?_,.inr rfl,by rw[M];exact tv⟩,λk hk=>by rw[M,Y k (by rw[V];exact hk),D]⟩;rw[M,Y o (by rw[V];exact I),D];exact C.ty
def Om{F:bM}{o:Ky}{p v:HV}{l:az}(r:il s o [p,v])(q:cu s v 1 F (l.map uC))(D:lA s o p v)(h0:v=.ah∨l≠ [])(E:l.length<=4611686018427387904)(I:∀n∈l,n<256):
  ∃s',R (.call 88 [.ptr o 0] s)=.val (.str l) s'/\cV F s s':=by
 have J:=r.1;have d:s.load o 1 none=some v:=by show s.cell o 1=_;rw[BG,J];simp
 rcases h0 with rfl|h0
 .have u:l=[]:=by
   rcases q.2.2 with⟨_,h⟩|⟨M,t,z,g,c,A,_⟩
   .exact FJ.1 h
   cases A
  subst u;refine⟨s,dm ?_ trivial,aV _,rfl,λ_ _ _=>rfl,λ_ _ _=>rfl⟩;show mc LU [.ptr o 0] s=_;unfold mc;simp only[d]
 obtain⟨B,rfl⟩:=q.gP (by intro h;exact h0 (FJ.1 h));obtain⟨m,O⟩:=D.tv _ _ _ _ rfl;have b:=q.cells.2;rcases q.2.2 with⟨h,_⟩|⟨M,t,z,g,c,A,C,Y,Z,P,_,V,_⟩
 .cases h
 cases A;refine⟨{h:=fA s.h (B::c),nx:=s.nx,gr:=s.gr,ty:=s.ty},dm ?_ trivial,aV _,rfl,λk _ X=>(jt s.h (B::c) k).2 (λh=>X (V _ h)),λ_ _ _=>rfl⟩;show mc LU [.ptr o 0] s=_;unfold mc;have hlen:0<l.length:=ym.2 h0;rw[bz]at d b;rw[jl,vY,C]at b;simp only[d,O,gI,b,yL l I,C,P];rw[show Nat.beq 5 LU.It=true from rfl,ck.2 hlen,show Nat.ble l.length 4611686018427387904=true from zJ E];rfl
end
def mvS(m:Mv):Prop:=0<=m.id/\m.id<=8/\0<=m.arg/\m.arg<=8/\1<=m.kind/\m.kind<=3
def yX(m:Mv):az:=l6 (64*m.id+m.arg+1).toNat++[32]
def sK(m:Mv):az:=l6 m.kind.toNat
def KA(b:Bool):az:=if b then [121]else [110]
def wrap32{n:Int}(h0:0<=n)(b:n<2048):bT .i32 n=n:=by show IntKind.wrap .i32 n=n;obtain⟨k,rfl⟩:=Int.eq_ofNat_of_zero_le h0;simp[IntKind.wrap,IntKind.bits,IntKind.signed];omega
def nc{f:Mv->az}{c:Nat}(b:∀m,(f m).length<=c):∀l:bE,(l.flatMap f).length<=c*l.length
 |[]=>by simp
 |a::l=>by have:=nc b l;have:=b a;rw[mU,bZ,aB,Nat.mul_succ];omega
def yY(m:Mv):(yX m).length<=3:=by have:=uf (64*m.id+m.arg+1).toNat;simp[yX];omega
def yZ(m:Mv):(sK m).length<=2:=uf _
def Y7{l:bE}(hl:l.length<=400)(hS:∀m∈l,mvS m){e:En}{s:HS}{o:Out}{A B:Ky}{q b t d v1:HV}{ao:aW}
  (C:bB e [(1,v1),(4,.ptr A 0),(5,.ptr B 0),(10,.psl (l.map Mv.c)),(11,iV l.length),(12,iV 0)])
  (M:aI s ao [(b,1,[]),(d,1,[])] [(B,[t,d]),(A,[q,b])])(D:lA s A q b)(E:lA s B t d)(h0:b=.ah/\d=.ah)(ho:bO R (.loop U.xG) e s=o):
  ∃(e':En) (s':HS) (ao:aW) (q b t d:HV),o=.code (.exit 0) e' s'/\bB e' [(1,v1),(4,.ptr A 0),(5,.ptr B 0)]/\
   aI s' ao [(b,1,(l.flatMap yX).map uC),(d,1,(l.flatMap sK).map uC)] [(B,[t,d]),(A,[q,b])]/\lA s' A q b/\lA s' B t d/\(l=[]->b=.ah/\d=.ah):=by
 revert o;show∀o,_;refine ajX l.length
  (λi e s=>∃(ao:aW) (q b t d:HV),bB e [(1,v1),(4,.ptr A 0),(5,.ptr B 0),(10,.psl (l.map Mv.c)),(11,iV l.length),(12,iV i)]/\
   aI s ao [(b,1,((l.take i).flatMap yX).map uC),(d,1,((l.take i).flatMap sK).map uC)] [(B,[t,d]),(A,[q,b])]/\lA s A q b/\lA s B t d/\(l=[]->b=.ah/\d=.ah))
  0 (by omega) ⟨ao,q,b,t,d,C,by simpa using M,D,E,λ_=>h0⟩ ?_ ?_
 .rintro i e s r I ⟨ao,q,b,t,d,C,M,D,E,h0⟩ O
  have h1:(i:Int)<l.length:=by omega
  have h4:=aX I;obtain⟨g1,g2,g3,g4,g5,g6⟩:=hS _ (cb I);have h5:(l.map Mv.c)[i]?=some (l[i]).c:=by rw[fV,h4];rfl
  have h6:l.take (i+1)=l.take i++[l[i]]:=eW I;generalize he:l[i]=m at*;have hy:=nc yY (l.take i);have hz:=nc yZ (l.take i);have k0:(l.take i).length<=400:=by simp;omega
  have u:=M.cL m.c;have J:=(u.bm 0 _ _ rfl).1.1;have P:lA {h:=av (some (.cells (cP m.c) 0 m.c.length s.nx)) s.nx s.h,nx:=s.nx.succ,gr:=av (some [s.nx]) s.nx s.gr,ty:=s.ty} A q b:=⟨D.ty,D.pp,D.tv⟩;have V:lA {h:=av (some (.cells (cP m.c) 0 m.c.length s.nx)) s.nx s.h,nx:=s.nx.succ,gr:=av (some [s.nx]) s.nx s.gr,ty:=s.ty} B t d:=⟨E.ty,E.pp,E.tv⟩;generalize X:HS.mk _ _ _ _=S1 at u J P V;have k1:=yY m;have k2:=yZ m;obtain⟨h7,s2,c2,h2,z,h8,t2⟩:=Ol (a:=2) (i:=0) u rfl rfl P (yX m) (by omega);have h9:=V.keep (u.bm 1 _ _ rfl).1.2.2 (u.mem.own 1 _ _ _ rfl) t2;simp only[aO,bJ]at z;have Y:=(z.bm 0 _ _ rfl).1.1;have ha:=(z.bm 2 _ _ rfl).1.2.2;obtain⟨hb,s3,c3,h3,Z,hd,t3⟩:=Ol (a:=1) (i:=1) z rfl rfl h9 (sK m) (by omega);have hf:=h8.keep ha (z.mem.own 0 _ _ _ rfl) t3;simp only[aO,bJ]at Z;have hg:bT .i64 (64*m.id)=64*m.id:=cx (by omega) (by omega);have hj:bT .i64 (64*m.id+m.arg)=64*m.id+m.arg:=cx (by omega) (by omega);have hk:bT .i64 (64*m.id+m.arg+1)=64*m.id+m.arg+1:=cx (by omega) (by omega);have hp:bT .i32 (64*m.id+m.arg+1)=64*m.id+m.arg+1:=wrap32 (by omega) (by omega);have hq:bT .i32 m.kind=m.kind:=wrap32 (by omega) (by omega);have hs:∀s,Nh (some (.int .i32 (64*m.id+m.arg+1))) s=.v (.str (l6 (64*m.id+m.arg+1).toNat)) s:=by intro s;have:=DT (s:=s) (k:=.i32) (n:=(64*m.id+m.arg+1).toNat) (by omega);rwa[JQ (by omega)]at this
  have ht:∀s,Nh (some (.int .i32 m.kind)) s=.v (.str (l6 m.kind.toNat)) s:=by intro s;have:=DT (s:=s) (k:=.i32) (n:=m.kind.toNat) (by omega);rwa[JQ (by omega)]at this
  have k3:=uf (64*m.id+m.arg+1).toNat;have hx:∀s,mj false .add (some (.str (l6 (64*m.id+m.arg+1).toNat))) (some (.str [32])) s=.v (.str (l6 (64*m.id+m.arg+1).toNat++[32])) s:=λs=>pQ (by simp;omega)
  have hw:=br I (by omega);simp only[Mv.c,aB,aC,bn,Nat.reduceAdd]at J Y X h5;unfold yX at h2;unfold sK at h3;simp only[ab,ae]at C;simp[U.xG,C,I,h1,he,X,J,aq,aA,hg,hj,hk,hp,hq,hs,ht,hx,h2,Y,h3,hw]at O;subst O;refine .inl ⟨_,_,rfl,c3,_,h7,_,hb,by simp[C],?_,hf,hd,λh=>by rw[h]at I;exact(Nat.not_lt_zero _ I).elim⟩;rw[h6,uL,uL];simpa using Z.Kg
 rintro e s r ⟨ao,q,b,t,d,C,M,D,E,h0⟩ O
 simp only[ab,ae]at C;simp[U.xG,C]at O;subst O;rw[fD (aV _)]at M;exact⟨by simp,_,_,ao,q,b,t,d,rfl,by simp[C],M,D,E,h0⟩
def rz(l:bE):az:=l.flatMap yX
def oz(x:Mn):az:=x.op.flatMap sK++KA x.forced++KA x.lost
abbrev On:Kd:=⟨false,[1]⟩
section
variable{s:HS}{o:Ky}
def afW(h:aj s.h o=some (.mp [])):R6 On (some (.mp o)) (some (HV.bool false)) (some (HV.str [110])) s=.v .undef (s.aJ o (.mp [(HV.bool false,HV.str [110])])):=by
 show(match aj s.h o with
   |some (.mp es)=>(match dZ On es (HV.bool false) 0 with
    |some (i,some _)=>cX.v .undef (s.aJ o (.mp (l9 es i (HV.str [110]))))
    |some (_,none)=>.v .undef (s.aJ o (.mp (es++[(HV.bool false,HV.str [110])])))
    |none=>.bad)
   |_=>.bad)=_
 rw[h];rfl
def afX(h:aj s.h o=some (.mp [(HV.bool false,HV.str [110])])):R6 On (some (.mp o)) (some (HV.bool true)) (some (HV.str [121])) s=.v .undef (s.aJ o (.mp [(HV.bool false,HV.str [110]),(HV.bool true,HV.str [121])])):=by
 show(match aj s.h o with
   |some (.mp es)=>(match dZ On es (HV.bool true) 0 with
    |some (i,some _)=>cX.v .undef (s.aJ o (.mp (l9 es i (HV.str [121]))))
    |some (_,none)=>.v .undef (s.aJ o (.mp (es++[(HV.bool true,HV.str [121])])))
    |none=>.bad)
   |_=>.bad)=_
 rw[h];rfl
def UU(h:aj s.h o=some (.mp [(HV.bool false,HV.str [110]),(HV.bool true,HV.str [121])]))(b:Bool):XP On (some (.mp o)) (some (HV.bool b)) (HV.str []) false s=.v (HV.str (KA b)) s:=by
 show(match aj s.h o with
   |some (.mp es)=>(match dZ On es (HV.bool b) 0 with
    |some (_,some v)=>cX.v v s
    |some (_,none)=>.v (HV.str []) s
    |none=>.bad)
   |_=>.bad)=_
 rw[h];cases b<;>rfl
end
def afY{x:Mn}(hl:x.op.length<=400)(hS:∀m∈x.op,mvS m)(s:HS):R (.call 136 [.agg (oy x)] s)=.val (.cO [.str (rz x.op),.str (oz x)]) s:=by
 refine adI ?_ rfl (by simp[oy]);have h0:aI s0 (λ_=>none) [] []:=⟨dV.start (by simp),by simp,by simp⟩;have A:=((h0.cL [.dE,.ah]).ty (av (some (166,2)) s0.nx s0.ty));simp only[aB,aC,bn,Nat.reduceAdd]at A;have X:lA (HS.mk (av (some (.cells (cP [.dE,.ah]) 0 2 s0.nx)) s0.nx s0.h) s0.nx.succ (av (some [s0.nx]) s0.nx s0.gr) (av (some (166,2)) s0.nx s0.ty)) s0.nx .dE .ah:=⟨by simp only;rw[af,au rfl],.inl rfl,λo a b c h=>by cases h⟩;generalize h3:HS.mk _ _ _ _=d at A X;have J:=((((A.cL [.dE,.ah]).ty (av (some (166,2)) d.nx d.ty)).push 1).push 1);simp only[aB,aC,bn,Nat.reduceAdd,bq,bo]at J;have B:=(A.bm 0 _ _ rfl).1.2.2;have h4:s0.nx≠d.nx:=λe=>by rw[e]at B;exact(ec _ B).elim
 have C:lA (HS.mk (av (some (.cells (cP [.dE,.ah]) 0 2 d.nx)) d.nx d.h) d.nx.succ (av (some [d.nx]) d.nx d.gr) (av (some (166,2)) d.nx d.ty)) s0.nx .dE .ah:=⟨by simp only;rw[af,ar (λe=>h4 e)];exact X.ty,.inl rfl,λo a b c h=>by cases h⟩;have Y:lA (HS.mk (av (some (.cells (cP [.dE,.ah]) 0 2 d.nx)) d.nx d.h) d.nx.succ (av (some [d.nx]) d.nx d.gr) (av (some (166,2)) d.nx d.ty)) d.nx .dE .ah:=⟨by simp only;rw[af,au rfl],.inl rfl,λo a b c h=>by cases h⟩;generalize h5:HS.mk _ _ _ _=Sb at J C Y;simp[U.Wd,oy,h3,h5];generalize ho:bO R (.loop U.xG) _ _=o;obtain⟨e2,s2,Z,pA,vA,pB,vB,rfl,hL,hM,hA,hB,D⟩:=Y7 (v1:=.aw (oy x)) hl hS (by simp[oy]) J C Y ⟨rfl,rfl⟩ ho;clear ho;have r:cV (λ_=>False) s2 (((HS.mk (av (some (.mp [])) s2.nx s2.h) s2.nx.succ s2.gr s2.ty).aJ s2.nx (.mp [(HV.bool false,HV.str [110])])).aJ s2.nx (.mp [(HV.bool false,HV.str [110]),(HV.bool true,HV.str [121])])):=by
  have h8:=Ky.aS s2.nx;refine⟨by simp only[HS.aJ];omega,rfl,λp hp _=>?_,λ_ _ _=>rfl⟩;have M:p≠s2.nx:=λe=>by rw[e]at hp;exact ec _ hp
  simp only[HS.aJ];rw[af,ar M,af,ar M,af,ar M]
 have m1:R6 On (some (.mp s2.nx)) (some (.bool false)) (some (.str [110])) (HS.mk (av (some (.mp [])) s2.nx s2.h) s2.nx.succ s2.gr s2.ty)=.v .undef _:=afW (by simp only;rw[af,au rfl]);have m2:R6 On (some (.mp s2.nx)) (some (.bool true)) (some (.str [121])) ((HS.mk (av (some (.mp [])) s2.nx s2.h) s2.nx.succ s2.gr s2.ty).aJ s2.nx (.mp [(HV.bool false,HV.str [110])]))=.v .undef _:=afX (by simp only[HS.aJ];rw[af,au rfl]);have u:aj (((HS.mk (av (some (.mp [])) s2.nx s2.h) s2.nx.succ s2.gr s2.ty).aJ s2.nx (.mp [(HV.bool false,HV.str [110])])).aJ s2.nx (.mp [(HV.bool false,HV.str [110]),(HV.bool true,HV.str [121])])).h s2.nx=some (.mp [(HV.bool false,HV.str [110]),(HV.bool true,HV.str [121])]):=by simp only[HS.aJ];rw[af,au rfl]
 have q:s2.nx.toNat<(((HS.mk (av (some (.mp [])) s2.nx s2.h) s2.nx.succ s2.gr s2.ty).aJ s2.nx (.mp [(HV.bool false,HV.str [110])])).aJ s2.nx (.mp [(HV.bool false,HV.str [110]),(HV.bool true,HV.str [121])])).nx.toNat:=by have h8:=Ky.aS s2.nx;simp only[HS.aJ];omega
 generalize HS.aJ _ _ _=s4 at m1 m2 r u q;generalize HS.aJ _ _ _=s5 at m2 r u q;have t:=hM.frame r;have h9:lA s5 s0.nx pA vA:=⟨by rw[r.2.1];exact hA.ty,hA.pp,by rw[r.2.1];exact hA.tv⟩;have O:lA s5 d.nx pB vB:=⟨by rw[r.2.1];exact hB.ty,hB.pp,by rw[r.2.1];exact hB.tv⟩;have k1:=nc yY x.op;have k2:=nc yZ x.op;have ha:∀n∈x.op.flatMap yX,n<256:=by
  intro n z;obtain⟨m,hm,z⟩:=qF.1 z;obtain⟨g1,g2,g3,g4,g5,g6⟩:=hS m hm;rcases l5.1 z with z|z
  .exact DU (by omega) n z
  simp at z;omega
 have hb:∀n∈x.op.flatMap sK,n<256:=by intro n z;obtain⟨m,hm,z⟩:=qF.1 z;obtain⟨g1,g2,g3,g4,g5,g6⟩:=hS m hm;exact DU (by omega) n z
 have hd:vA=.ah∨x.op.flatMap yX≠ []:=by cases hx:x.op with|nil=>exact .inl (D hx).1|cons m l=>exact .inr (by simp[yX])
 have hf:vB=.ah∨x.op.flatMap sK≠ []:=by cases hx:x.op with|nil=>exact .inl (D hx).2|cons m l=>exact .inr (by simp only[mU,sK,l6];split<;>simp)
 obtain⟨s6,h6,P⟩:=Om (t.bm 1 _ _ rfl).1 (t.mem.own 0 _ _ _ rfl) h9 hd (by omega) ha;have cB:=(t.bm 0 _ _ rfl);have h1:=cB.1.frame P (by rw[cB.2];simp);have h2:=(t.mem.own 1 _ _ _ rfl).frame P (λk hk h=>by rw[hk]at h;cases h);have hg:lA s6 d.nx pB vB:=⟨by rw[P.2.1];exact O.ty,O.pp,by rw[P.2.1];exact O.tv⟩;obtain⟨s7,h7,f7⟩:=Om h1 h2 hg hf (by omega) hb;have V:Z s2.nx=none:=by cases h:Z s2.nx with|none=>rfl|some i=>exact absurd (hM.mem.bd _ _ h) (ec _)
 have E:aj s7.h s2.nx=some (.mp [(HV.bool false,HV.str [110]),(HV.bool true,HV.str [121])]):=by rw[f7.2.2.1 _ (dJ q P.1) (by show¬Z s2.nx=some 1;rw[V];simp),P.2.2.1 _ q (by show¬Z s2.nx=some 0;rw[V];simp)];exact u
 have I:aj s6.h s2.nx=some (.mp [(HV.bool false,HV.str [110]),(HV.bool true,HV.str [121])]):=by rw[P.2.2.1 _ q (by show¬Z s2.nx=some 0;rw[V];simp)];exact u
 have hj:=UU E x.forced;have hq:=UU E x.lost;have hr:=UU I x.forced;have hs:=UU I x.lost;have ht:=UU u x.forced;have hz:=UU u x.lost;have hy:∀b,(KA b).length=1:=by intro b;cases b<;>rfl
 have e1:∀s,mj false .add (some (.str (x.op.flatMap sK))) (some (.str (KA x.forced))) s=.v (.str (x.op.flatMap sK++KA x.forced)) s:=λs=>pQ (by rw[hy];omega)
 have k0:∀s,mj false .add (some (.str (x.op.flatMap sK++KA x.forced))) (some (.str (KA x.lost))) s=.v (.str (x.op.flatMap sK++KA x.forced++KA x.lost)) s:=λs=>pQ (by rw[bZ,hy,hy];omega)
 simp only[ab,ae]at hL;simp only[oy]at hL;simp[hL,m1,m2,h6,h7,hj,hq,hr,hs,ht,hz,e1,k0,aa,rz,oz]
def kK(s:HS)(v:HV)(sz:Nat)(F:bM)(ak:aP):Prop:=
 Sz sz ak/\(∀k,F k->k.toNat<s.nx.toNat)/\∃o t lo c d g b,v=.sl o c ak.length sz/\aj s.h o=some (.cells t lo d g)/\lo<=c/\c+ak.length*sz<=d/\(∀j,j<ak.length*sz->fI t (c+j)=(aD ak)[j]?)/\aj s.gr g=some (o::b)/\o ∉ b/\(∀m∈o::b,F m)/\F g
section
variable{s:HS}{v:HV}{sz:Nat}{F:bM}{ak:aP}
def cu.toO(h:cu s v sz F ak)(h0:v≠ .ah):kK s v sz F ak:=by
 obtain⟨c,d,k⟩:=h;rcases k with⟨rfl,_⟩|⟨o,t,q,g,b,rfl,r,E,u,z,A,B,C⟩
 .exact(h0 rfl).elim
 exact⟨c,d,o,t,0,0,q,g,b,rfl,r,aV _,by omega,λj D=>by rw[bn];exact u j D,z,A,B,C⟩
def kK.frame{s':HS}{G:bM}(h:kK s v sz F ak)(c:cV G s s')(z:∀k,F k->¬G k):kK s' v sz F ak:=by obtain⟨C,d,o,t,lo,q,D,g,b,rfl,E,I,r,J,M,O,A,u⟩:=h;have B:=A o dr;exact⟨C,λk P=>dJ (d k P) c.1,o,t,lo,q,D,g,b,rfl,by rw[c.2.2.1 o (d o B) (z o B)];exact E,I,r,J,by rw[c.2.2.2 g (d g u) (z g u)];exact M,O,A,u⟩
def kK.gZ(h:kK s v sz F ak):gZ v=true:=by obtain⟨d,k,o,t,lo,c,q,g,b,rfl,_⟩:=h;rfl
def kK.one(h:kK s v sz F ak):cellsOf v=some [v]:=by obtain⟨d,k,o,t,lo,c,q,g,b,rfl,_⟩:=h;rfl
def kK.len{s1:HS}(h:kK s v sz F ak):vm 0 (some v) s1=.v (.int .i64 (ak.length:Int)) s1:=by obtain⟨d,k,o,t,lo,c,q,g,b,rfl,_⟩:=h;simp
def kK.head{r:ai}(h:kK s v sz F (r::ak)):∃o bj,(∀k,Fp (some v) (some (.int k 0)) sz s=.v (.ptr o bj) s)/\F o/\fQ (aj s.h o) bj sz=some r:=by obtain⟨u,D,o,t,lo,bj,c,g,d,rfl,z,A,b,q,E,I,B,J⟩:=h;have C:r.length=sz:=u r dr;refine⟨o,bj,λk=>by simp,B o dr,?_⟩;rw[aB,iR]at b q;rw[z];show(if lo<=bj then if bj+sz<=c then mr t sz bj else none else none)=_;rw[au A,au (by omega),nQ t r _ _ (λi c=>by rw[q i (by omega),cj,dD (by omega)]) C.symm]
def kK.tail{e:En}{r:ai}(h:kK s v sz F (r::ak)):∃u,zy (some v) (λd=>fw e d (some (.k (.int .i64 1)))) (λd=>fw e d none) none sz s=.v u s/\kK s u sz F ak:=by
 obtain⟨z,B,o,t,lo,b,C,g,c,rfl,D,V,q,A,E,I,J,M⟩:=h;have O:r.length=sz:=z r dr;rw[aB,iR]at q A;refine⟨.sl o (b+1*sz) ((r::ak).length-1) sz,?_,λx P=>z x (cY _ P),B,o,t,lo,b+1*sz,C,g,c,rfl,D,by omega,by omega,λj X=>?_,E,I,J,M⟩
 .rw[MC];show bR (some 1) _ _=_;simp only[dP,aB,H2];rw[au ⟨by omega,by omega⟩]
 rw[show b+1*sz+j=b+(sz+j) by omega,A (sz+j) (by omega),cj,iZ (by omega),O,show sz+j-sz=j by omega]
def kK.append{bI:Nat}{new:aP}(h:kK s v sz F ak)(X:Sz sz new)(h0:new≠ [])(u:ak.length+new.length<=bI):
    ∃v' s',j0 sz bI none (some v) (some (.psl new)) s=.v v' s'/\kK s' v' sz (λk=>F k∨k=s.nx) (ak++new)/\cV F s s'/\s'.nx=s.nx.succ:=by
  have Y:new.length≠0:=by simpa using h0
  have Z:=Ky.aS s.nx;rw[mL h.gZ h0 X];obtain⟨hs,B,o,t,lo,b,C,g,c,rfl,hb,h3,hh,h4,hg,h5,d,I⟩:=h;rw[mC Y hb hg];obtain⟨k1,k2⟩:=jP c s.h 11;rw[show(12:Nat)=11+1 from rfl,ra];generalize ha:(eS s.h 11 c).1=D at k1;generalize hd:(eS s.h 11 c).2=E at k2;obtain⟨j1,j2⟩:=ik o (b+ak.length*sz) (b+ak.length*sz+aM (aD new)) E D;have q:=kI D o (b+ak.length*sz) (b+ak.length*sz+aM (aD new)) E;generalize hf:(bN D o (b+ak.length*sz) (b+ak.length*sz+aM (aD new)) E).1=J at j1 q;generalize hl:(bN D o (b+ak.length*sz) (b+ak.length*sz+aM (aD new)) E).2=A at j2 q;have r:∀m∈A,m∈c:=λm u=>k2 m (j2 m u)
  have ho:aj J o=some (.cells t lo C g):=by rw[j1 o (.inr rfl),k1 o h5,hb]
  have M:MA s sz bI none o b ak.length (aD new) new.length g (D,o::E)=.v (.sl s.nx b (ak.length+new.length) sz) {h:=av (some (.cells (dh (aD new) (b+ak.length*sz) t) b (b+ak.length*sz+(aD new).length) g)) s.nx (av (some (.cells t lo (b+ak.length*sz) g)) o J),nx:=s.nx.succ,gr:=av (some (s.nx::o::A)) g s.gr,ty:=s.ty}:=by
    show(match bN D o (b+ak.length*sz) (b+ak.length*sz+aM (aD new)) (o::E)with
        |(h',O)=>match aj h' o with
          |some (.cells t lo C _)=>
            bif jg o O&&Nat.ble lo b&&Nat.ble (b+ak.length*sz) C&&Nat.ble (ak.length+new.length) bI then
              cX.v (.sl s.nx b (ak.length+new.length) sz) {h:=av (some (.cells (dh (aD new) (b+ak.length*sz) t) b (b+ak.length*sz+aM (aD new)) g)) s.nx (av (some (.cells t lo (b+ak.length*sz) g)) o h'),nx:=s.nx.succ,gr:=av (some (s.nx::O)) g s.gr,ty:=l7 none o s}
            else .bad
          |_=>.bad)=_
    rw[q];show(match aj J o with
          |some (.cells t lo C _)=>
            bif jg o (o::A)&&Nat.ble lo b&&Nat.ble (b+ak.length*sz) C&&Nat.ble (ak.length+new.length) bI then
              cX.v (.sl s.nx b (ak.length+new.length) sz) {h:=av (some (.cells (dh (aD new) (b+ak.length*sz) t) b (b+ak.length*sz+aM (aD new)) g)) s.nx (av (some (.cells t lo (b+ak.length*sz) g)) o J),nx:=s.nx.succ,gr:=av (some (s.nx::o::A)) g s.gr,ty:=l7 none o s}
            else .bad
          |_=>.bad)=_
    rw[ho];show(bif jg o (o::A)&&Nat.ble lo b&&Nat.ble (b+ak.length*sz) C&&Nat.ble (ak.length+new.length) bI then
              cX.v (.sl s.nx b (ak.length+new.length) sz) {h:=av (some (.cells (dh (aD new) (b+ak.length*sz) t) b (b+ak.length*sz+aM (aD new)) g)) s.nx (av (some (.cells t lo (b+ak.length*sz) g)) o J),nx:=s.nx.succ,gr:=av (some (s.nx::o::A)) g s.gr,ty:=l7 none o s}
            else .bad)=_
    rw[show jg o (o::A)=true by simp[jg,(Ky.beq_iff o o).2 rfl],cd,cd,cd,dq h3,dq hh,dq u,cC];rfl
  have hle:(aD ak).length=ak.length*sz:=ct hs;have h6:(aD new).length=new.length*sz:=ct X;refine⟨_,_,M,⟨Sz.append hs X,λk hk=>?_,s.nx,_,b,b,_,g,o::A,by rw[bZ],by rw[af,au rfl],aV _,?_,λj hj=>?_,by rw[af,au rfl],?_,λm u=>?_,.inl I⟩,⟨by simp only;omega,rfl,λp hp V=>?_,λp hp V=>?_⟩,rfl⟩
  . simp only
    rcases hk with hk|rfl
    . have:=B k hk;omega
    omega
  . rw[bZ,h6,oR];omega
  . rw[bZ,oR]at hj
    rw[fC,kH];by_cases h7:j<ak.length*sz
    . rw[ar (by omega),h4 j h7,dD (by omega)]
    rw[au (by omega),iZ (by omega),hle,show b+j-(b+ak.length*sz)=j-ak.length*sz by omega]
  . intro z
    rcases bk.1 z with z|z
    . have:=B o (d o dr);rw[<-z]at this;omega
    have:=B _ (d _ (cY _ (r _ z)));omega
  . rcases bk.1 u with rfl|u
    . exact .inr rfl
    refine .inl (d m ?_);rcases bk.1 u with rfl|u
    . exact dr
    exact cY _ (r _ u)
  . have h8:p≠o:=λe=>by subst e;exact V (d p dr)
    have P:p ∉ c:=λz=>V (d p (cY _ z))
    have h9:p≠s.nx:=λe=>by subst e;omega
    simp only;rw[af,ar h9,af,ar h8,j1 p (.inl λz=>P (k2 p z)),k1 p P]
  simp only;rw[af,ar λe=>by subst e;exact V I]
end
def Y8(K:Kd)(m k:bS)(z:HV)(s:HS):cX:=match m,k with
  |some (.mp o),some key=>bif pX K key then(match aj s.h o with
   |some (.mp es)=>(match dZ K es key 0 with
    |some (i,some v)=>.v (.cO [v,.int .i64 (.ofNat i)]) s
    |some (_,none)=>.v (.cO [z,.int .i64 (.ofNat (aM es))]) (s.aJ o (.mp (es++[(key,z)])))
    |none=>.bad)
   |_=>.bad)else .bad
  |_,_=>.bad
def Y9(m i v:bS)(s:HS):cX:=match m,i,v with
  |some (.mp o),some (.int _ (.ofNat i)),some v=>(match aj s.h o with
   |some (.mp es)=>bif Nat.blt i (aM es)then .v .undef (s.aJ o (.mp (l9 es i v)))else .bad
   |_=>.bad)
  |_,_,_=>.bad
@[simp]def aar{e:En}{s:HS}{K:Kd}{m k:X}{z:HV}:dA (.men K m k z) e s=Y8 K (bw m e) (bw k e) z s:=rfl
@[simp]def aas{e:En}{s:HS}{m i v:X}:dA (.mes m i v) e s=Y9 (bw m e) (bw i e) (bw v e) s:=rfl
section
variable{α:Type}[DecidableEq α]{f:α->HV}{K:Kd}
def eX(f:α->HV)(l:List (α×HV)):List (HV×HV):=l.map λp=>(f p.1,p.2)
def lkp(t:α):List (α×HV)->bS
 |[]=>none
 |(k,v)::r=>if t=k then some v else lkp t r
def DV(t:α):List (α×HV)->Nat
 |[]=>0
 |(k,_)::r=>if t=k then 0 else DV t r+1
def DW(c:∀a b,pW K (f a) (f b)=some (decide (a=b)))(t:α):∀(l:List (α×HV)) (n:Nat),dZ K (eX f l) (f t) n=some (n+DV t l,lkp t l)
 |[],n=>rfl
 |(k,v)::r,n=>by
  show(match pW K (f t) (f k)with|some true=>some (n,some v)|some false=>dZ K (eX f r) (f t) (Nat.succ n)|none=>none)=_;rw[c];unfold lkp DV;by_cases h:t=k
  .rw[dq h,au h,au h];rfl
  rw[cK h,ar h,ar h];simp only[DW c t r (Nat.succ n)];rw[show n.succ+DV t r=n+(DV t r+1) by omega]
def y5{t:α}:∀{l:List (α×HV)},lkp t l=none↔t ∉ l.map Prod.fst
 |[]=>by simp[lkp]
 |(k,v)::r=>by
  unfold lkp;by_cases h:t=k
  .simp[h]
  simp[h,y5 (l:=r)]
def wb{t:α}{v:HV}:∀{l:List (α×HV)},lkp t l=some v->(t,v)∈l
 |[]=>by simp[lkp]
 |(k,w)::r=>by
  unfold lkp;by_cases h:t=k
  .subst h;simp;intro h;exact .inl h.symm
  rw[ar h];intro h;exact cY _ (wb h)
def y6{t:α}{v:HV}:∀{l:List (α×HV)},lkp t l=some v->l[DV t l]?=some (t,v)
 |[]=>by simp[lkp]
 |(k,w)::r=>by
  unfold lkp DV;by_cases h:t=k
  .subst h;simp
  rw[ar h,ar h];intro h;simpa using y6 h
omit [DecidableEq α]in
def y7(v:HV):∀(l:List (α×HV)) (i:Nat) (k:α) (w:HV),l[i]?=some (k,w)->l9 (eX f l) i v=eX f (l.set i (k,v))
 |[],i,k,w=>by simp
 |(b,c)::r,0,k,w=>by intro h;simp at h;obtain⟨rfl,rfl⟩:=h;rfl
 |(b,c)::r,i+1,k,w=>by intro h;simp at h;show(f b,c)::l9 (eX f r) i v=_;rw[y7 v r i k w h];rfl
variable{s:HS}{o:Ky}{l:List (α×HV)}
def Ni(c:∀a b,pW K (f a) (f b)=some (decide (a=b)))(d:∀a,pX K (f a)=true)(h:aj s.h o=some (.mp (eX f l)))(t:α)(z:HV):
  XP K (some (.mp o)) (some (f t)) z true s=.v (.cO [(lkp t l).getD z,.bool (lkp t l).isSome]) s:=by
 show(bif pX K (f t)then(match aj s.h o with
   |some (.mp es)=>(match dZ K es (f t) 0 with
    |some (_,some v)=>cX.v (.cO [v,.bool true]) s
    |some (_,none)=>.v (.cO [z,.bool false]) s
    |none=>.bad)
   |_=>.bad)else .bad)=_
 rw[d,h];simp only[DW c,cond_true];cases lkp t l<;>rfl
def Nj(c:∀a b,pW K (f a) (f b)=some (decide (a=b)))(d:∀a,pX K (f a)=true)(h:aj s.h o=some (.mp (eX f l)))(t:α)(z:HV):
  XP K (some (.mp o)) (some (f t)) z false s=.v ((lkp t l).getD z) s:=by
 show(bif pX K (f t)then(match aj s.h o with
   |some (.mp es)=>(match dZ K es (f t) 0 with
    |some (_,some v)=>cX.v v s
    |some (_,none)=>.v z s
    |none=>.bad)
   |_=>.bad)else .bad)=_
 rw[d,h];simp only[DW c,cond_true];cases lkp t l<;>rfl
def j5(t:α)(v:HV)(l:List (α×HV)):List (α×HV):=match lkp t l with|some _=>l.set (DV t l) (t,v)|none=>l++[(t,v)]
def Tc(c:∀a b,pW K (f a) (f b)=some (decide (a=b)))(d:∀a,pX K (f a)=true)(h:aj s.h o=some (.mp (eX f l)))(t:α)(v:HV):
  R6 K (some (.mp o)) (some (f t)) (some v) s=.v .undef (s.aJ o (.mp (eX f (j5 t v l)))):=by
 show(bif pX K (f t)then(match aj s.h o with
   |some (.mp es)=>(match dZ K es (f t) 0 with
    |some (i,some _)=>cX.v .undef (s.aJ o (.mp (l9 es i v)))
    |some (_,none)=>.v .undef (s.aJ o (.mp (es++[(f t,v)])))
    |none=>.bad)
   |_=>.bad)else .bad)=_
 rw[d,h];simp only[DW c,cond_true];unfold j5;cases k:lkp t l with|none=>simp[eX]|some w=>simp only;rw[y7 v l _ t w (by rw[bn];exact y6 k),bn]
def Za(c:∀a b,pW K (f a) (f b)=some (decide (a=b)))(d:∀a,pX K (f a)=true)(h:aj s.h o=some (.mp (eX f l)))(t:α)(z:HV):
  Y8 K (some (.mp o)) (some (f t)) z s=match lkp t l with
   |some v=>.v (.cO [v,iV (DV t l)]) s
   |none=>.v (.cO [z,iV l.length]) (s.aJ o (.mp (eX f (l++[(t,z)])))):=by
 show(bif pX K (f t)then(match aj s.h o with
   |some (.mp es)=>(match dZ K es (f t) 0 with
    |some (i,some v)=>cX.v (.cO [v,.int .i64 (.ofNat i)]) s
    |some (_,none)=>.v (.cO [z,.int .i64 (.ofNat (aM es))]) (s.aJ o (.mp (es++[(f t,z)])))
    |none=>.bad)
   |_=>.bad)else .bad)=_
 rw[d,h];simp only[DW c,cond_true];cases k:lkp t l with|none=>simp[eX,cC,iV]|some w=>simp[iV]
omit [DecidableEq α]in
def Zb(h:aj s.h o=some (.mp (eX f l))){i:Nat}{t:α}{w:HV}(c:l[i]?=some (t,w))(v:HV):
  Y9 (some (.mp o)) (some (iV i)) (some v) s=.v .undef (s.aJ o (.mp (eX f (l.set i (t,v))))):=by
 have b:=(aU.1 c).1;show(match aj s.h o with
   |some (.mp es)=>bif Nat.blt i (aM es)then cX.v .undef (s.aJ o (.mp (l9 es i v)))else .bad
   |_=>.bad)=_
 rw[h];simp only;rw[cC,show Nat.blt i (eX f l).length=true from ck.2 (by simpa[eX]using b),y7 v l i t w c];rfl
end
abbrev Ii:Kd:=⟨true,[0,2]⟩
def kL(p:Int×List Nat):HV:=.agg [iV p.1,.str p.2]
def nW(p:Int×List Nat):pX Ii (kL p)=true:=rfl
def lC(a b:Int×List Nat):pW Ii (kL a) (kL b)=some (decide (a=b)):=by unfold kL;rw[ahe _ _ _ rfl rfl,dy _ _ _ _ _ _ (eA ..) (dy _ _ _ _ _ _ (Mz ..) ahd)];obtain⟨_,_⟩:=a;obtain⟨_,_⟩:=b;simp[yn]
section
variable{s s':HS}{ao:aW}{L:cq}{K:de}{F G:bM}{v:HV}{ak:aP}{Q:List (Ky×List (HV×HV))}
def aI.ug(h:aI s ao L K)(d:cV G s s')(r:∀k i,ao k=some i->¬G k)(t:∀(a:Nat) o c,K[a]?=some (o,c)->¬G o):aI s' ao L K:=
 ⟨⟨λk i b=>dJ (h.mem.bd k i b) d.1,h.mem.top,λi v sz ak u=>(h.mem.own i v sz ak u).frame d (λk b=>r k i b)⟩,λa o c q=>⟨(h.bm a o c q).1.frame d (t a o c q),(h.bm a o c q).2⟩,h.nd⟩
structure cz(s:HS)(F:bM)(v:HV)(ak:aP)(ao:aW)(L:cq)(K:de)(Q:List (Ky×List (HV×HV))):Prop where
 k:aI s ao L K
 q:kK s v 2 F ak
 fc:∀p,F p->ao p=none
 fk:∀(a:Nat) o c,K[a]?=some (o,c)->¬F o
 mp:∀(a:Nat) o es,Q[a]?=some (o,es)->aj s.h o=some (.mp es)/\o.toNat<s.nx.toNat/\ao o=none/\¬F o
 nd:∀(a b:Nat) o es K9,Q[a]?=some (o,es)->Q[b]?=some (o,K9)->a=b
def cz.ne(h:cz s F v ak ao L K Q){a b:Nat}{o p:Ky}{c:ai}{es:List (HV×HV)}(q:K[a]?=some (p,c))(r:Q[b]?=some (o,es)):o≠p:=by intro e;subst e;have d:=(h.k.bm a o c q).1.1;rw[(h.mp b o es r).1]at d;cases d
def cz.frame(h:cz s F v ak ao L K Q)(b:cV (λ_=>False) s s'):cz s' F v ak ao L K Q:=
 ⟨h.k.frame b,h.q.frame b (λ_ _ h=>h),h.fc,h.fk,λa o es d=>by
  obtain⟨r,c,t,u⟩:=h.mp a o es d;exact⟨by rw[b.2.2.1 o c (λh=>h)];exact r,dJ c b.1,t,u⟩,h.nd⟩
def cz.cL(h:cz s F v ak ao L K Q)(c:ai):cz {h:=av (some (.cells (cP c) 0 c.length s.nx)) s.nx s.h,nx:=s.nx.succ,gr:=av (some [s.nx]) s.nx s.gr,ty:=s.ty} F v ak ao L ((s.nx,c)::K) Q:=by have r:=h.k.cL c;have d:=cV.alloc (s:=s) (.cells (cP c) 0 c.length s.nx) [s.nx];refine⟨r,(h.frame d).q,h.fc,λa o t b=>?_,(h.frame d).mp,h.nd⟩;cases a with|zero=>simp at b;obtain⟨rfl,_⟩:=b;exact λu=>ec _ (h.q.2.1 _ u)|succ a=>exact h.fk a o t b
def cz.tail(h:cz s F v ak ao L K Q){n:Nat}:cz s F v ak ao L (K.drop n) Q:=
 ⟨⟨h.k.mem,λa o c r=>h.k.bm (n+a) o c (by rwa[kX]at r),λa b o c d r t=>by
  have:=h.k.nd (n+a) (n+b) o c d (by rwa[kX]at r) (by rwa[kX]at t);omega⟩,h.q,h.fc,λa o c r=>h.fk (n+a) o c (by rwa[kX]at r),h.mp,h.nd⟩
def cz.cell(h:cz s F v ak ao L K Q){a:Nat}{o:Ky}{c c':ai}(t:K[a]?=some (o,c))(A:il s' o c')(u:cV (λp=>p=o) s s'):cz s' F v ak ao L (K.set a (o,c')) Q:=by
 refine⟨h.k.cell t A u,h.q.frame u (λk B e=>h.fk a o c t (by rw[<-e];exact B)),h.fc,λb p d r=>?_,λb p es r=>?_,h.nd⟩
 .rw[gl]at r
  split at r
  .split at r
   .simp at r;obtain⟨rfl,_⟩:=r;exact h.fk a _ c t
   cases r
  exact h.fk b p d r
 obtain⟨C,z,D,E⟩:=h.mp b p es r;exact⟨by rw[u.2.2.1 p z (h.ne t r)];exact C,dJ z u.1,D,E⟩
def cz.put(h:cz s F v ak ao L K Q){a:Nat}{o:Ky}{c new:ai}(b:K[a]?=some (o,c)){x:HV}(d:cellsOf x=some new)(q:new.length=c.length):∃s',qh c.length (some (.ptr o 0)) (some x) s=.v .undef s'/\cz s' F v ak ao L (K.set a (o,new)) Q:=by obtain⟨s',r,t,u,_⟩:=(h.k.bm a o c b).1.put d q;exact⟨s',r,h.cell b t u⟩
def cz.yB(h:cz s F v ak ao L K Q){a:Nat}{o:Ky}{c:ai}(b:K[a]?=some (o,c))(k:Nat)(d:k<c.length){x:HV}(q:cellsOf x=some [x]):∃s',qh 1 (some (.ptr o k)) (some x) s=.v .undef s'/\cz s' F v ak ao L (K.set a (o,c.set k x)) Q:=by obtain⟨s',r,t,u,_⟩:=(h.k.bm a o c b).1.set k d x q;exact⟨s',r,h.cell b t u⟩
def cz.Ca(h:cz s F v ak ao L K Q){b:Nat}{o:Ky}{es:List (HV×HV)}(B:Q[b]?=some (o,es))(r:List (HV×HV)):cz (s.aJ o (.mp r)) F v ak ao L K (Q.set b (o,r)):=by
 obtain⟨g1,V,J,M⟩:=h.mp b o es B;have O:cV (λp=>p=o) s (s.aJ o (.mp r)):=⟨aV _,rfl,λp _ X=>by simp only[HS.aJ];rw[af,ar X],λ_ _ _=>rfl⟩;have Y:=(aU.1 B).1;refine⟨h.k.ug O (λk i C e=>by rw[e,J]at C;cases C) (λa p c A e=>h.ne A B e.symm),h.q.frame O (λk C e=>M (by rw[<-e];exact C)),h.fc,h.fk,λa p t A=>?_,λa P p d t u D=>?_⟩
 .rw[gl]at A
  split at A
  .rename_i z
   try rw[au (by omega)]at A
   cases A;exact⟨by simp only[HS.aJ];rw[af,au rfl],V,J,M⟩
  rename_i z;obtain⟨Z,k2,k3,k4⟩:=h.mp a p t A;have E:p≠o:=λe=>by subst e;exact z (h.nd b a p es t B A)
  exact⟨by simp only[HS.aJ];rw[af,ar E];exact Z,k2,k3,k4⟩
 have key:∀(a:Nat) d,(Q.set b (o,r))[a]?=some (p,d)->∃I,Q[a]?=some (p,I):=by
  intro a d u;rw[gl]at u
  split at u
  .rename_i z
   try rw[au (by omega)]at u
   cases u;exact⟨es,by rw[<-z];exact B⟩
  exact⟨d,u⟩
 obtain⟨_,u⟩:=key a d u;obtain⟨_,D⟩:=key P t D;exact h.nd a P p _ _ u D
def cz.Td(h:cz s F v ak ao L K Q){new:aP}(C:Sz 2 new)(h0:new≠ []){bI:Nat}(D:ak.length+new.length<=bI):
  ∃d s',j0 2 bI none (some v) (some (.psl new)) s=.v d s'/\cz s' (λk=>F k∨k=s.nx) d (ak++new) ao L K Q:=by
 obtain⟨d,s',E,I,t,P⟩:=h.q.append C h0 D;refine⟨d,s',E,h.k.ug t (λk i A b=>by rw[h.fc k b]at A;cases A) h.fk,I,λp u=>?_,λa o c r b=>?_,λa o es r=>?_,h.nd⟩
 .rcases u with u|rfl
  .exact h.fc p u
  cases J:ao s.nx with|none=>rfl|some i=>exact absurd (h.k.mem.bd _ _ J) (ec _)
 .rcases b with b|rfl
  .exact h.fk a o c r b
  exact ec _ (h.k.bm a _ c r).1.2.2
 obtain⟨M,z,O,B⟩:=h.mp a o es r;refine⟨by rw[t.2.2.1 o z B];exact M,dJ z t.1,O,λb=>?_⟩;rcases b with b|rfl
 .exact B b
 exact ec _ z
def cz.KB{e:En}{r:ai}(h:cz s F v (r::ak) ao L K Q):∃b,zy (some v) (λd=>fw e d (some (.k (.int .i64 1)))) (λd=>fw e d none) none 2 s=.v b s/\cz s F b ak ao L K Q:=by obtain⟨b,c,t⟩:=h.q.tail (e:=e);exact⟨b,c,h.k,t,h.fc,h.fk,h.mp,h.nd⟩
def cz.push(h:cz s F v ak ao L K Q)(sz:Nat):cz s F v ak ao (L++[(.ah,sz,[])]) K Q:=⟨h.k.push sz,h.q,h.fc,h.fk,h.mp,h.nd⟩
def cz.KC(h:cz s F v ak ao L K Q)(i:Nat){w:HV}{sz:Nat}{es:aP}(D:L[i]?=some (w,sz,es)){new:aP}(E:Sz sz new)(h0:new≠ []){bI:Nat}(I:es.length+new.length<=bI):
  ∃w' s' b,j0 sz bI none (some w) (some (.psl new)) s=.v w' s'/\cellsOf w'=some [w']/\cz s' F v ak b (L.set i (w',sz,es++new)) K Q:=by
 obtain⟨J,s',M,O,P,d⟩:=h.k.mem.sx i D E h0 I;refine⟨J,s',_,M,O,⟨P,λa p c r=>?_,h.k.nd⟩,h.q.frame d (λk V e=>by rw[h.fc k V]at e;cases e),λp u=>?_,h.fk,λa o t r=>?_,h.nd⟩
 .obtain⟨z,A⟩:=h.k.bm a p c r;have X:=z.2.2;exact⟨z.frame d (by rw[A];simp),by rw[ar λe=>by subst e;omega];exact A⟩
 .have:=h.q.2.1 p u;rw[ar λe=>by subst e;omega];exact h.fc p u
 obtain⟨Y,B,C,Z⟩:=h.mp a o t r;exact⟨by rw[d.2.2.1 o B (by show¬ao o=some i;rw[C];simp)];exact Y,dJ B d.1,by rw[ar λe=>by subst e;omega];exact C,Z⟩
end
structure Oo(a:Ar)(x:Fa)(S:Sn->Prop):Prop where
 st:S AM
 pl:∀y,S y->y.st<x.nx.length
 fin:∀y,S y->x.fi.getD y.st false=true->y.mn.over=true
 can:∀y,S y->∀e∈cM x y.st,ir a y.mn e.m=true
 Nk:∀y,S y->∀e∈cM x y.st,S ⟨e.to,gL y.mn e.m⟩
 shp:∀y z,S y->S z->y.st=z.st->rz y.mn.op=rz z.mn.op
 len:∀y,S y->y.mn.op.length+1<=x.nx.length
 sm:∀y,S y->∀m∈y.mn.op,mvS m
 bg:∀y,S y->y.mn.begun=false->y=AM
def sL(b:Sn):∀(es:bu) (l:jT) (y:Sn),y∈l->y∈jx b l es
 |[],l,y,h=>h
 |e::es,l,y,h=>by
  show y∈jx b (yN l b e) es;refine sL b es _ y ?_;unfold yN
  split
  .exact h
  exact ph _ h
def DX(b:Sn):∀(es:bu) (l:jT) (e:Eg),e∈es->(⟨e.to,gL b.mn e.m⟩:Sn)∈jx b l es
 |c::es,l,e,h=>by
  show _∈jx b (yN l b c) es;rcases bk.1 h with rfl|h
  .refine sL b es _ _ ?_;unfold yN
   split
   .rename_i d;obtain⟨y,k,q⟩:=ahf.1 d;rw[<-of_decide_eq_true q];exact k
   simp
  exact DX b es _ e h
def DY(b:Sn)(es:bu):∀(l:jT),l<+:jx b l es:=by
 induction es with
 |nil=>intro l;exact rr l
 |cons e es c=>
  intro l;show l<+:jx b (yN l b e) es;refine List.IsPrefix.trans ?_ (c _);unfold yN
  split
  .exact rr l
  exact yI l _
structure LgJ(x:Fa)(i:Nat)(g:Lg):Prop where
 s0:AM∈g.l
 Nk:∀z∈g.l.take i,∀e∈cM x z.st,(⟨e.to,gL z.mn e.m⟩:Sn)∈g.l
 fin:∀z∈g.l.take i,z.st<x.nx.length->x.fi.getD z.st false=true->z.mn.over=true
def LgJ.run{a:Ar}{x:Fa}:∀(i:Nat) {g:Lg},ft a x i=some g->LgJ x i g
 |0,g,r=>by cases r;exact⟨by simp[AM],by simp,by simp⟩
 |i+1,V,r=>by
  rw[ft]at r;cases h:ft a x i with
  |none=>rw[h]at r;cases r
  |some g=>
   rw[h]at r;have u:=LgJ.run i h;have q:og a x g i=some V:=r;unfold og at q
   split at q
   .rename_i X;have E:=lr q;subst E;have hlen:=Dz.1 X;have D:g.l.take (i+1)=g.l.take i:=by rw[fD (by omega),fD hlen]
    exact⟨u.s0,by rw[D];exact u.Nk,by rw[D];exact u.fin⟩
   rename_i b B
   split at q
   .cases q
   rename_i c
   split at q
   .cases q;obtain⟨I,C⟩:=aU.1 B;obtain⟨t,D⟩:=DY b (x.nx.getD b.st []) g.l;have k:(jx b g.l (x.nx.getD b.st [])).take (i+1)=g.l.take i++[b]:=by rw[<-D,Al (by omega),eW I,C]
    refine⟨sL b _ _ _ u.s0,λz d e J=>?_,λz d O A=>?_⟩
    .simp only at d;rw[k]at d;rcases l5.1 d with d|d
     .exact sL b _ _ _ (u.Nk z d e J)
     rw[cr.1 d]at J ⊢;exact DX b _ _ e J
    simp only at d;rw[k]at d;rcases l5.1 d with d|d
    .exact u.fin z d O A
    rw[cr.1 d]at O A ⊢;unfold B6 at c;rw[A]at c;cases M:b.mn.over with
    |true=>rfl
    |false=>
     rw[M]at c;simp at c;obtain⟨Y,P⟩:=c.2;have:b.st=0:=by omega
     rw[this]at A;rw[<-List.getD_eq_getElem?_getD]at P;rw[P]at A;cases A
   cases q
def Cb:∀l:bE,rz l=(nU l).flatMap λp=>l6 (64*p.1+p.2+1).toNat++[32]
 |[]=>rfl
 |m::l=>by have:=Cb l;unfold rz nU at this ⊢;rw[mU,bX,mU,this];rfl
def y8{a:Ar}(d:aQ a=0){m:Mv}(h:gT a m=true):m.id<=8/\m.arg<=5:=by
 obtain⟨b,e,c⟩:=rk h;have u:a.ids.length<=8/\∀t∈a.ids,t.ps.length<=5:=by
  unfold aQ at d
  split at d
  .cases d
  rename_i r;rw[not_or]at r;refine⟨by omega,λt k=>?_⟩;have:=r.2;simp only[BX,rh]at this;have:=this t k;simp[pI]at this;omega
 unfold dC at c
 split at c
 .rename_i h0;omega
 split at c
 .rename_i z
  split at c
  .cases c
  rename_i t k;have q:=cE k;have:=u.2 t q
  split at c
  .omega
  split at c
  .omega
  cases c
 cases c
def Cc{a:Ar}{x:Fa}(r:bA x)(t:aQ a=0){N:Nat}{g:Lg}(k:ft a x N=some g)(u:g.l.length<=N):Oo a x (λy=>y∈g.l):=by
 have h:=qG.run r N k;have j:=LgJ.run N k;have A:g.l.take N=g.l:=fD u;have c:∀y∈g.l,y∈g.l.take N:=λy b=>by rw[A];exact b
 exact{
  st:=j.s0
  pl:=h.st
  fin:=λy b=>j.fin y (c y b) (h.st y b)
  can:=λy b=>h.can y (c y b)
  Nk:=λy b=>j.Nk y (c y b)
  shp:=λy z b C e=>by rw[Cb,Cb,h.plc (c y b) (c z C) e]
  len:=λy b=>h.deep (c y b)
  sm:=λy b m D=>by obtain⟨i,E,rfl⟩:=eO.1 D;obtain⟨O,q,_⟩:=h.ask b (aX E);obtain⟨I,J,_,P,_⟩:=fR q;obtain⟨M,V⟩:=y8 t q;exact⟨I,M,J,by omega,by omega,by omega⟩
  bg:=λy b d=>by
   rcases h.gen y b with rfl|⟨z,_,e,_,rfl⟩
   .rfl
   unfold gL at d
   split at d<;>cases d}
abbrev lJ:=Int×List Nat
@[simp]def eG(p:lJ):ai:=[iV p.1,.str p.2]
@[simp]def ib(a:Ar)(x:Fa):ai:=[.psl (a.ids.map Ty.c),.bool a.root.cell,.int .i64 a.root.n,.bool a.jumps,.psl (x.nx.map oG),.psl (x.fi.map bC)]
def lD(sp:lJ)(y:Sn)(w:HV)(fo lo:Bool):Prop:=(sp=(0,[])/\y=AM/\w=.ah/\fo=false/\lo=false)∨(y.mn.begun=true/\sp=((y.st:Int),oz y.mn)/\w=.psl (y.mn.op.map Mv.c)/\fo=y.mn.forced/\lo=y.mn.lost)
def Nl(x:Mn):oz x≠ []:=by unfold oz;cases x.lost<;>simp[KA]
def lD.zero{sp:lJ}{y:Sn}{w:HV}{fo lo:Bool}(h:lD sp y w fo lo):decide (sp=(0,[]))= !y.mn.begun:=by
 rcases h with⟨b,c,_⟩|⟨b,c,_⟩
 .rw[b,c];rfl
 rw[b,c];have:=Nl y.mn;simp[this]
def Zc{a:Ar}{x:Fa}{S:Sn->Prop}(ok:fz a)(t:aQ a=0)(d:Oo a x S)(u:bA x){sp:lJ}{y:Sn}{w:HV}{fo lo:Bool}(k:S y)(h:lD sp y w fo lo){e:Eg}(z:e∈cM x y.st)(s:HS):
  R (.call 135 [.agg [w,.bool fo,.bool lo],.agg a.c,.agg e.m.c,.bool (decide (sp=(0,[])))] s)=.val (.cO [.agg (oy (gL y.mn e.m)),.bool true]) s:=by
 have D:=u.n;have E:=d.len y k;have b:=d.can y k e z;rw[h.zero];have key:=afV ok t b (by omega) (λA=>by rw[d.bg y k A];exact⟨rfl,rfl,rfl⟩);rcases h with⟨r,q,rfl,rfl,rfl⟩|⟨r,q,rfl,rfl,rfl⟩
 .subst q;have r:dv a.c=true:=by simp
  have q:dv e.m.c=true:=by simp
  have B:=gF (a.ids.map Ty.c) (Gw _);have C:=iW (a.ids.map Ty.c) (Gw _);refine yx 135 U.f168 _ [.agg (oy AM.mn),.agg a.c,.agg e.m.c,.bool (!AM.mn.begun)] _ s rfl rfl rfl ?_ (by simp[eo]) ?_ (by simp[oy]) (key s0)
  .simp[cI,cm,B]
  simp[oH,nn,C,oy,AM]
 exact key s
@[simp]def EL(a:Ar)(x:Fa)(o4 o5 ot o8 o9:Ky)(v7:HV)(row:bu)(j:Nat):List (Nat×HV):=
 [(1,.aw (ib a x)),(4,.ptr o4 0),(5,.ptr o5 0),(6,.mp ot),(7,v7),(8,.ptr o8 0),(9,.ptr o9 0),(82,.psl (row.map Eg.c)),(83,iV row.length),(84,iV j)]
section
variable{a:Ar}{x:Fa}{o4 o5 ot o8 o9:Ky}{v7:HV}{row:bu}{j:Nat}{e:En}{s:HS}{F:bM}{ak:aP}{ao:aW}{L:cq}{K:de}{Q:List (Ky×List (HV×HV))}
def Nn(A:cz s F v7 ak ao L K Q)(t:bB e (EL a x o4 o5 ot o8 o9 v7 row j)){ed:Eg}(B:row[j]?=some ed):
  ∃e' s' ad,ev R U.Br e s=.code .normal e' s'/\bB e' (EL a x o4 o5 ot o8 o9 v7 row j++[(11,.ptr ad 0)])/\cz s' F v7 ak ao L ((ad,ed.c)::K) Q:=by
 obtain⟨u,C⟩:=aU.1 B;have b:=A.cL ed.c;have d:=(b.k.bm 0 _ _ rfl).1.1;generalize q:HS.mk _ _ _ _=D at b d;simp only[Eg.c,aB,aC,bn,Nat.reduceAdd]at d q;generalize z:ev R U.Br e s=r;simp only[EL,ab,ae]at t;simp[t,u,C,q,aq,aA]at z;subst z;exact⟨_,_,s.nx,rfl,by simp[t],b⟩
def No{ad:Ky}{ed:Eg}{sp:lJ}{w dp D E:HV}{fo lo:Bool}{nx:Mn}(q:cz s F v7 ak ao L [(ad,ed.c),(o9,[w,.bool fo,.bool lo]),(o8,eG sp),(o5,[D,E,dp]),(o4,eG (0,[]))] Q)(C:bB e (EL a x o4 o5 ot o8 o9 v7 row j++[(11,.ptr ad 0)]))
  (d:∀s,R (.call 135 [.agg [w,.bool fo,.bool lo],.agg a.c,.agg ed.m.c,.bool (decide (sp=(0,[])))] s)=.val (.cO [.agg (oy nx),.bool true]) s):
  ∃e' s' kM,ev R U.Bu e s=.code .normal e' s'/\bB e' (EL a x o4 o5 ot o8 o9 v7 row j++[(11,.ptr ad 0),(12,.ptr kM 0),(13,.bool true)])/\cz s' F v7 ak ao L [(kM,oy nx),(ad,ed.c),(o9,[w,.bool fo,.bool lo]),(o8,eG sp),(o5,[D,E,dp]),(o4,eG (0,[]))] Q:=by
 have t:=(q.k.bm 0 _ _ rfl).1.1;have I:=(q.k.bm 1 _ _ rfl).1.1;have J:=(q.k.bm 2 _ _ rfl).1.1;have M:=(q.k.bm 4 _ _ rfl).1.1;have b:=q.cL (oy nx);have u:=(b.k.bm 0 _ _ rfl).1.1;have z:=(b.k.bm 1 _ _ rfl).1.1;have f9:=(b.k.bm 2 _ _ rfl).1.1;have f8:=(b.k.bm 3 _ _ rfl).1.1;have O:=(b.k.bm 5 _ _ rfl).1.1;have A:pW Ii (.agg [iV sp.1,.str sp.2]) (.agg [iV 0,.str []])=some (decide (sp=(0,[]))):=lC sp (0,[]);generalize B:HS.mk _ _ _ _=V at b u z f9 f8 O;simp only[Eg.c,oy,eG,aB,aC,bn,Nat.reduceAdd,iV]at u z f9 f8 O B t I J M A;simp only[Mv.c,Ar.c,oy]at d;generalize P:ev R U.Bu e s=r;simp only[EL,bo,bq,ab,ae]at C;simp[C,B,t,I,J,M,aq,aA,an,A,d]at P;subst P;exact⟨_,_,s.nx,rfl,by simp[C],b⟩
def Np{ad kM:Ky}{nx:Mn}{q t:az}(z:cz s F v7 ak ao L ((kM,oy nx)::K) Q)(c:bB e (EL a x o4 o5 ot o8 o9 v7 row j++[(11,.ptr ad 0),(12,.ptr kM 0),(13,.bool true)]))
  (b:∀s,R (.call 136 [.agg (oy nx)] s)=.val (.cO [.str q,.str t]) s):
  ∃e',ev R U.Bv e s=.code .normal e' s/\bB e' (EL a x o4 o5 ot o8 o9 v7 row j++[(11,.ptr ad 0),(12,.ptr kM 0),(13,.bool true),(14,.str q),(15,.str t)]):=by
 have d:=(z.k.bm 0 _ _ rfl).1.1;simp only[oy,aB,aC,bn,Nat.reduceAdd]at d b;generalize u:ev R U.Bv e s=r;simp only[EL,bo,bq,ab,ae]at c;simp[c,d,b,an]at u;subst u;exact⟨_,rfl,by simp[c]⟩
def Nq{ad kM:Ky}{FV:ai}{ed:Eg}{q t:az}{T:List (Int×HV)}(u:cz s F v7 ak ao L ((kM,FV)::(ad,ed.c)::K) Q)(B:Q[2]?=some (ot,eX iV T))
  (b:bB e (EL a x o4 o5 ot o8 o9 v7 row j++[(11,.ptr ad 0),(12,.ptr kM 0),(13,.bool true),(14,.str q),(15,.str t)])):
  ∃e',ev R U.vE e s=.code .normal e' s/\bB e' (EL a x o4 o5 ot o8 o9 v7 row j++[(11,.ptr ad 0),(12,.ptr kM 0),(13,.bool true),(14,.str q),(15,.str t),(16,(lkp (ed.to:Int) T).getD (.str [])),(17,.bool (lkp (ed.to:Int) T).isSome)]):=by
 have d:=(u.k.bm 1 _ _ rfl).1.1;have z:=Ni (K:=KI) sn (λ_=>rfl) (u.mp 2 _ _ B).1 (ed.to:Int) (.str []);simp only[Eg.c,iV,aB,aC,bn,Nat.reduceAdd]at d z;generalize A:ev R U.vE e s=r;simp only[EL,bo,bq,ab,ae]at b;simp[b,d,z]at A;subst A;exact⟨_,rfl,by simp[b]⟩
def Nr{ad kM:Ky}{nx:Mn}{t u:az}{v:HV}{b:Bool}(z:cz s F v7 ak ao L ((kM,oy nx)::K) Q)(B:nx.op.length+1<=x.nx.length)(A:b=true->v=.str t)
  (c:bB e (EL a x o4 o5 ot o8 o9 v7 row j++[(11,.ptr ad 0),(12,.ptr kM 0),(13,.bool true),(14,.str t),(15,.str u),(16,v),(17,.bool b)])):
  ∃e',ev R U.vG e s=.code .normal e' s/\bB e' (EL a x o4 o5 ot o8 o9 v7 row j++[(11,.ptr ad 0),(12,.ptr kM 0),(14,.str t),(15,.str u),(132,.bool false)]):=by
 have d:=(z.k.bm 0 _ _ rfl).1.1;simp only[oy,aB,aC,bn,Nat.reduceAdd]at d;generalize q:ev R U.vG e s=r;simp only[EL,bo,bq,ab,ae]at c;cases b with|false=>simp[c,d]at q;subst q;exact⟨_,rfl,by simp[c];omega⟩|true=>rw[A rfl]at c;simp[c,d]at q;subst q;exact⟨_,rfl,by simp[c];omega⟩
def Ns{ad kM:Ky}{FV:ai}{ed:Eg}{b u:az}{T:List (Int×HV)}(q:cz s F v7 ak ao L ((kM,FV)::(ad,ed.c)::K) Q)(z:Q[2]?=some (ot,eX iV T))
  (t:bB e (EL a x o4 o5 ot o8 o9 v7 row j++[(11,.ptr ad 0),(12,.ptr kM 0),(14,.str b),(15,.str u),(132,.bool false)])):
  ∃e' s',ev R U.ahs e s=.code .normal e' s'/\bB e' (EL a x o4 o5 ot o8 o9 v7 row j++[(11,.ptr ad 0),(12,.ptr kM 0),(15,.str u)])/\cz s' F v7 ak ao L ((kM,FV)::(ad,ed.c)::K) (Q.set 2 (ot,eX iV (j5 (ed.to:Int) (.str b) T))):=by
 have d:=(q.k.bm 1 _ _ rfl).1.1;have A:=Tc (K:=KI) sn (λ_=>rfl) (q.mp 2 _ _ z).1 (ed.to:Int) (.str b);simp only[Eg.c,iV,aB,aC,bn,Nat.reduceAdd]at d A;generalize B:ev R U.ahs e s=r;simp only[EL,bo,bq,ab,ae]at t;simp[t,d,A]at B;subst B;exact⟨_,_,rfl,by simp[t],q.Ca z _⟩
def Nt{ad kM:Ky}{FV:ai}{ed:Eg}{z:az}(B:cz s F v7 ak ao L ((kM,FV)::(ad,ed.c)::K) Q)
  (A:bB e (EL a x o4 o5 ot o8 o9 v7 row j++[(11,.ptr ad 0),(12,.ptr kM 0),(15,.str z)])):
  ∃e' s' sM,ev R U.Bx e s=.code .normal e' s'/\bB e' (EL a x o4 o5 ot o8 o9 v7 row j++[(11,.ptr ad 0),(12,.ptr kM 0),(18,.ptr sM 0)])/\cz s' F v7 ak ao L ((sM,eG (ed.to,z))::(kM,FV)::(ad,ed.c)::K) Q:=by
 have d:=(B.k.bm 1 _ _ rfl).1.1;have b:=B.cL (eG ((ed.to:Int),z));have q:=(b.k.bm 0 _ _ rfl).1.1;have t:=(b.k.bm 2 _ _ rfl).1.1;generalize u:HS.mk _ _ _ _=D at b q t;simp only[Eg.c,eG,iV,aB,aC,bn,Nat.reduceAdd]at d u q t;generalize C:ev R U.Bx e s=r;simp only[EL,bo,bq,ab,ae]at A;simp[A,d,u,aq,aA]at C;subst C;exact⟨_,_,s.nx,rfl,by simp[A],b⟩
end
section
variable{a:Ar}{x:Fa}{o4 o5 ot o8 o9 ad kM sM oh ow:Ky}{v7 dp:HV}{row:bu}{j:Nat}{e:En}{s:HS}{F:bM}{ak:aP}{ao:aW}{L:cq}{K:de}{Q:List (Ky×List (HV×HV))}{FV Oq c9 c4:ai}{p sp:lJ}{H W:List (lJ×HV)}{nx:Mn}
def G0{w1:HV}{d q:Bool}(B:cz s F v7 ak ao L [(sM,eG p),(kM,FV),(ad,Oq),(o9,c9),(o8,eG sp),(o5,[.mp oh,.mp ow,dp]),(o4,c4)] Q)(D:Q[0]?=some (oh,eX kL H))
  (E:(lkp p H).getD (.agg [.ah,.bool false,.bool false])=.agg [w1,.bool d,.bool q])(h1:cellsOf w1=some [w1])
  (I:bB e (EL a x o4 o5 ot o8 o9 v7 row j++[(11,.ptr ad 0),(12,.ptr kM 0),(18,.ptr sM 0)])):
  ∃e' s' k,ev R U.vH e s=.code .normal e' s'/\bB e' (EL a x o4 o5 ot o8 o9 v7 row j++[(11,.ptr ad 0),(12,.ptr kM 0),(18,.ptr sM 0),(20,.bool (lkp p H).isSome)])/\cz s' F v7 ak ao L [k,(sM,eG p),(kM,FV),(ad,Oq),(o9,c9),(o8,eG sp),(o5,[.mp oh,.mp ow,dp]),(o4,c4)] Q:=by
 have t:=(B.k.bm 0 _ _ rfl).1.1;have V:=(B.k.bm 5 _ _ rfl).1.1;have J:=Ni (K:=Ii) lC nW (B.mp 0 _ _ D).1 p (.agg [.ah,.bool false,.bool false]);rw[E]at J;have u:=B.cL [.ah,.bool false,.bool false];have c:=(u.k.bm 1 _ _ rfl).1.1;have M:=(u.k.bm 6 _ _ rfl).1.1;have C:=Ni (K:=Ii) lC nW (u.mp 0 _ _ D).1 p (.agg [.ah,.bool false,.bool false]);rw[E]at C;generalize z:HS.mk _ _ _ _=Sz at u c M C;have A:cellsOf (.agg [w1,.bool d,.bool q])=some [w1,.bool d,.bool q]:=by simp[cellsOf]
 obtain⟨S1,O,b⟩:=u.put (a:=0) rfl (x:=.agg [w1,.bool d,.bool q]) A rfl;have P:=fZ (l:=[w1,.bool d,.bool q]) O A rfl;have f18:=(b.k.bm 1 _ _ rfl).1.1;have Z:=(b.k.bm 6 _ _ rfl).1.1;have X:=Ni (K:=Ii) lC nW (b.mp 0 _ _ D).1 p (.agg [.ah,.bool false,.bool false]);rw[E]at X;simp only[eG,kL,iV,aB,aC,bn,Nat.reduceAdd]at t V J c M C z O P f18 Z X;generalize Y:ev R U.vH e s=r;simp only[EL,bo,bq,ab,ae]at I;simp[I,t,V,J,z,c,M,C,O,an]at Y;subst Y;exact⟨_,_,_,rfl,by simp[I],b⟩
def Nu(b:cz s F v7 ak ao L [(sM,eG p),(kM,oy nx),(ad,Oq),(o9,c9),(o8,eG sp),(o5,[.mp oh,.mp ow,dp]),(o4,c4)] Q)(t:Q[0]?=some (oh,eX kL H))
  (q:bB e (EL a x o4 o5 ot o8 o9 v7 row j++[(11,.ptr ad 0),(12,.ptr kM 0),(18,.ptr sM 0)])):
  ∃e' s',ev R U.vJ e s=.code .normal e' s'/\bB e' (EL a x o4 o5 ot o8 o9 v7 row j++[(11,.ptr ad 0),(12,.ptr kM 0),(18,.ptr sM 0)])/\cz s' F v7 ak ao L [(sM,eG p),(kM,oy nx),(ad,Oq),(o9,c9),(o8,eG sp),(o5,[.mp oh,.mp ow,dp]),(o4,c4)] (Q.set 0 (oh,eX kL (j5 p (.agg (oy nx)) H))):=by
 have c:=(b.k.bm 0 _ _ rfl).1.1;have d:=(b.k.bm 1 _ _ rfl).1.1;have u:=(b.k.bm 5 _ _ rfl).1.1;have z:=Tc (K:=Ii) lC nW (b.mp 0 _ _ t).1 p (.agg (oy nx));simp only[eG,kL,oy,iV,aB,aC,bn,Nat.reduceAdd]at c d u z;generalize A:ev R U.vJ e s=r;simp only[EL,bo,bq,ab,ae]at q;simp[q,c,d,u,z,an]at A;subst A;exact⟨_,_,rfl,by simp[q],b.Ca t _⟩
def Nv(q:cz s F v7 ak ao L ((sM,eG p)::K) Q)(z:ak.length+1<=5864062014805)
  (d:bB e (EL a x o4 o5 ot o8 o9 v7 row j++[(11,.ptr ad 0),(12,.ptr kM 0),(18,.ptr sM 0)])):
  ∃e' s' b A,ev R U.vK e s=.code .normal e' s'/\bB e' (EL a x o4 o5 ot o8 o9 b row j++[(11,.ptr ad 0),(12,.ptr kM 0),(18,.ptr sM 0)])/\cz s' A b (ak++[eG p]) ao L ((sM,eG p)::K) Q:=by
 have c:=(q.k.bm 0 _ _ rfl).1.1;obtain⟨B,s',t,C⟩:=q.Td (new:=[eG p]) (Sz.cons rfl Sz.nil) (by simp) (bI:=5864062014805) (by simpa using z);simp only[eG,iV,aB,aC,bn,Nat.reduceAdd]at c t;generalize u:ev R U.vK e s=r;simp only[EL,bo,bq,ab,ae]at d;simp[d,c,t,an]at u;subst u;exact⟨_,_,B,_,rfl,by simp[d],C⟩
end
section
variable{a:Ar}{x:Fa}{o4 o5 ot o8 o9 ad kM sM oh ow:Ky}{v7 dp:HV}{row:bu}{j:Nat}{e:En}{s:HS}{F:bM}{ak:aP}{ao:aW}{L:cq}{K:de}{Q:List (Ky×List (HV×HV))}{FV c9 c4:ai}{p sp:lJ}{W:List (lJ×HV)}{ed:Eg}
def G1{b:Bool}(c:bB e (EL a x o4 o5 ot o8 o9 v7 row j++[(11,.ptr ad 0),(12,.ptr kM 0),(18,.ptr sM 0),(20,.bool b)])):
  ∃e',ev R U.vI e s=.code .normal e' s/\bB e' (EL a x o4 o5 ot o8 o9 v7 row j++[(11,.ptr ad 0),(12,.ptr kM 0),(18,.ptr sM 0),(151,.bool !b)]):=by
 generalize d:ev R U.vI e s=r;simp only[EL,bo,bq,ab,ae]at c;simp[c]at d;subst d;exact⟨_,rfl,by simp[c]⟩
def Nw(d:j<row.length)(q:row.length<=6000)(b:bB e (EL a x o4 o5 ot o8 o9 v7 row j)):
  ∃e',ev R U.By e s=.code .normal e' s/\bB e' (EL a x o4 o5 ot o8 o9 v7 row (j+1)):=by
 have k:=br d (by omega);generalize c:ev R U.By e s=r;simp only[EL,ab,ae]at b;simp[b,k]at c;subst c;exact⟨_,rfl,by simp[b]⟩
def KD(z:cz s F v7 ak ao L [(sM,eG p),(kM,FV),(ad,ed.c),(o9,c9),(o8,eG sp),(o5,[.mp oh,.mp ow,dp]),(o4,c4)] Q)(J:Q[1]?=some (ow,eX kL W))(hl:lkp sp W=none)(h4:W.length=L.length)
  (M:bB e (EL a x o4 o5 ot o8 o9 v7 row j++[(11,.ptr ad 0),(12,.ptr kM 0),(18,.ptr sM 0)])):
  ∃e' s' q A,ev R U.qg e s=.code .normal e' s'/\bB e' (EL a x o4 o5 ot o8 o9 v7 row j)/\cz s' F v7 ak q (L++[(A,6,[ed.m.c++eG p])]) [(sM,eG p),(kM,FV),(ad,ed.c),(o9,c9),(o8,eG sp),(o5,[.mp oh,.mp ow,dp]),(o4,c4)] (Q.set 1 (ow,eX kL (W++[(sp,A)]))):=by
 have B:=(z.k.bm 0 _ _ rfl).1.1;have C:=(z.k.bm 2 _ _ rfl).1.1;have X:=(z.k.bm 4 _ _ rfl).1.1;have Y:=(z.k.bm 5 _ _ rfl).1.1;have D:=Za (K:=Ii) lC nW (z.mp 1 _ _ J).1 sp .ah;rw[hl]at D;simp only at D;have O:=(aU.1 J).1;have b:=(z.Ca J (eX kL (W++[(sp,HV.ah)]))).push 6;generalize h5:HS.aJ _ _ _=S1 at D b;have ZM:=(b.k.bm 0 _ _ rfl).1.1;have P:=(b.k.bm 2 _ _ rfl).1.1;have b8:=(b.k.bm 4 _ _ rfl).1.1;have b5:=(b.k.bm 5 _ _ rfl).1.1;have hg:(L++[(HV.ah,6,([]:aP))])[L.length]?=some (.ah,6,[]):=by simp
 obtain⟨A,S2,q,Z,k2,d⟩:=b.KC L.length hg (new:=[ed.m.c++eG p]) (Sz.cons rfl Sz.nil) (by simp) (bI:=2513169434916) (by simp);have V:=(d.k.bm 0 _ _ rfl).1.1;have Oq:=(d.k.bm 2 _ _ rfl).1.1;have c8:=(d.k.bm 4 _ _ rfl).1.1;have c5:=(d.k.bm 5 _ _ rfl).1.1;have E:(Q.set 1 (ow,eX kL (W++[(sp,HV.ah)])))[1]?=some (ow,eX kL (W++[(sp,HV.ah)])):=by rw[gK O]
 have I:=Zb (d.mp 1 _ _ E).1 (i:=W.length) (t:=sp) (w:=.ah) (by simp) A;have u:=d.Ca E (eX kL ((W++[(sp,HV.ah)]).set W.length (sp,A)));rw[B2]at u;simp only[Te _ _ (aV W.length),kZ,aO]at u I;rw[Te _ _ (aV L.length),kZ,aO,bq]at u;generalize h6:HS.aJ _ _ _=S3 at I u;simp only[eG,kL,Eg.c,Mv.c,iV,bo,bq,aB,aC,bn,Nat.reduceAdd]at B C X Y ZM P b8 b5 V Oq c8 c5 D Z I;generalize hr:ev R U.qg e s=r;simp only[EL,bo,bq,ab,ae]at M;simp[M,B,C,X,Y,D,Z,I,an]at hr;subst hr;exact⟨_,_,q,A,rfl,by simp[M],u⟩
def KE{v:HV}{es:aP}(q:cz s F v7 ak ao L [(sM,eG p),(kM,FV),(ad,ed.c),(o9,c9),(o8,eG sp),(o5,[.mp oh,.mp ow,dp]),(o4,c4)] Q)(D:Q[1]?=some (ow,eX kL W))(P:lkp sp W=some v)(E:L[DV sp W]?=some (v,6,es))(I:es.length+1<=2513169434916)
  (J:bB e (EL a x o4 o5 ot o8 o9 v7 row j++[(11,.ptr ad 0),(12,.ptr kM 0),(18,.ptr sM 0)])):
  ∃e' s' d u,ev R U.qg e s=.code .normal e' s'/\bB e' (EL a x o4 o5 ot o8 o9 v7 row j)/\cz s' F v7 ak d (L.set (DV sp W) (u,6,es++[ed.m.c++eG p])) [(sM,eG p),(kM,FV),(ad,ed.c),(o9,c9),(o8,eG sp),(o5,[.mp oh,.mp ow,dp]),(o4,c4)] (Q.set 1 (ow,eX kL (W.set (DV sp W) (sp,u)))):=by
 have z:=(q.k.bm 0 _ _ rfl).1.1;have A:=(q.k.bm 2 _ _ rfl).1.1;have V:=(q.k.bm 4 _ _ rfl).1.1;have X:=(q.k.bm 5 _ _ rfl).1.1;have C:=Za (K:=Ii) lC nW (q.mp 1 _ _ D).1 sp .ah;rw[P]at C;simp only at C;obtain⟨u,S2,d,Y,k2,b⟩:=q.KC (DV sp W) E (new:=[ed.m.c++eG p]) (Sz.cons rfl Sz.nil) (by simp) (bI:=2513169434916) (by simpa using I);have M:=(b.k.bm 0 _ _ rfl).1.1;have Oq:=(b.k.bm 2 _ _ rfl).1.1;have c8:=(b.k.bm 4 _ _ rfl).1.1;have c5:=(b.k.bm 5 _ _ rfl).1.1;have O:=Zb (b.mp 1 _ _ D).1 (i:=DV sp W) (t:=sp) (w:=v) (y6 P) u;have B:=b.Ca D (eX kL (W.set (DV sp W) (sp,u)));generalize h4:HS.aJ _ _ _=S3 at O B;simp only[eG,kL,Eg.c,Mv.c,iV,bo,bq,aB,aC,bn,Nat.reduceAdd]at z A V X M Oq c8 c5 C Y O;generalize Z:ev R U.qg e s=r;simp only[EL,bo,bq,ab,ae]at J;simp[J,z,A,V,X,C,Y,O,an]at Z;subst Z;exact⟨_,_,d,u,rfl,by simp[J],B⟩
end
def oA{A B:HC}{e b:En}{s s1:HS}(h:ev R A e s=.code .normal b s1):ev R (.seq A B) e s=ev R B b s1:=by rw[Fm,h];rfl
def KF{i:Nat}{e:En}{s:HS}{A B:HC}(h:look e i=some (.bool true)):ev R (.cond (.t i) A B) e s=ev R A e s:=by rw[vO];show Dm (look e i) _ _=_;rw[h];rfl
def DZ{i:Nat}{e:En}{s:HS}{A B:HC}(h:look e i=some (.bool false)):ev R (.cond (.t i) A B) e s=ev R B e s:=by rw[vO];show Dm (look e i) _ _=_;rw[h];rfl
def KG{α:Type}[DecidableEq α]{t:α}{v:HV}{l:List (α×HV)}{p:α×HV}(h:p∈j5 t v l):p∈l∨p=(t,v):=by
 unfold j5 at h
 split at h
 .exact yk h
 simpa using h
def pS(S:Sn->Prop)(p:lJ):Prop:=p=(0,[])∨∃y,S y/\y.mn.begun=true/\p=((y.st:Int),oz y.mn)
def G2(S:Sn->Prop)(p:lJ×HV):Prop:=p=((0,[]),.agg [.ah,.bool false,.bool false])∨∃y,S y/\y.mn.begun=true/\p=(((y.st:Int),oz y.mn),.agg (oy y.mn))
def G2.spot{S:Sn->Prop}{p:lJ×HV}(h:G2 S p):pS S p.1:=by
 rcases h with rfl|⟨y,b,c,rfl⟩
 .exact .inl rfl
 exact .inr ⟨y,b,c,rfl⟩
structure WI(S:Sn->Prop)(dn td:List lJ)(H:List (lJ×HV))(T:List (Int×HV))(W:List (lJ×HV))(L:cq)(sp:lJ)(r:Nat):Prop where
 hk:H.map Prod.fst=dn++td
 hn:(dn++td).Nodup
 he:∀p∈H,G2 S p
 te:∀p∈T,∃y,S y/\p.1=(y.st:Int)/\p.2=.str (rz y.mn.op)
 wl:W.length=L.length
 we:∀(i:Nat) k v,W[i]?=some (k,v)->k∈dn/\∃ak,L[i]?=some (v,6,ak)/\ak.length<=if k=sp then r else 6000
 sd:sp∈dn
section
variable{a:Ar}{x:Fa}{S:Sn->Prop}{o4 o5 ot o8 o9 oh ow:Ky}{v7 dp:HV}{row:bu}{j N:Nat}{e:En}{s:HS}{F:bM}{ao:aW}{L:cq}{sp:lJ}{dn td:List lJ}{H W:List (lJ×HV)}{T:List (Int×HV)}
def Nx(k:j<row.length)(b:bB e (EL a x o4 o5 ot o8 o9 v7 row j)):
  ∃e',ev R U.Bq e s=.code .normal e' s/\look e' 85=some (.bool true)/\bB e' (EL a x o4 o5 ot o8 o9 v7 row j):=by
 have c:(j:Int)<row.length:=by omega
 generalize d:ev R U.Bq e s=r;simp only[EL,ab,ae]at b;simp[b,c]at d;subst d;exact⟨_,rfl,by simp[b]⟩
def Zd(ok:fz a)(hc:aQ a=0)(hx:bA x)(I:Oo a x S)(hf:∀l:List lJ,l.Nodup->(∀p∈l,pS S p)->l.length<=N)(hN:N<=3518437208883)
  {y:Sn}(hy:S y){w:HV}{fo lo:Bool}(hh:lD sp y w fo lo)(hg:row=cM x y.st)(k8:row.length<=6000){ed:Eg}(hj:row[j]?=some ed)
  (A:WI S dn td H T W L sp j)
  (hM:cz s F v7 (td.map eG) ao L [(o9,[w,.bool fo,.bool lo]),(o8,eG sp),(o5,[.mp oh,.mp ow,dp]),(o4,eG (0,[]))] [(oh,eX kL H),(ow,eX kL W),(ot,eX iV T)])
  (hL:bB e (EL a x o4 o5 ot o8 o9 v7 row j)):
  ∃e' s' F' ho b r V T' W' L',ev R U.tH e s=.code .normal e' s'/\bB e' (EL a x o4 o5 ot o8 o9 ho row (j+1))/\WI S dn r V T' W' L' sp (j+1)/\
   cz s' F' ho (r.map eG) b L' [(o9,[w,.bool fo,.bool lo]),(o8,eG sp),(o5,[.mp oh,.mp ow,dp]),(o4,eG (0,[]))] [(oh,eX kL V),(ow,eX kL W'),(ot,eX iV T')]:=by
 obtain⟨h8,hr⟩:=aU.1 hj;have h4:ed∈cM x y.st:=by rw[<-hg,<-hr];exact cb h8
 have D:=I.Nk y hy ed h4;have kx:=hx.n;have hlen:=I.len _ D;have k9:=I.sm _ D;have h5:(gL y.mn ed.m).begun=true:=by unfold gL;split<;>rfl
 have hs:=Zc ok hc I hx hy hh h4;generalize ky:gL y.mn ed.m=nx at*;have ht:=afY (x:=nx) (by simp only at hlen;omega) k9;obtain⟨e0,ka,kb,L0⟩:=Nx (s:=s) h8 hL;obtain⟨e1,s1,ad,kc,L1,M1⟩:=Nn hM L0 hj;obtain⟨e2,s2,kM,q15,L2,M2⟩:=No (nx:=nx) M1 L1 hs;obtain⟨e3,kd,L3⟩:=Np M2 L2 ht;obtain⟨e4,ke,L4⟩:=Nq M2 rfl L3;have hv:(lkp (ed.to:Int) T).isSome=true->(lkp (ed.to:Int) T).getD (.str [])=.str (rz nx.op):=by
  intro h;cases B:lkp (ed.to:Int) T with
  |none=>rw[B]at h;cases h
  |some t=>obtain⟨z,z1,z2,z3⟩:=A.te _ (wb B);simp only at z2 z3;rw[z3,gB,I.shp z _ z1 D (by simp only;omega)]
 obtain⟨e5,q18,L5⟩:=Nr M2 hlen hv L4;obtain⟨e6,s6,kg,L6,M6⟩:=Ns M2 rfl (by simpa using L5);obtain⟨e7,s7,sM,ki,L7,M7⟩:=Nt M6 L6;simp only[bJ,aO]at M7;have hz:∀p∈j5 (ed.to:Int) (.str (rz nx.op)) T,∃y,S y/\p.1=(y.st:Int)/\p.2=.str (rz y.mn.op):=by
  intro p d;rcases KG d with d|rfl
  .exact A.te p d
  exact⟨_,D,rfl,rfl⟩
 have kj:∃e8 X F8 v8 r V,ev R (.seq U.vH (.seq U.vI (.cond (.t 151) (.seq U.vJ U.vK) .skip))) e7 s7=.code .normal e8 X/\bB e8 (EL a x o4 o5 ot o8 o9 v8 row j++[(11,.ptr ad 0),(12,.ptr kM 0),(18,.ptr sM 0)])/\WI S dn r V (j5 (ed.to:Int) (.str (rz nx.op)) T) W L sp j/\
   cz X F8 v8 (r.map eG) ao L [(sM,eG (ed.to,oz nx)),(kM,oy nx),(ad,ed.c),(o9,[w,.bool fo,.bool lo]),(o8,eG sp),(o5,[.mp oh,.mp ow,dp]),(o4,eG (0,[]))] [(oh,eX kL V),(ow,eX kL W),(ot,eX iV (j5 (ed.to:Int) (.str (rz nx.op)) T))]:=by
  cases B:lkp ((ed.to:Int),oz nx) H with
  |some v=>
   have kk:∃w1 b1 b2,v=.agg [w1,.bool b1,.bool b2]/\cellsOf w1=some [w1]:=by
    rcases A.he _ (wb B)with h|⟨z,_,_,h⟩
    .exact⟨_,_,_,ch Prod.snd h,rfl⟩
    exact⟨_,_,_,ch Prod.snd h,rfl⟩
   obtain⟨w1,b1,b2,rfl,kl⟩:=kk;obtain⟨e8,X,k,h9,L8,M8⟩:=G0 M7 rfl (by rw[B];rfl) kl L7;rw[B]at L8;obtain⟨J,Xt,C⟩:=G1 (s:=X) L8;have Y:=M8.tail (n:=1);refine⟨J,X,F,v7,td,H,?_,?_,⟨A.hk,A.hn,A.he,hz,A.wl,A.we,A.sd⟩,Y⟩
   .rw[oA h9,oA Xt,DZ (by simp only[EL,bo,bq,ab,ae]at C;simp[C])];rfl
   simp only[EL,bo,bq,ab,ae]at C ⊢;simp[C]
  |none=>
   obtain⟨e8,X,k,h9,L8,M8⟩:=G0 M7 rfl (by rw[B];rfl) rfl L7;rw[B]at L8;obtain⟨J,Xt,C⟩:=G1 (s:=X) L8;have Y:=M8.tail (n:=1);have km:bB J (EL a x o4 o5 ot o8 o9 v7 row j++[(11,.ptr ad 0),(12,.ptr kM 0),(18,.ptr sM 0)]):=by simp only[EL,bo,bq,ab,ae]at C ⊢;simp[C]
   obtain⟨k0,kz,q24,ha,kn⟩:=Nu Y rfl km;have k4:((ed.to:Int),oz nx) ∉ dn++td:=by rw[<-A.hk];exact y5.1 B
   have h6:(dn++(td++[((ed.to:Int),oz nx)])).Nodup:=by rw[<-List.append_assoc,tB];exact⟨A.hn,by simp,λp d q hq e=>k4 (by rw[<-List.mem_singleton.1 hq,<-e];exact d)⟩
   have h7:j5 ((ed.to:Int),oz nx) (.agg (oy nx)) H=H++[(((ed.to:Int),oz nx),.agg (oy nx))]:=by unfold j5;rw[B]
   have hb:∀p∈dn++(td++[((ed.to:Int),oz nx)]),pS S p:=by
    intro p d;rw[<-List.append_assoc,l5]at d;rcases d with d|d
    .rw[<-A.hk]at d;obtain⟨q,hq,rfl⟩:=cU.1 d;exact(A.he q hq).spot
    rw[cr.1 d];exact .inr ⟨_,D,h5,rfl⟩
   have hle:=hf _ h6 hb;simp only[bZ,aB,aC]at hle;obtain⟨ko,kp,kq,kr,ks,kt,ku⟩:=Nv kn (by rw[bz];omega) ha;refine⟨ko,kp,kr,kq,td++[((ed.to:Int),oz nx)],j5 ((ed.to:Int),oz nx) (.agg (oy nx)) H,?_,kt,⟨?_,h6,?_,hz,A.wl,A.we,A.sd⟩,?_⟩
   .rw[oA h9,oA Xt,KF (by simp only[EL,bo,bq,ab,ae]at C;simp[C]),oA q24,ks]
   .rw[h7,eU,A.hk];simp
   .intro p d;rw[h7]at d;rcases l5.1 d with d|d
    .exact A.he p d
    rw[cr.1 d];exact .inr ⟨_,D,h5,rfl⟩
   simpa using ku
 obtain⟨e8,X,F8,v8,r,V,qm,L8,u,M8⟩:=kj;have last:∃J Z b W' L',ev R U.qg e8 X=.code .normal J Z/\bB J (EL a x o4 o5 ot o8 o9 v8 row j)/\WI S dn r V (j5 (ed.to:Int) (.str (rz nx.op)) T) W' L' sp (j+1)/\
   cz Z F8 v8 (r.map eG) b L' [(sM,eG (ed.to,oz nx)),(kM,oy nx),(ad,ed.c),(o9,[w,.bool fo,.bool lo]),(o8,eG sp),(o5,[.mp oh,.mp ow,dp]),(o4,eG (0,[]))] [(oh,eX kL V),(ow,eX kL W'),(ot,eX iV (j5 (ed.to:Int) (.str (rz nx.op)) T))]:=by
  have M:∀(i:Nat) k v,W[i]?=some (k,v)->k∈dn/\∃ak,L[i]?=some (v,6,ak)/\ak.length<=if k=sp then j+1 else 6000:=by
   intro i k v E;obtain⟨h1,ak,h2,h3⟩:=u.we i k v E;refine⟨h1,ak,h2,?_⟩
   split at h3
   .rw[au (by assumption)];omega
   rw[ar (by assumption)];exact h3
  cases B:lkp sp W with
  |none=>
   obtain⟨J,Z,b,v',O,C,Y⟩:=KD M8 rfl B u.wl L8;refine⟨J,Z,b,W++[(sp,v')],_,O,C,⟨u.hk,u.hn,u.he,u.te,by simp[u.wl],λi k v E=>?_,u.sd⟩,Y⟩;rcases wo i W.length with P|rfl|P
   .rw[dD P]at E;obtain⟨h1,ak,h2,h3⟩:=M i k v E;exact⟨h1,ak,by rw[dD (by rw[<-u.wl];exact P)];exact h2,h3⟩
   .simp at E;obtain⟨rfl,rfl⟩:=E;exact⟨u.sd,_,by rw[u.wl];simp;rfl,by simp⟩
   rw[qz (by simp;omega)]at E;cases E
  |some v=>
   obtain⟨h1,ak,h2,h3⟩:=u.we _ _ _ (y6 B);rw[au rfl]at h3;obtain⟨J,Z,b,v',O,C,Y⟩:=KE M8 rfl B h2 (by omega) L8;refine⟨J,Z,b,W.set (DV sp W) (sp,v'),_,O,C,⟨u.hk,u.hn,u.he,u.te,by simp[u.wl],λi k v2 E=>?_,u.sd⟩,Y⟩;by_cases hd:DV sp W=i
   .subst hd;have k5:=(aU.1 (y6 B)).1;rw[gK k5]at E;cases E;exact⟨h1,_,by rw[gK (by rw[<-u.wl];exact k5)],by simp;omega⟩
   rw[jm hd]at E;obtain⟨k1,k6,k2,k3⟩:=M i k v2 E;exact⟨k1,k6,by rw[jm hd];exact k2,k3⟩
 obtain⟨J,Z,b,W',L',O,C,I9,Y⟩:=last;obtain⟨k0,kv,ha⟩:=Nw (s:=Z) h8 k8 C;refine⟨k0,Z,F8,v8,b,r,V,_,W',L',?_,ha,I9,Y.tail (n:=3)⟩;unfold U.tH;rw[oA ka,oA (show ev R (.cond (.t 85) .skip (.exit 2)) e0 s=.code .normal e0 s by rw[KF kb];rfl)];refine oA ?_ |>.trans kv;unfold U.Jp;rw[lu,oA kc,oA q15,oA kd];have k7:ev R (.seq U.vE (.seq U.vG (.cond (.t 132) (.seq U.Gr .ret) .skip))) e3 s2=.code .normal e5 s2:=by rw[oA ke,oA q18,DZ (by simp only[EL,bo,bq,ab,ae]at L5;simp[L5])];rfl
 rw[oA k7,oA kg,oA ki,oA qm,O];rfl
def Ze(ok:fz a)(O:aQ a=0)(P:bA x)(I:Oo a x S)(q:∀l:List lJ,l.Nodup->(∀p∈l,pS S p)->l.length<=N)(V:N<=3518437208883)
  {y:Sn}(X:S y){w:HV}{fo lo:Bool}(Y:lD sp y w fo lo)(t:row=cM x y.st)(J:row.length<=6000)
  (u:WI S dn td H T W L sp 0)
  (z:cz s F v7 (td.map eG) ao L [(o9,[w,.bool fo,.bool lo]),(o8,eG sp),(o5,[.mp oh,.mp ow,dp]),(o4,eG (0,[]))] [(oh,eX kL H),(ow,eX kL W),(ot,eX iV T)])
  (k:bB e (EL a x o4 o5 ot o8 o9 v7 row 0)){o:Out}(ho:ev R (.loop U.tH) e s=o):
  ∃e' s' M c b d A B C D,o=.code (.exit 2) e' s'/\bB e' (EL a x o4 o5 ot o8 o9 c row row.length)/\WI S dn d A B C D sp row.length/\
   cz s' M c (d.map eG) b D [(o9,[w,.bool fo,.bool lo]),(o8,eG sp),(o5,[.mp oh,.mp ow,dp]),(o4,eG (0,[]))] [(oh,eX kL A),(ow,eX kL C),(ot,eX iV B)]:=by
 revert o;show∀o,_;refine ajY row.length
  (λj e s=>∃(F:bM) (v7:HV) (ao:aW) (td:List lJ) (H:List (lJ×HV)) (T:List (Int×HV)) (W:List (lJ×HV)) (L:cq),bB e (EL a x o4 o5 ot o8 o9 v7 row j)/\WI S dn td H T W L sp j/\
   cz s F v7 (td.map eG) ao L [(o9,[w,.bool fo,.bool lo]),(o8,eG sp),(o5,[.mp oh,.mp ow,dp]),(o4,eG (0,[]))] [(oh,eX kL H),(ow,eX kL W),(ot,eX iV T)])
  0 (by omega) ⟨F,v7,ao,td,H,T,W,L,k,u,z⟩ ?_ ?_
 .rintro j e s r Z ⟨F,v7,ao,td,H,T,W,L,k,u,z⟩ E
  obtain⟨e',s',M,c,b,d,A,B,C,D,h1,h2,h3,h4⟩:=Zd ok O P I q V X Y t J (aX Z) u z k;exact .inl ⟨e',s',by rw[<-E];exact h1,M,c,b,d,A,B,C,D,h2,h3,h4⟩
 rintro e s r ⟨F,v7,ao,td,H,T,W,L,k,u,z⟩ E
 have h5:=k;simp only[EL,ab,ae]at k;simp[U.tH,k]at E;subst E;exact⟨by simp,_,_,F,v7,ao,td,H,T,W,L,rfl,by simp[k],u,z⟩
@[simp]def EO(a:Ar)(x:Fa)(o4 o5 ot:Ky)(v7:HV):List (Nat×HV):=[(1,.aw (ib a x)),(4,.ptr o4 0),(5,.ptr o5 0),(6,.mp ot),(7,v7)]
variable{ak:aP}{K:de}{Q:List (Ky×List (HV×HV))}
def KH(d:cz s F v7 ak ao L K Q)(b:bB e (EO a x o4 o5 ot v7)):
  ∃e',ev R U.E8 e s=.code .normal e' s/\look e' 35=some (.bool (decide (0<ak.length)))/\bB e' (EO a x o4 o5 ot v7):=by
 have k:=d.q.len (s1:=s);generalize c:ev R U.E8 e s=r;simp only[EO,ab,ae]at b;simp[b,k]at c;subst c;exact⟨_,rfl,by simp[b]⟩
def Tf{p:lJ}{ak:aP}(z:cz s F v7 (eG p::ak) ao L K Q)(t:bB e (EO a x o4 o5 ot v7)):
  ∃e' s' o8,ev R U.E9 e s=.code .normal e' s'/\bB e' (EO a x o4 o5 ot v7++[(8,.ptr o8 0)])/\cz s' F v7 (eG p::ak) ao L ((o8,eG p)::K) Q:=by
 obtain⟨E,C,D,I,A⟩:=z.q.head;have u:=D .i64;have b:=z.cL (eG p);have c:=(b.k.bm 0 _ _ rfl).1.1;generalize d:HS.mk _ _ _ _=J at b c;simp only[eG,iV,aB,aC,bn,Nat.reduceAdd]at d c A;generalize B:ev R U.E9 e s=r;simp only[EO,ab,ae]at t;simp[t,u,A,d,aq,aA]at B;subst B;exact⟨_,_,s.nx,rfl,by simp[t],b⟩
def Tg{p:lJ}{ak:aP}(u:cz s F v7 (eG p::ak) ao L K Q)(c:bB e (EO a x o4 o5 ot v7++[(8,.ptr o8 0)])):
  ∃e' b,ev R U.Fb e s=.code .normal e' s/\bB e' (EO a x o4 o5 ot b++[(8,.ptr o8 0)])/\cz s F b ak ao L K Q:=by
 obtain⟨q,k,z⟩:=u.KB (e:=e);have k:zy (some v7) (λ_=>some 1) (λd=>some d) none 2 s=.v q s:=k;generalize t:ev R U.Fb e s=r;simp only[EO,bo,bq,ab,ae]at c;simp[c,k]at t;subst t;exact⟨_,q,rfl,by simp[c],z⟩
def Th{w:HV}{fo lo:Bool}(q:cz s F v7 ak ao L [(o8,eG sp),(o5,[.mp oh,.mp ow,dp]),(o4,eG (0,[]))] Q)(I:Q[0]?=some (oh,eX kL H))(J:lkp sp H=some (.agg [w,.bool fo,.bool lo]))(V:cellsOf w=some [w])
  (u:bB e (EO a x o4 o5 ot v7++[(8,.ptr o8 0)])):
  ∃e' s' o9,ev R U.Fc e s=.code .normal e' s'/\bB e' (EO a x o4 o5 ot v7++[(8,.ptr o8 0),(9,.ptr o9 0)])/\cz s' F v7 ak ao L [(o9,[w,.bool fo,.bool lo]),(o8,eG sp),(o5,[.mp oh,.mp ow,dp]),(o4,eG (0,[]))] Q:=by
 have M:=(q.k.bm 0 _ _ rfl).1.1;have O:=(q.k.bm 1 _ _ rfl).1.1;have z:=Nj (K:=Ii) lC nW (q.mp 0 _ _ I).1 sp (.agg [.ah,.bool false,.bool false]);rw[J]at z;have b:=q.cL [.ah,.bool false,.bool false];have A:=(b.k.bm 1 _ _ rfl).1.1;have B:=(b.k.bm 2 _ _ rfl).1.1;have t:=Nj (K:=Ii) lC nW (b.mp 0 _ _ I).1 sp (.agg [.ah,.bool false,.bool false]);rw[J]at t;generalize c:HS.mk _ _ _ _=Sz at b A B t;have d:cellsOf (.agg [w,.bool fo,.bool lo])=some [w,.bool fo,.bool lo]:=by simp[cellsOf]
 obtain⟨X,C,D⟩:=b.put (a:=0) rfl (x:=.agg [w,.bool fo,.bool lo]) d rfl;have E:=fZ (l:=[w,.bool fo,.bool lo]) C d rfl;simp only[eG,kL,iV,gB,aB,aC,bn,Nat.reduceAdd]at M O z A B t c C E;generalize P:ev R U.Fc e s=r;simp only[EO,bo,bq,ab,ae]at u;simp[u,M,O,z,c,A,B,t,C,an]at P;subst P;exact⟨_,_,_,rfl,by simp[u],D⟩
end
def lD.pl{sp:lJ}{y:Sn}{w:HV}{fo lo:Bool}(h:lD sp y w fo lo):sp.1=(y.st:Int):=by rcases h with⟨rfl,rfl,_⟩|⟨_,rfl,_⟩<;>rfl
def lD.len{sp:lJ}{y:Sn}{w:HV}{fo lo:Bool}{s:HS}(h:lD sp y w fo lo):vm 0 (some w) s=.v (iV y.mn.op.length) s:=by
 rcases h with⟨_,rfl,rfl,_⟩|⟨_,_,rfl,_⟩
 .rfl
 simp[iV]
def lD.cell{sp:lJ}{y:Sn}{w:HV}{fo lo:Bool}(h:lD sp y w fo lo):cellsOf w=some [w]:=by rcases h with⟨_,_,rfl,_⟩|⟨_,_,rfl,_⟩<;>rfl
section
variable{a:Ar}{x:Fa}{o4 o5 ot o8 o9 oh ow:Ky}{v7:HV}{e:En}{s:HS}{F:bM}{ao:aW}{L:cq}{sp:lJ}{ak:aP}{Q:List (Ky×List (HV×HV))}{y:Sn}{w:HV}{fo lo:Bool}{d0:Int}
def Ti(C:lD sp y w fo lo)(d:cz s F v7 ak ao L [(o9,[w,.bool fo,.bool lo]),(o8,eG sp),(o5,[.mp oh,.mp ow,iV d0]),(o4,eG (0,[]))] Q)
  (q:bB e (EO a x o4 o5 ot v7++[(8,.ptr o8 0),(9,.ptr o9 0)])):
  ∃e' s' D,ev R U.Fe e s=.code .normal e' s'/\bB e' (EO a x o4 o5 ot v7++[(8,.ptr o8 0),(9,.ptr o9 0)])/\cz s' F v7 ak ao L [(o9,[w,.bool fo,.bool lo]),(o8,eG sp),(o5,[.mp oh,.mp ow,iV D]),(o4,eG (0,[]))] Q:=by
 have z:=(d.k.bm 0 _ _ rfl).1.1;have A:=(d.k.bm 2 _ _ rfl).1.1;have b:=λs=>C.len (s:=s)
 obtain⟨E,t,c⟩:=d.yB (a:=2) rfl 2 (by simp) (x:=iV (max d0 y.mn.op.length)) rfl;have u:=iu t rfl;simp only[bJ,aO]at c;simp only[iV,aB,aC,bn,Nat.reduceAdd]at z A t u b;generalize B:ev R U.Fe e s=r;simp only[EO,bo,bq,ab,ae]at q;simp[q,z,A,t,b]at B;subst B;exact⟨_,_,_,rfl,by simp[q],c⟩
def Ny(B:lD sp y w fo lo)(M:y.st<x.nx.length)(O:x.nx.length=x.fi.length)(D:x.fi.getD y.st false=true->y.mn.over=true)(C:cz s F v7 ak ao L [(o9,[w,.bool fo,.bool lo]),(o8,eG sp),(o5,[.mp oh,.mp ow,iV d0]),(o4,eG (0,[]))] Q)
  (u:bB e (EO a x o4 o5 ot v7++[(8,.ptr o8 0),(9,.ptr o9 0)])):
  ∃e',ev R U.vD e s=.code .normal e' s/\look e' 75=some (.bool false)/\bB e' (EO a x o4 o5 ot v7++[(8,.ptr o8 0),(9,.ptr o9 0)]):=by
 have E:=(C.k.bm 0 _ _ rfl).1.1;have z:=(C.k.bm 1 _ _ rfl).1.1;have I:=(C.k.bm 3 _ _ rfl).1.1;have d:=λs=>B.len (s:=s)
 have P:=B.pl;have q:y.st<x.fi.length:=by omega
 have J:(y.st:Int)<x.fi.length:=by omega
 have V:=B.zero;have b:pW Ii (.agg [iV sp.1,.str sp.2]) (.agg [iV 0,.str []])=some (!y.mn.begun):=by rw[<-V];exact lC sp (0,[])
 rw[getD_at q]at D;simp only[eG,iV,aB,aC,bn,Nat.reduceAdd]at E z I d b;rw[P]at z b;generalize A:ev R U.vD e s=r;simp only[EO,bo,bq,ab,ae]at u;cases t:x.fi[y.st]with|false=>simp[u,z,q,t]at A;subst A;exact⟨_,rfl,by simp[u]⟩|true=>have c:=D t;unfold Mn.over at c;simp only[aL,bY]at c;rw[c.1]at b;rw[c.2]at d;simp[u,E,z,I,q,t,d,b,an]at A;subst A;exact⟨_,rfl,by simp[u]⟩
def Nz(z:lD sp y w fo lo)(b:y.st<x.nx.length)(A:cz s F v7 ak ao L [(o9,[w,.bool fo,.bool lo]),(o8,eG sp),(o5,[.mp oh,.mp ow,iV d0]),(o4,eG (0,[]))] Q)
  (d:bB e (EO a x o4 o5 ot v7++[(8,.ptr o8 0),(9,.ptr o9 0)])):
  ∃e',ev R U.ahr e s=.code .normal e' s/\bB e' (EL a x o4 o5 ot o8 o9 v7 (cM x y.st) 0):=by
 have q:=(A.k.bm 1 _ _ rfl).1.1;have B:=z.pl;have t:(y.st:Int)<x.nx.length:=by omega
 have c:cM x y.st=x.nx[y.st]:=getD_at b _;simp only[eG,iV,aB,aC,bn,Nat.reduceAdd]at q;rw[B]at q;generalize u:ev R U.ahr e s=r;simp only[EO,bo,bq,ab,ae]at d;simp[d,q,b]at u;subst u;exact⟨_,rfl,by simp[d,c]⟩
end
structure WO(S:Sn->Prop)(dn td:List lJ)(H:List (lJ×HV))(T:List (Int×HV))(W:List (lJ×HV))(L:cq):Prop where
 hk:H.map Prod.fst=dn++td
 hn:(dn++td).Nodup
 he:∀p∈H,G2 S p
 te:∀p∈T,∃y,S y/\p.1=(y.st:Int)/\p.2=.str (rz y.mn.op)
 wl:W.length=L.length
 we:∀(i:Nat) k v,W[i]?=some (k,v)->k∈dn/\∃ak,L[i]?=some (v,6,ak)/\ak.length<=6000
section
variable{a:Ar}{x:Fa}{S:Sn->Prop}{o4 o5 ot oh ow:Ky}{v7:HV}{N:Nat}{e:En}{s:HS}{F:bM}{ao:aW}{L:cq}{dn td:List lJ}{H W:List (lJ×HV)}{T:List (Int×HV)}{d0:Int}
def Zf(ok:fz a)(hc:aQ a=0)(V:bA x)(b:Oo a x S)(B:∀l:List lJ,l.Nodup->(∀p∈l,pS S p)->l.length<=N)(hN:N<=3518437208883){sp:lJ}
  (c:WO S dn (sp::td) H T W L)
  (hM:cz s F v7 ((sp::td).map eG) ao L [(o5,[.mp oh,.mp ow,iV d0]),(o4,eG (0,[]))] [(oh,eX kL H),(ow,eX kL W),(ot,eX iV T)])
  (hL:bB e (EO a x o4 o5 ot v7)):
  ∃e' s' F' d C D H' T' W' L' X,ev R U.qV e s=.code .normal e' s'/\bB e' (EO a x o4 o5 ot d)/\WO S (dn++[sp]) D H' T' W' L'/\
   cz s' F' d (D.map eG) C L' [(o5,[.mp oh,.mp ow,iV X]),(o4,eG (0,[]))] [(oh,eX kL H'),(ow,eX kL W'),(ot,eX iV T')]:=by
 obtain⟨Y,q5,r,L0⟩:=KH hM hL;have r:look Y 35=some (.bool true):=by rw[r];simp
 obtain⟨e1,s1,o8,q6,L1,M1⟩:=Tf hM L0;obtain⟨e2,v2,q7,L2,M2⟩:=Tg M1 L1;have Z:sp∈H.map Prod.fst:=by rw[c.hk];simp
 obtain⟨v,hv⟩:∃v,lkp sp H=some v:=by cases h:lkp sp H with|none=>exact(y5.1 h Z).elim|some v=>exact⟨v,rfl⟩
 obtain⟨y,w,fo,lo,hy,rfl,E⟩:∃y w fo lo,S y/\v=.agg [w,.bool fo,.bool lo]/\lD sp y w fo lo:=by
  rcases c.he _ (wb hv)with h|⟨z,u,I,h⟩
  .exact⟨AM,.ah,false,false,b.st,ch Prod.snd h,.inl ⟨ch Prod.fst h,rfl,rfl,rfl,rfl⟩⟩
  exact⟨z,_,_,_,u,ch Prod.snd h,.inr ⟨I,ch Prod.fst h,rfl,rfl,rfl⟩⟩
 have q:=b.pl y hy;obtain⟨e3,s3,o9,q8,L3,M3⟩:=Th M2 rfl hv E.cell L2;obtain⟨e4,s4,X,q9,L4,M4⟩:=Ti E M3 L3;obtain⟨e5,q10,h4,L5⟩:=Ny E q V.nf (b.fin y hy) M4 L4;obtain⟨e6,h5,L6⟩:=Nz E q M4 L5;have h6:(cM x y.st).length<=6000:=by rw[show cM x y.st=x.nx[y.st] from getD_at q _];exact V.row q
 have h7:(dn++[sp]++td).Nodup:=by simpa using c.hn
 have J:sp ∉ dn:=by intro h;have:=tB.1 c.hn;exact this.2.2 sp h sp (by simp) rfl
 have h8:WI S (dn++[sp]) td H T W L sp 0:=⟨by rw[c.hk];simp,h7,c.he,c.te,c.wl,λi k v hi=>by
  obtain⟨u,ak,I,h3⟩:=c.we i k v hi;refine⟨ph _ u,ak,I,?_⟩;rw[ar λe=>J (by rw[<-e];exact u)];exact h3,by simp⟩
 generalize ho:ev R (.loop U.tH) e6 s4=o;obtain⟨e7,s7,F7,d,M,h9,H7,T7,W7,L7,rfl,O,A,M7⟩:=Ze ok hc V b B hN hy E rfl h6 h8 M4 L6 ho;refine⟨e7,s7,F7,d,M,h9,H7,T7,W7,L7,X,?_,?_,⟨A.hk,A.hn,A.he,A.te,A.wl,λi k v hi=>?_⟩,M7.tail (n:=2)⟩
 .unfold U.qV;rw[Fm,oA q5,KF r];show(Out.code .normal Y s).cA (ev R U.Bz)=_;show ev R U.Bz Y s=_;unfold U.Bz;have P:ev R (.seq U.vD (.cond (.t 75) (.seq U.Gq .ret) .skip)) e4 s4=.code .normal e5 s4:=by rw[oA q10,DZ h4];rfl
  rw[lu,oA q6,oA q7,oA q8,oA q9,oA P,oA h5];unfold U.Jq;rw[lu,ho];rfl
 .simp only[EL,EO,ab,ae]at O ⊢;simp[O]
 obtain⟨u,ak,I,h3⟩:=A.we i k v hi;refine⟨u,ak,I,?_⟩
 split at h3<;>omega
def Zg(ok:fz a)(O:aQ a=0)(P:bA x)(C:Oo a x S)(c:∀l:List lJ,l.Nodup->(∀p∈l,pS S p)->l.length<=N)(V:N<=3518437208883)
  (t:WO S [] td H T W L)
  (d:cz s F v7 (td.map eG) ao L [(o5,[.mp oh,.mp ow,iV d0]),(o4,eG (0,[]))] [(oh,eX kL H),(ow,eX kL W),(ot,eX iV T)])
  (k:bB e (EO a x o4 o5 ot v7)){o:Out}(ho:ev R (.loop U.qV) e s=o):
  ∃e' s',o=.code (.exit 0) e' s'/\look e' 5=some (.ptr o5 0):=by
 have exit:∀(e:En) (s:HS) (F:bM) (v7:HV) (ao:aW) (L:cq) (K:de) (Q:List (Ky×List (HV×HV))),cz s F v7 [] ao L K Q->bB e (EO a x o4 o5 ot v7)->∃e',ev R U.qV e s=.code (.exit 0) e' s/\look e' 5=some (.ptr o5 0):=by
  intro e s F v7 ao L K Q d k;obtain⟨X,Y,D,J⟩:=KH d k;refine⟨X,?_,?_⟩
  .unfold U.qV;rw[Fm,oA Y,DZ (by rw[D];rfl)];rfl
  simp only[EO,ab,ae]at J;exact J.2.2.1
 revert o;show∀o,_;refine ajY N
  (λi e s=>∃(F:bM) (v7:HV) (ao:aW) (dn td:List lJ) (H:List (lJ×HV)) (T:List (Int×HV)) (W:List (lJ×HV)) (L:cq) (d0:Int),dn.length=i/\bB e (EO a x o4 o5 ot v7)/\WO S dn td H T W L/\
   cz s F v7 (td.map eG) ao L [(o5,[.mp oh,.mp ow,iV d0]),(o4,eG (0,[]))] [(oh,eX kL H),(ow,eX kL W),(ot,eX iV T)])
  0 (by omega) ⟨F,v7,ao,[],td,H,T,W,L,d0,rfl,k,t,d⟩ ?_ ?_
 .rintro i e s r hi ⟨F,v7,ao,dn,td,H,T,W,L,d0,u,k,t,d⟩ B
  cases td with|nil=>obtain⟨e',b,z⟩:=exit e s F v7 ao L _ _ d k;rw[B]at b;exact .inr ⟨by rw[b];simp,e',s,b,z⟩|cons sp td=>obtain⟨e',s',Z,E,A,I,H',T',W',L',d1,b,z,h3,h4⟩:=Zf ok O P C c V t d k;exact .inl ⟨e',s',by rw[<-B];exact b,Z,E,A,dn++[sp],I,H',T',W',L',d1,by simp[u],z,h3,h4⟩
 rintro e s r ⟨F,v7,ao,dn,td,H,T,W,L,d0,u,k,t,d⟩ B
 cases td with
 |nil=>obtain⟨e',b,z⟩:=exit e s F v7 ao L _ _ d k;rw[B]at b;exact⟨by rw[b];simp,e',s,b,z⟩
 |cons sp td=>
  have:=c _ t.hn (λp M=>by
   rw[<-t.hk]at M;obtain⟨q,hq,rfl⟩:=cU.1 M;exact(t.he q hq).spot)
  simp at this;omega
end
section
variable{s s':HS}{K:de}{Q:List (Ky×List (HV×HV))}
structure iJ(s:HS)(K:de)(Q:List (Ky×List (HV×HV))):Prop where
 k:aI s (λ_=>none) [] K
 mp:∀(a:Nat) o es,Q[a]?=some (o,es)->aj s.h o=some (.mp es)/\o.toNat<s.nx.toNat
 nd:∀(a b:Nat) o es K9,Q[a]?=some (o,es)->Q[b]?=some (o,K9)->a=b
def iJ.start(s:HS):iJ s [] []:=
 ⟨⟨⟨λk i h=>(by cases h),λk i h=>(by cases h),λi v sz ak h=>(by simp at h)⟩,by simp,by simp⟩,by simp,by simp⟩
def iJ.frame(h:iJ s K Q)(b:cV (λ_=>False) s s'):iJ s' K Q:=
 ⟨h.k.frame b,λa o es d=>by
  obtain⟨q,c⟩:=h.mp a o es d;exact⟨by rw[b.2.2.1 o c (λh=>h)];exact q,dJ c b.1⟩,h.nd⟩
def iJ.cL(h:iJ s K Q)(c:ai):iJ {h:=av (some (.cells (cP c) 0 c.length s.nx)) s.nx s.h,nx:=s.nx.succ,gr:=av (some [s.nx]) s.nx s.gr,ty:=s.ty} ((s.nx,c)::K) Q:=
 ⟨h.k.cL c,(h.frame (cV.alloc (s:=s) (.cells (cP c) 0 c.length s.nx) [s.nx])).mp,h.nd⟩
def iJ.NA(h:iJ s K Q)(d:List (HV×HV)):iJ {h:=av (some (.mp d)) s.nx s.h,nx:=s.nx.succ,gr:=s.gr,ty:=s.ty} K ((s.nx,d)::Q):=by
 have z:=Ky.aS s.nx;have u:cV (λ_=>False) s {h:=av (some (.mp d)) s.nx s.h,nx:=s.nx.succ,gr:=s.gr,ty:=s.ty}:=⟨by simp only;omega,rfl,λp A _=>by simp only;rw[af,ar λe=>by subst e;omega],λ_ _ _=>rfl⟩;have t:=h.frame u;refine⟨t.k,λa o es c=>?_,λa b o es r c q=>?_⟩
 .cases a with|zero=>simp at c;obtain⟨rfl,rfl⟩:=c;exact⟨by simp only;rw[af,au rfl],by simp only;omega⟩|succ a=>exact t.mp a o es c
 cases a with
 |zero=>cases b with|zero=>rfl|succ b=>simp at c q;have:=(h.mp b o r q).2;rw[<-c.1]at this;exact(ec _ this).elim
 |succ a=>cases b with|zero=>simp at c q;have:=(h.mp a o es c).2;rw[<-q.1]at this;exact(ec _ this).elim|succ b=>simp at c q;rw[h.nd a b o es r c q]
def iJ.toW(h:iJ s K Q){t:aP}(d:Sz 2 t):cz {h:=av (some (.cells (cP (aD t)) 0 (aD t).length s.nx)) s.nx s.h,nx:=s.nx.succ,gr:=av (some [s.nx]) s.nx s.gr,ty:=s.ty} (λk=>k=s.nx) (.sl s.nx 0 t.length 2) t (λ_=>none) [] K Q:=by
 have r:=Ky.aS s.nx;have u:=cV.alloc (s:=s) (.cells (cP (aD t)) 0 (aD t).length s.nx) [s.nx];have q:=h.frame u;refine⟨q.k,?_,λ_ _=>rfl,λa o c b e=>?_,λa o es b=>?_,h.nd⟩
 .refine cu.toO ⟨d,λk z=>by subst z;simp only;omega,.inr ⟨s.nx,cP (aD t),(aD t).length,s.nx,[],rfl,?_,by rw[ct d];exact aV _,by simp,?_,by simp,by simp,rfl⟩⟩ (by simp)
  .simp only;rw[af,au rfl]
  simp only;rw[af,au rfl]
 .have:=(h.k.bm a o c b).1.2.2;rw[e]at this;exact ec _ this
 obtain⟨A,B⟩:=q.mp a o es b;refine⟨A,B,rfl,λe=>?_⟩;have:=(h.mp a o es b).2;rw[e]at this;exact ec _ this
def iJ.KJ{o:Ky}{es:List (HV×HV)}(h:iJ s K ((o,es)::Q))(q:List (HV×HV)):iJ (s.aJ o (.mp q)) K ((o,q)::Q):=by
 obtain⟨B,C⟩:=h.mp 0 o es rfl;have D:cV (λp=>p=o) s (s.aJ o (.mp q)):=⟨aV _,rfl,λp _ E=>by simp only[HS.aJ];rw[af,ar E],λ_ _ _=>rfl⟩;refine⟨h.k.ug D (λk i I=>by cases I) (λa p c t e=>?_),λa p r t=>?_,λa b p d r t J=>?_⟩
 .have u:=(h.k.bm a p c t).1.1;rw[e,B]at u;cases u
 .cases a with|zero=>simp at t;obtain⟨rfl,rfl⟩:=t;exact⟨by simp only[HS.aJ];rw[af,au rfl],C⟩|succ a=>
   obtain⟨M,O⟩:=h.mp (a+1) p r t;have z:p≠o:=λe=>by subst e;have:=h.nd 0 (a+1) p es r rfl t;omega
   exact⟨by simp only[HS.aJ];rw[af,ar z];exact M,O⟩
 have key:∀(a:Nat) d,((o,q)::Q)[a]?=some (p,d)->∃A,((o,es)::Q)[a]?=some (p,A):=by intro a d u;cases a with|zero=>simp at u;exact⟨es,by simp[u.1]⟩|succ a=>exact⟨d,u⟩
 obtain⟨_,u⟩:=key a d t;obtain⟨_,P⟩:=key b r J;exact h.nd a b p _ _ u P
def iJ.put(h:iJ s K Q){a:Nat}{o:Ky}{c new:ai}(q:K[a]?=some (o,c)){x:HV}(A:cellsOf x=some new)(B:new.length=c.length):∃s',qh c.length (some (.ptr o 0)) (some x) s=.v .undef s'/\iJ s' (K.set a (o,new)) Q:=by
 obtain⟨s',d,C,r,_⟩:=(h.k.bm a o c q).1.put A B;refine⟨s',d,h.k.cell q C r,λb p es D=>?_,h.nd⟩;obtain⟨u,z⟩:=h.mp b p es D;have t:p≠o:=λe=>by subst e;have d:=(h.k.bm a p c q).1.1;rw[u]at d;cases d
 exact⟨by rw[r.2.2.1 p z t];exact u,dJ z r.1⟩
def iJ.afZ{d q t:Ky×List (HV×HV)}(h:iJ s K [d,q,t]):iJ s K [t,q,d]:=by
 have key:∀(a:Nat) r,[t,q,d][a]?=some r->a<=2/\ [d,q,t][2-a]?=some r:=by
  intro a r c
  match a with|0=>exact⟨by omega,c⟩|1=>exact⟨by omega,c⟩|2=>exact⟨by omega,c⟩|a+3=>simp at c
 refine⟨h.k,λa o es c=>h.mp _ o es (key a _ c).2,λa b o es u c z=>?_⟩;obtain⟨C,A⟩:=key a _ c;obtain⟨D,B⟩:=key b _ z;have:=h.nd _ _ o es u A B;omega
end
def af0{a:Ar}{x:Fa}{S:Sn->Prop}{N:Nat}(ok:fz a)(hc:aQ a=0)(hx:bA x)(b:Oo a x S)(c:∀l:List lJ,l.Nodup->(∀p∈l,pS S p)->l.length<=N)(hN:N<=3518437208883)(s:HS):
  ∃o5 s',R (.call 112 [.agg (ib a x)] s)=.val (.cO [.ptr o5 0,.bool true]) s':=by
 have M0:=(iJ.start s).cL (eG (0,[]));generalize d:HS.mk _ _ _ _=h1 at M0;obtain⟨s1,E,I⟩:=M0.put (a:=0) rfl (x:=.agg (eG (0,[]))) (new:=eG (0,[])) rfl rfl;have J:=fZ (l:=eG (0,[])) E rfl rfl;simp only[aO]at I;have c1:=(I.k.bm 0 _ _ rfl).1.1;have A:=I.NA [];have M:=(A.k.bm 0 _ _ rfl).1.1;have B:=Tc (K:=Ii) (f:=kL) (l:=[]) lC nW (A.mp 0 _ _ rfl).1 (0,[]) (.agg [.ah,.bool false,.bool false]);generalize O:HS.mk _ _ _ _=s2 at A M B;have M3:=A.KJ (eX kL (j5 (0,[]) (.agg [.ah,.bool false,.bool false]) []));generalize h4:HS.aJ _ _ _=s3 at M3 B;have M4:=M3.NA [];generalize P:HS.mk _ _ _ _=V at M4;have M5:=M4.cL [.mp s1.nx,.mp s3.nx,iV 0];generalize q:HS.mk _ _ _ _=s5 at M5;have X:=M5.NA [];have C:=Tc (K:=KI) (f:=iV) (l:=[]) sn (λ_=>rfl) (X.mp 0 _ _ rfl).1 0 (.str []);generalize Y:HS.mk _ _ _ _=s6 at X C;have Z:=X.KJ (eX iV (j5 0 (.str []) []));generalize h6:HS.aJ _ _ _=s7 at Z C;have c7:=(Z.k.bm 1 _ _ rfl).1.1;have M8:=Z.afZ.toW (t:=[eG (0,[])]) (Sz.cons rfl Sz.nil);simp only[cj,gS,qE]at M8;generalize u:HS.mk _ _ _ _=s8 at M8;simp only[eG,kL,iV,aB,aC,bn,Nat.reduceAdd]at c1 M B E J d q C c7 u;have hI:WO S [] [(0,[])] (j5 ((0,[]):lJ) (.agg [.ah,.bool false,.bool false]) []) (j5 (0:Int) (.str []) []) [] []:=
  ⟨rfl,by simp,λp hp=>.inl (by simpa[j5,lkp]using hp),λp hp=>⟨AM,b.st,by
   have:p=((0:Int),HV.str []):=by simpa[j5,lkp]using hp
   rw[this];exact⟨rfl,rfl⟩⟩,rfl,λi k v h=>by simp at h⟩
 have hE:∃z s',ev R U.L9 (bc [.agg (ib a x)] 0) s=.code .ret z s'/\look z 2=some (.ptr V.nx 0)/\look z 3=some (.bool true):=by generalize D:ev R U.L9 (bc [.agg (ib a x)] 0) s=r;simp[U.L9,U.Jr,d,E,O,M,B,P,q,Y,C,c7,u,an]at D;generalize ho:ev R (.loop U.qV) _ _=o at D;obtain⟨e9,s9,rfl,h5⟩:=Zg ok hc hx b c hN (o4:=s.nx) (o5:=V.nx) (ot:=s5.nx) hI (d0:=0) (v7:=.sl s7.nx 0 1 2) M8 (by simp) ho;clear ho;simp[h5]at D;subst D;exact⟨_,_,rfl,by simp⟩
 obtain⟨z,s',hE,h2,h3⟩:=hE;exact⟨V.nx,s',adp rfl ⟨.ret,z,s',hE,.inr rfl,by simp[h2,h3]⟩⟩
def spo(y:Sn):lJ:=if y.mn.begun=true then((y.st:Int),oz y.mn)else(0,[])
def KK{S:Sn->Prop}{g:jT}(h0:AM∈g)(c:∀y,S y->y∈g)(l:List lJ)(d:l.Nodup)(k:∀p∈l,pS S p):l.length<=g.length:=by
 have:=sJ (l:=l) (l':=g.map spo) d (λp b=>by
  rcases k p b with rfl|⟨y,q,r,rfl⟩
  .exact cU.2 ⟨AM,h0,rfl⟩
  exact cU.2 ⟨y,c y q,by unfold spo;rw[au r]⟩)
 simpa using this
section
variable{a:Ar}{x:Fa}{N:Nat}{g:Lg}
def af1(ok:fz a)(t:aQ a=0)(u:bA x)(C:rj x)(D:hZ x=x)(E:FK x)(I:x.nx.length<=24)(J:ft a x N=some g)(M:g.l.length<=N)(O:N<=3518437208883)(s:HS):
  ∃o5 s',R (.call 83 [.agg (ib a x)] s)=.val (.cO [.ptr o5 0,iV 0]) s':=by
 have k:=w82 a ok;rw[t]at k;have b:=afP x u C D E I;have A:=Cc u t J M;obtain⟨o5,s',d⟩:=af0 ok t u A (KK A.st (λy P=>P)) (by omega) s;have z:∃q,ev R U.LV (bc [.agg (ib a x)] 0) s=.code .ret q s'/\look q 2=some (.ptr o5 0)/\look q 3=some (iV 0):=by generalize B:ev R U.LV (bc [.agg (ib a x)] 0) s=r;simp only[Ar.c,iV]at k;simp only[Fa.c,iV]at b;simp only[ib]at d;simp[U.LV,k,b,d]at B;subst B;exact⟨_,rfl,by simp[iV]⟩
 obtain⟨q,z,V,X⟩:=z;exact⟨o5,s',ac4 rfl ⟨.ret,q,s',z,.inr rfl,by simp[V,X]⟩⟩
def Ot(ok:fz a)(d:aQ a=0)(k:bA x)(q:rj x)(r:hZ x=x)(t:FK x)(u:x.nx.length<=24)(z:ft a x N=some g)(A:g.l.length<=N)(c:N<=3518437208883)(s:HS):
  R (.call 51 [.agg (ib a x)] s)=.val (iV 0) s:=by
 refine q84 ?_;obtain⟨o5,s',b⟩:=af1 ok d k q r t u z A c s0;simp only[ib]at b;simp[U.b84,b,aa]
end
def zD(m:Mv):Bool:=decide (m.kind=3)==(decide (0<m.id)&&decide (m.arg=0))
def w50(m:Mv)(s:HS):R (.call 35 [.agg m.c] s)=.val (.bool (zD m)) s:=by refine q50 ?_;by_cases h:0<m.id<;>simp[U.b50,h,aa,zD]
def bH(x:Fa)(p:Nat)(m:Mv):Int:=match(cM x p).find? (λe=>decide (e.m=m))with|some e=>e.to|none=> -1
def FX{x:Fa}{p:Nat}{m:Mv}{i:Nat}(b:i<(cM x p).length)(c:(cM x p)[i].m=m)(d:∀j (h:j<(cM x p).length),j<i->¬(cM x p)[j].m=m):bH x p m=((cM x p)[i].to:Int):=by unfold bH;rw[List.find?_eq_some_iff_getElem.2 ⟨by simpa using c,i,b,rfl,λj k=>by simpa using d j (by omega) k⟩]
def FY{x:Fa}{p:Nat}{m:Mv}(h:∀j (h:j<(cM x p).length),¬(cM x p)[j].m=m):bH x p m= -1:=by
 unfold bH;rw[BQ.2 λe b=>by
  obtain⟨j,c,rfl⟩:=eO.1 b;simpa using h j c]
def w90{x:Fa}(X:bA x){p:Nat}(M:p<x.nx.length)(m:Mv)(s:HS):R (.call 55 [.agg x.c,iV p,.agg m.c] s)=.val (iV (bH x p m)) s:=by
 refine q90 ?_;have Y:(p:Int)<x.nx.length:=by omega
 have q:x.nx[p]=cM x p:=(getD_at M _).symm;have O:(cM x p).length<=6000:=by rw[<-q];exact X.row M
 simp[U.b90,M,q];generalize V:bO R (.loop U.Dc) _ _=o;obtain⟨row,C⟩:∃row,row=cM x p:=⟨_,rfl⟩;rw[<-C]at O V;have Z:(∃(i:Nat) (h:i<row.length),row[i].m=m/\(∀j (h:j<row.length),j<i->¬row[j].m=m)/\∃A s',o=.code .ret A s'/\look A 6=some (iV row[i].to))∨((∀j (h:j<row.length),¬row[j].m=m)/\∃A s',o=.code (.exit 0) A s'):=by
  revert o;refine ajX row.length
   (λi e s=>bB e [(5,.aw m.c),(14,.psl (row.map Eg.c)),(15,iV row.length),(16,iV i)]/\∀j (h:j<row.length),j<i->¬row[j].m=m)
   0 (by omega) ⟨by simp,λj _ h=>by omega⟩ ?_ ?_
  .rintro i e s r B ⟨t,I⟩ u
   have D:(i:Int)<row.length:=by omega
   have E:=(iJ.start s).cL (row[i]).c;have d:=(E.k.bm 0 _ _ rfl).1.1;generalize z:HS.mk _ _ _ _=S1 at E d;have b:=ri row[i].m m;have hw:=br B (by omega);simp only[Eg.c,Mv.c,aB,aC,bn,Nat.reduceAdd]at d z b;simp only[ab,ae]at t;by_cases J:row[i].m=m
   .rw[dq J]at b;simp[U.Dc,t,B,D,z,d,aq,aA,an,b]at u;subst u;exact .inr ⟨by simp,.inl ⟨i,B,J,I,_,_,rfl,by simp[iV]⟩⟩
   rw[cK J]at b;simp[U.Dc,t,B,D,z,d,aq,aA,an,b,hw]at u;subst u;refine .inl ⟨_,_,rfl,by simp[t],λj h hj=>?_⟩;by_cases P:j=i
   .subst P;exact J
   exact I j h (by omega)
  rintro e s r ⟨t,I⟩ u
  simp only[ab,ae]at t;simp[U.Dc,t]at u;subst u;exact⟨by simp,.inr ⟨λj h=>I j h h,_,_,rfl⟩⟩
 clear V;subst C;rcases Z with⟨i,B,h1,h2,A,s',rfl,h6⟩|⟨h,A,s',rfl⟩
 .rw[FX B h1 h2];simp[h6,aa]
 rw[FY h];simp[aa]
def fj{x:Fa}(c:bA x){p:Nat}(b:p<x.nx.length)(m:Mv):bH x p m= -1∨∃q:Nat,bH x p m=q/\q<x.nx.length:=by unfold bH;cases h:(cM x p).find? (λe=>decide (e.m=m))with|none=>exact .inl rfl|some e=>refine .inr ⟨e.to,rfl,?_⟩;have:=Ap h;rw[show cM x p=x.nx[p] from getD_at b _]at this;exact c.to _ (cb b) e this
def fm(x:Fa):Nat->Nat->bE->Int×Int
 |p,i,[]=>(p,i)
 |p,i,m::r=>if bH x p m= -1 then(-1,i)else fm x (bH x p m).toNat (i+1) r
def w48{x:Fa}(J:bA x)(l:bE)(Z:l.length<=4611686018427387904)(s:HS):R (.call 34 [.agg x.c,.psl (l.map Mv.c)] s)=.val (.cO [iV (fm x 0 0 l).1,iV (fm x 0 0 l).2]) s:=by
 refine q48 ?_;simp[U.b48];generalize ho:bO R (.loop U.Zs) _ _=o;have M:(∃(i:Nat),fm x 0 0 l=(-1,(i:Int))/\∃t s',o=.code .ret t s'/\look t 4=some (iV (-1))/\look t 5=some (iV i))∨(∃p:Nat,fm x 0 0 l=((p:Int),(l.length:Int))/\∃t s',o=.code (.exit 0) t s'/\look t 4=some (iV p)/\look t 1=some (.psl (l.map Mv.c))):=by
  revert o;refine ajX l.length
   (λi e s=>∃p:Nat,p<x.nx.length/\fm x 0 0 l=fm x p i (l.drop i)/\bB e [(1,.psl (l.map Mv.c)),(2,.aw x.c),(4,iV p),(8,.psl (l.map Mv.c)),(9,iV l.length),(10,iV i)])
   0 (by omega) ⟨0,J.pos,rfl,by simp[iV]⟩ ?_ ?_
  .rintro i e s r I ⟨p,O,d,z⟩ A
   have C:(i:Int)<l.length:=by omega
   have D:=(iJ.start s).cL (l[i]).c;have u:=(D.k.bm 0 _ _ rfl).1.1;generalize B:HS.mk _ _ _ _=S1 at D u;have b:=w90 J O l[i];have hw:=br I Z;have gP:l.drop i=l[i]::l.drop (i+1):=uv I;rw[gP,fm]at d;simp only[Mv.c,aB,aC,bn,Nat.reduceAdd]at u B;simp only[Fa.c,Mv.c,iV]at b;simp only[ab,ae]at z;rcases fj J O l[i]with P|⟨q,P,M⟩
   .rw[P]at b d;rw[au rfl]at d;simp[U.Zs,z,I,C,B,u,aq,aA,an,b]at A;subst A;exact .inr ⟨by simp,.inl ⟨i,d,_,_,rfl,by simp[iV]⟩⟩
   rw[P]at b d;have E:¬(q:Int)= -1:=by omega
   rw[ar E,gD]at d;simp[U.Zs,z,I,C,B,u,aq,aA,an,b,E,hw]at A;subst A;exact .inl ⟨_,_,rfl,q,M,d,by simp[z,iV]⟩
  rintro e s r ⟨p,O,d,z⟩ A
  simp only[ab,ae]at z;simp[U.Zs,z]at A;subst A;rw[EE (aV _),fm]at d;exact⟨by simp,.inr ⟨p,d,_,_,rfl,by simp[z]⟩⟩
 clear ho;rcases M with⟨i,V,t,s',rfl,X,Y⟩|⟨p,V,t,s',rfl,X,Y⟩
 .rw[V];simp[X,Y,aa]
 rw[V];simp[X,Y,aa]
structure y9(mn:Mn)(x:Wk):Prop where
 op:mn.op=x.op.map λn=>x.w.getD n default
 lt:∀n∈x.op,n<x.w.length
 lost:mn.lost=x.lost
 fo:mn.forced=cH x.w
 bg:mn.begun= !x.w.isEmpty
def y9.can{mn:Mn}{x:Wk}(h:y9 mn x)(m:Mv):ir x.a mn m=ju x m:=by
 obtain⟨q,r,u,z,c⟩:=h;unfold ir ju mO;cases gT x.a m
 .simp
 by_cases b:x.w=[]
 .simp[c,b]
 have A:mn.begun=true:=by rw[c];cases B:x.w with|nil=>exact(b B).elim|cons _ _=>rfl
 rw[A,ar b,q,List.getLast?_map];cases C:x.op.getLast? with
 |none=>simp
 |some n=>
  have D:=r n (List.mem_of_getLast? C);simp only[Option.map_some,aX D,KP,gB,u,z,bp,j7];have E:∀t:Mv,vr t m=qq t m:=λt=>by simp[vr,qq,yn,BF,Kx]
  simp only[E];by_cases d:(x.lost||cH x.w)=true
  .simp[d]
  simp only[d];by_cases k:dS m=true
  .simp[k,yn]
  simp[k]
def y9.aft{mn:Mn}{x:Wk}(h:y9 mn x)(m:Mv):y9 (gL mn m) (dL x m):=by
 obtain⟨q,k,r,u,A⟩:=h;have c:cH (x.w++[m])=(dH m&&decide (0<m.arg)):=by simp[cH]
 have t:∀n∈x.op,(x.w++[m]).getD n default=x.w.getD n default:=λn b=>by have:=k n b;simp[KP,dD this]
 unfold gL dL;by_cases d:dS m=true
 .have z:dH m=false:=by simp only[dS,bY]at d;simp only[dH,zV];omega
  rw[au d,au d];refine⟨?_,λn b=>?_,r,by simp[c,z],by simp⟩
  .simp only[eU,bX,lO,q]
   congr 1
   .exact(Fv t).symm
   simp[KP]
  simp only[l5,cr]at b;simp only[bZ,dB];rcases b with b|b
  .have:=k n b;omega
  omega
 rw[ar d,ar d];refine⟨?_,λn b=>?_,by simp[r,u],by simp[c],by simp⟩
 .simp only[q,List.map_dropLast];exact(ch List.dropLast (Fv t)).symm
 have:=k n ((BM _).subset b);simp only[bZ,dB];omega
def y9.start(a:Ar):y9 ⟨[],false,false,false⟩ (tU a):=⟨rfl,by simp[tU],rfl,rfl,rfl⟩
def G3{a:Ar}{x:Fa}{S:Sn->Prop}(W:Oo a x S):∀(v:bE) (i:Nat) (y:Sn) (k:Wk),S y->y9 y.mn k->k.a=a->(fm x y.st i v).1≠ -1->
  ∃b,S b/\y9 b.mn (gn k v).1/\(gn k v).2=v.length/\(fm x y.st i v).1=(b.st:Int)
 |[],i,y,k,c,d,t,h=>⟨y,c,d,rfl,rfl⟩
 |m::r,i,y,k,c,d,t,h=>by
  unfold fm at h ⊢;by_cases u:bH x y.st m= -1
  .rw[au u]at h;exact(h rfl).elim
  rw[ar u]at h ⊢;cases q:(cM x y.st).find? (λe=>decide (e.m=m))with
  |none=>exact(u (by unfold bH;rw[q])).elim
  |some e=>
   have A:=Ap q;have B:e.m=m:=by simpa using KL q
   have z:bH x y.st m=e.to:=by unfold bH;rw[q]
   rw[z,gD]at h ⊢;have C:ju k m=true:=by rw[<-d.can,t,<-B];exact W.can y c e A
   obtain⟨b,D,E,I,J⟩:=G3 W r (i+1) ⟨e.to,gL y.mn m⟩ (dL k m) (by rw[<-B];exact W.Nk y c e A) (d.aft m) (by rw[BL,t]) h;refine⟨b,D,?_,?_,J⟩
   .unfold gn;rw[au C];exact E
   unfold gn;rw[au C];simp[I]
def uh(a b:Bs):pW ⟨true,[1,0]⟩ (.agg a.c) (.agg b.c)=some (decide (a=b)):=by simp only[Bs.c];rw[ahe _ _ _ rfl rfl,dy _ _ _ _ _ _ (JL ..) (dy _ _ _ _ _ _ (eA ..) ahd)];obtain⟨c,n⟩:=a;obtain⟨d,k⟩:=b;cases c<;>cases d<;>simp
def af2(l l':se)(M:l.length<=4611686018427387904)(s:HS):R (.call 85 [.psl (l.map Bs.c),.psl (l'.map Bs.c)] s)=.val (.bool (decide (l=l'))) s:=by
 refine ac6 ?_;by_cases B:l.length=l'.length
 case neg=>
  rw[cK (λh=>B (by rw[h]))];have C:¬(l.length:Int)=l'.length:=by omega
  simp[U.Qa,C,aa]
 simp[U.Qa,B.symm];generalize I:bO R (.loop U.w6) _ _=o;have O:=jd I l.length (λi=>∀(D:i<l.length) (J:i<l'.length),l[i]=l'[i]) (λi=>[(0,.psl (l.map Bs.c)),(1,.psl (l'.map Bs.c)),(12,iV l.length),(13,iV i)]) [] 0 (λ_ o=>∃z,o=.code .ret z s0/\look z 4=some (.bool false)) (by simp[iV])
  (λi e r q d k=>by
   have t:(i:Int)<l.length:=by omega
   have E:i<l'.length:=by omega
   have P:(i:Int)<l'.length:=by omega
   have b:=uh l[i] l'[i];simp only[Bs.c]at b;simp only[ab,ae]at d;by_cases A:l[i]=l'[i]
   .rw[dq A]at b;simp[U.w6,d,q,t,E,b,br q M]at k;subst k;exact .inl ⟨λ_ _=>A,_,rfl,by simp[d]⟩
   rw[cK A]at b;simp[U.w6,d,q,t,E,b]at k;subst k;exact .inr ⟨λh=>A (h q E),by simp,_,rfl,by simp⟩)
  (λe r d k=>by
   simp only[ab,ae]at d;simp[U.w6,d]at k;subst k;exact⟨_,rfl,by simp⟩)
 clear I;rcases O with⟨i,q,_,V,z,rfl,X⟩|⟨u,z,rfl,d⟩
 .rw[cK (λh=>V (by subst h;exact λ_ _=>rfl))];simp[X,aa]
 rw[dq (iI B (λi D J=>u i D D J))];simp[aa]
def af3(t u:Ty)(q:t.ps.length<=4611686018427387904)(s:HS):R (.call 84 [.agg t.c,.agg u.c] s)=.val (.bool (decide (t=u))) s:=by
 refine ac5 ?_;have d:=af2 t.ps u.ps q;have b:=uh t.res u.res;have z:decide (t=u)=(decide (t.res=u.res)&&decide (t.ps=u.ps)):=by obtain⟨p,r⟩:=t;obtain⟨A,B⟩:=u;simp[Bool.and_comm]
 simp only[Bs.c]at b;rw[z];by_cases k:t.res=u.res
 .rw[dq k]at b ⊢;simp[U.P9,b,d,aa]
 rw[cK k]at b ⊢;simp[U.P9,b,aa]
def w67(t u:Ty)(P:t.ps.length<=4611686018427387904)(s:HS):R (.call 17 [.agg t.c,.agg u.c] s)=.val (.bool (decide (t=u))) s:=by
 refine q67 ?_;have b:=uh t.res u.res;simp only[Bs.c]at b;by_cases C:t.ps.length=u.ps.length
 case neg=>
  rw[cK (λh=>C (by rw[h]))];have I:¬(t.ps.length:Int)=u.ps.length:=by omega
  simp[U.ZL,I,aa]
 by_cases d:t.res=u.res
 case neg=>rw[cK (λh=>d (by rw[h]))];rw[cK d]at b;simp[U.ZL,C,b,aa]
 rw[dq d]at b;simp[U.ZL,C.symm,b];generalize M:bO R (.loop U.C8) _ _=o;have V:=jd M t.ps.length (λi=>∀(q:i<t.ps.length) (O:i<u.ps.length),t.ps[i]=u.ps[i]) (λi=>[(2,.aw t.c),(3,.aw u.c),(5,iV i)]) [] 0 (λ_ o=>∃D,o=.code .ret D s0/\look D 4=some (.bool false)) (by simp[iV])
  (λi e r z k d=>by
   have A:(i:Int)<t.ps.length:=by omega
   have J:i<u.ps.length:=by omega
   have X:(i:Int)<u.ps.length:=by omega
   have b:=uh t.ps[i] u.ps[i];simp only[Bs.c]at b;simp only[ab,ae]at k;by_cases E:t.ps[i]=u.ps[i]
   .rw[dq E]at b;simp[U.C8,k,z,A,J,b,br z P]at d;subst d;exact .inl ⟨λ_ _=>E,_,rfl,by simp[k]⟩
   rw[cK E]at b;simp[U.C8,k,z,A,J,b]at d;subst d;exact .inr ⟨λh=>E (h z J),by simp,_,rfl,by simp⟩)
  (λe r k d=>by
   simp only[ab,ae]at k;simp[U.C8,k]at d;subst d;exact⟨_,rfl,by simp⟩)
 clear M;rcases V with⟨i,z,_,Y,D,rfl,Z⟩|⟨B,D,rfl,k⟩
 .rw[cK (λh=>Y (by subst h;exact λ_ _=>rfl))];simp[Z,aa]
 have q:=iI C (λi q O=>B i q q O);rw[dq (show t=u by obtain⟨p,r⟩:=t;obtain⟨p',r'⟩:=u;simp only at q d;rw[q,d])];simp[aa]
def w30(a b:Ar)(ok:fz a)(s:HS):R (.call 5 [.agg a.c,.agg b.c] s)=.val (.bool (decide (a=b))) s:=by
 refine q30 ?_;have d:=uh a.root b.root;simp only[Bs.c]at d;have hl:=ok.1;by_cases C:a.ids.length=b.ids.length
 case neg=>
  rw[cK (λh=>C (by rw[h]))];have M:¬(a.ids.length:Int)=b.ids.length:=by omega
  simp[U.Vv,M,aa]
 by_cases k:a.root=b.root
 case neg=>rw[cK (λh=>k (by rw[h]))];rw[cK k]at d;simp[U.Vv,C,d,aa]
 rw[dq k]at d;by_cases z:a.jumps=b.jumps
 case neg=>
  rw[cK (λh=>z (by rw[h]))];have O:(a.jumps != b.jumps)=true:=by simpa using z
  simp[U.Vv,C,d,O,aa]
 simp[U.Vv,C.symm,d,z.symm];generalize V:bO R (.loop U.C7) _ _=o;have Y:=jd V a.ids.length (λi=>∀(A:i<a.ids.length) (X:i<b.ids.length),a.ids[i]=b.ids[i]) (λi=>[(2,.aw a.c),(3,.aw b.c),(5,iV i)]) [] 0 (λ_ o=>∃I,o=.code .ret I s0/\look I 4=some (.bool false)) (by simp[iV,z])
  (λi e r B u k=>by
   have D:(i:Int)<a.ids.length:=by omega
   have P:i<b.ids.length:=by omega
   have Z:(i:Int)<b.ids.length:=by omega
   have t:=w67 a.ids[i] b.ids[i] (by have:=ok.2 _ (cb B);omega);simp only[Ty.c]at t;simp only[ab,ae]at u;by_cases J:a.ids[i]=b.ids[i]
   .rw[dq J]at t;simp[U.C7,u,B,D,P,t,br B (by omega)]at k;subst k;exact .inl ⟨λ_ _=>J,_,rfl,by simp[u]⟩
   rw[cK J]at t;simp[U.C7,u,B,D,P,t]at k;subst k;exact .inr ⟨λh=>J (h B P),by simp,_,rfl,by simp⟩)
  (λe r u k=>by
   simp only[ab,ae]at u;simp[U.C7,u]at k;subst k;exact⟨_,rfl,by simp⟩)
 clear V;rcases Y with⟨i,B,_,hb,I,rfl,h4⟩|⟨E,I,rfl,u⟩
 .rw[cK (λh=>hb (by subst h;exact λ_ _=>rfl))];simp[h4,aa]
 have A:=iI C (λi A X=>E i A A X);rw[dq (show a=b by obtain⟨p,r,q⟩:=a;obtain⟨p',r',q'⟩:=b;simp only at A k z;rw[A,k,z])];simp[aa]
end Go.Proofs.YtcfbbbjhnaienaaGreatDoor.K.Hm.S
