/- PactBlame returns true for every pact and word, part 6. -/
import Derived.Test.YtepamfbheocmhaaGreatDoorCae
import Derived.Test.YtepamfbheocmhaaGreatDoorCad
import Derived.Test.YtepamfbheocmhaaGreatDoorCac
import Derived.Test.YtepamfbheocmhaaGreatDoorCab
import Derived.ReadAgain
import Derived.ChangeArms
import Derived.ChangeShapes
import GoSem.ClaimWide
import GoSem.ClaimJoined
import Derived.Test.YtepamfbheocmhaaGreatDoorProg
set_option linter.all false
open List renaming length_cons->az,length_nil->aE,cons_append->bx,nil_append->bA,set_cons_succ->cd,set_cons_zero->aQ,length_singleton->dx,sum_cons->Fm,sum_nil->TV,take_succ_cons->Bq
open Option renaming getD_some->hU
open Int renaming toNat_natCast->hY
set_option maxRecDepth 10000
noncomputable section
namespace Go.Proofs.YtepamfbheocmhaaGreatDoor.K.Hm.S
open Go
section
variable{a:Ar}{x:Fa}{S:Sn->Prop}{o4 o5 ot o8 o9 oh ow:Ky}{v7 dp:HV}{row:bq}{j N:Nat}{e:En}{s:HS}{F:bU}{av:aZ}{L:cE}{sp:kh}{dn td:List kh}{H W:List (kh×HV)}{T:List (Int×HV)}
def ZP(ok:dW a)(J:aI a=0)(M:cf x)(G:Oq a x S)(v:∀l:List kh,l.Nodup->(∀p∈l,pD S p)->l.length<=N)(O:N<=3518437208883)
  {y:Sn}(V:S y){w:HV}{fo lo:Bool}(X:la sp y w fo lo)(z:row=dj x y.st)(I:row.length<=6000)
  (A:WI S dn td H T W L sp 0)
  (C:ct s F v7 (td.map ez) av L [(o9,[w,.bool fo,.bool lo]),(o8,ez sp),(o5,[.mp oh,.mp ow,dp]),(o4,ez (0,[]))] [(oh,gq j4 H),(ow,gq j4 W),(ot,gq iV T)])
  (h:bH e (EL a x o4 o5 ot o8 o9 v7 row 0)){o:Out}(Y:ev R (.loop U.sP) e s=o):
  ∃e' s' D d b f m n q u,o=.code (.exit 2) e' s'/\bH e' (EL a x o4 o5 ot o8 o9 d row row.length)/\WI S dn f m n q u sp row.length/\
   ct s' D d (f.map ez) b u [(o9,[w,.bool fo,.bool lo]),(o8,ez sp),(o5,[.mp oh,.mp ow,dp]),(o4,ez (0,[]))] [(oh,gq j4 m),(ow,gq j4 q),(ot,gq iV n)]:=by
 refine eU Y row.length
  (λj e s=>∃(F:bU) (v7:HV) (av:aZ) (td:List kh) (H:List (kh×HV)) (T:List (Int×HV)) (W:List (kh×HV)) (L:cE),bH e (EL a x o4 o5 ot o8 o9 v7 row j)/\WI S dn td H T W L sp j/\
   ct s F v7 (td.map ez) av L [(o9,[w,.bool fo,.bool lo]),(o8,ez sp),(o5,[.mp oh,.mp ow,dp]),(o4,ez (0,[]))] [(oh,gq j4 H),(ow,gq j4 W),(ot,gq iV T)])
  (λo=>∃e' s' D d b f m n q u,o=.code (.exit 2) e' s'/\bH e' (EL a x o4 o5 ot o8 o9 d row row.length)/\WI S dn f m n q u sp row.length/\
   ct s' D d (f.map ez) b u [(o9,[w,.bool fo,.bool lo]),(o8,ez sp),(o5,[.mp oh,.mp ow,dp]),(o4,ez (0,[]))] [(oh,gq j4 m),(ow,gq j4 q),(ot,gq iV n)])
  0 (by omega) ⟨F,v7,av,td,H,T,W,L,h,A,C⟩
  (λj e s r Z ⟨F,v7,av,td,H,T,W,L,h,A,C⟩ E=>by
   obtain⟨e',s',D,d,b,f,m,n,q,u,h1,h2,h3,h4⟩:=ZO ok J M G v O V X z I (aR Z) A C h;exact .inl ⟨e',s',by rw[<-E];exact h1,D,d,b,f,m,n,q,u,h2,h3,h4⟩)
  (λe s r ⟨F,v7,av,td,H,T,W,L,h,A,C⟩ E=>by
   have h5:=h;simp only[EL,ab,ae]at h;simp[U.sP,h]at E;subst E;exact⟨by simp,_,_,F,v7,av,td,H,T,W,L,rfl,by simp[h],A,C⟩)
@[simp]def EO(a:Ar)(x:Fa)(o4 o5 ot:Ky)(v7:HV):List (Nat×HV):=[(1,.aw (gu a x)),(4,.ptr o4 0),(5,.ptr o5 0),(6,.mp ot),(7,v7)]
variable{aq:aO}{K:dv}{Q:List (Ky×List (HV×HV))}
def KK(f:ct s F v7 aq av L K Q)(b:bH e (EO a x o4 o5 ot v7)):
  ∃e',ev R U.Ew e s=.code .normal e' s/\look e' 35=some (.bool (decide (0<aq.length)))/\bH e' (EO a x o4 o5 ot v7):=by
 have h:=f.q.len (s1:=s);generalize d:ev R U.Ew e s=r;simp only[EO,ab,ae]at b;simp[b,h]at d;subst d;exact⟨_,rfl,by simp[b]⟩
def TQ{p:kh}{aq:aO}(m:ct s F v7 (ez p::aq) av L K Q)(h:bH e (EO a x o4 o5 ot v7)):
  ∃e' s' o8,ev R U.Ey e s=.code .normal e' s'/\bH e' (EO a x o4 o5 ot v7++[(8,.ptr o8 0)])/\ct s' F v7 (ez p::aq) av L ((o8,ez p)::K) Q:=by
 obtain⟨A,v,z,C,n⟩:=m.q.head;have l:=z .i64;have b:=m.ds (ez p);have d:=(b.k.bD 0 _ _ rfl).1.1;generalize f:HS.mk _ _ _ _=D at b d;simp only[ez,iV,az,aE,bF,Nat.reduceAdd]at f d n;generalize u:ev R U.Ey e s=r;simp only[EO,ab,ae]at h;simp[h,l,n,f,ai,an]at u;subst u;exact⟨_,_,s.nx,rfl,by simp[h],b⟩
def TR{p:kh}{aq:aO}(n:ct s F v7 (ez p::aq) av L K Q)(f:bH e (EO a x o4 o5 ot v7++[(8,.ptr o8 0)])):
  ∃e' b,ev R U.Ez e s=.code .normal e' s/\bH e' (EO a x o4 o5 ot b++[(8,.ptr o8 0)])/\ct s F b aq av L K Q:=by
 obtain⟨l,h,q⟩:=n.ZL (e:=e);have h:C1 (some v7) (λ_=>some 1) (λd=>some d) none 2 s=.v l s:=h;generalize m:ev R U.Ez e s=r;simp only[EO,bx,bA,ab,ae]at f;simp[f,h]at m;subst m;exact⟨_,l,rfl,by simp[f],q⟩
def TS{w:HV}{fo lo:Bool}(h:ct s F v7 aq av L [(o8,ez sp),(o5,[.mp oh,.mp ow,dp]),(o4,ez (0,[]))] Q)(C:Q[0]?=some (oh,gq j4 H))(D:lkp sp H=some (.agg [w,.bool fo,.bool lo]))(J:cellsOf w=some [w])
  (n:bH e (EO a x o4 o5 ot v7++[(8,.ptr o8 0)])):
  ∃e' s' o9,ev R U.EA e s=.code .normal e' s'/\bH e' (EO a x o4 o5 ot v7++[(8,.ptr o8 0),(9,.ptr o9 0)])/\ct s' F v7 aq av L [(o9,[w,.bool fo,.bool lo]),(o8,ez sp),(o5,[.mp oh,.mp ow,dp]),(o4,ez (0,[]))] Q:=by
 have E:=(h.k.bD 0 _ _ rfl).1.1;have G:=(h.k.bD 1 _ _ rfl).1.1;have p:=ZI (K:=H2) kZ nL (h.mp 0 _ _ C).1 sp (.agg [.ah,.bool false,.bool false]);rw[D]at p;have b:=h.ds [.ah,.bool false,.bool false];have q:=(b.k.bD 1 _ _ rfl).1.1;have u:=(b.k.bD 2 _ _ rfl).1.1;have m:=ZI (K:=H2) kZ nL (b.mp 0 _ _ C).1 sp (.agg [.ah,.bool false,.bool false]);rw[D]at m;generalize d:HS.mk _ _ _ _=Sz at b q u m;have f:cellsOf (.agg [w,.bool fo,.bool lo])=some [w,.bool fo,.bool lo]:=by simp[cellsOf]
 obtain⟨M,v,z⟩:=b.put (a:=0) rfl (x:=.agg [w,.bool fo,.bool lo]) f rfl;have A:=gU (l:=[w,.bool fo,.bool lo]) v f rfl;simp only[ez,j4,iV,hU,az,aE,bF,Nat.reduceAdd]at E G p q u m d v A;generalize I:ev R U.EA e s=r;simp only[EO,bx,bA,ab,ae]at n;simp[n,E,G,p,d,q,u,m,v,ao]at I;subst I;exact⟨_,_,_,rfl,by simp[n],z⟩
end
def la.pl{sp:kh}{y:Sn}{w:HV}{fo lo:Bool}(h:la sp y w fo lo):sp.1=(y.st:Int):=by rcases h with⟨rfl,rfl,_⟩|⟨_,rfl,_⟩<;>rfl
def la.len{sp:kh}{y:Sn}{w:HV}{fo lo:Bool}{s:HS}(h:la sp y w fo lo):xh 0 (some w) s=.v (iV y.mn.op.length) s:=by
 rcases h with⟨_,rfl,rfl,_⟩|⟨_,_,rfl,_⟩
 .rfl
 simp[iV]
def la.cell{sp:kh}{y:Sn}{w:HV}{fo lo:Bool}(h:la sp y w fo lo):cellsOf w=some [w]:=by rcases h with⟨_,_,rfl,_⟩|⟨_,_,rfl,_⟩<;>rfl
section
variable{a:Ar}{x:Fa}{o4 o5 ot o8 o9 oh ow:Ky}{v7:HV}{e:En}{s:HS}{F:bU}{av:aZ}{L:cE}{sp:kh}{aq:aO}{Q:List (Ky×List (HV×HV))}{y:Sn}{w:HV}{fo lo:Bool}{d0:Int}
def TT(u:la sp y w fo lo)(f:ct s F v7 aq av L [(o9,[w,.bool fo,.bool lo]),(o8,ez sp),(o5,[.mp oh,.mp ow,iV d0]),(o4,ez (0,[]))] Q)
  (h:bH e (EO a x o4 o5 ot v7++[(8,.ptr o8 0),(9,.ptr o9 0)])):
  ∃e' s' v,ev R U.EB e s=.code .normal e' s'/\bH e' (EO a x o4 o5 ot v7++[(8,.ptr o8 0),(9,.ptr o9 0)])/\ct s' F v7 aq av L [(o9,[w,.bool fo,.bool lo]),(o8,ez sp),(o5,[.mp oh,.mp ow,iV v]),(o4,ez (0,[]))] Q:=by
 have n:=(f.k.bD 0 _ _ rfl).1.1;have p:=(f.k.bD 2 _ _ rfl).1.1;have b:=λs=>u.len (s:=s)
 obtain⟨z,l,d⟩:=f.xV (a:=2) rfl 2 (by simp) (x:=iV (max d0 y.mn.op.length)) rfl;have m:=gT l rfl;simp only[cd,aQ]at d;simp only[iV,az,aE,bF,Nat.reduceAdd]at n p l m b;generalize q:ev R U.EB e s=r;simp only[EO,bx,bA,ab,ae]at h;simp[h,n,p,l,b]at q;subst q;exact⟨_,_,_,rfl,by simp[h],d⟩
def NG(q:la sp y w fo lo)(D:y.st<x.nx.length)(E:x.nx.length=x.fi.length)(v:x.fi.getD y.st false=true->y.mn.over=true)(u:ct s F v7 aq av L [(o9,[w,.bool fo,.bool lo]),(o8,ez sp),(o5,[.mp oh,.mp ow,iV d0]),(o4,ez (0,[]))] Q)
  (m:bH e (EO a x o4 o5 ot v7++[(8,.ptr o8 0),(9,.ptr o9 0)])):
  ∃e',ev R U.uO e s=.code .normal e' s/\look e' 75=some (.bool false)/\bH e' (EO a x o4 o5 ot v7++[(8,.ptr o8 0),(9,.ptr o9 0)]):=by
 have z:=(u.k.bD 0 _ _ rfl).1.1;have n:=(u.k.bD 1 _ _ rfl).1.1;have A:=(u.k.bD 3 _ _ rfl).1.1;have f:=λs=>q.len (s:=s)
 have G:=q.pl;have h:y.st<x.fi.length:=by omega
 have C:(y.st:Int)<x.fi.length:=by omega
 have I:=q.zero;have b:ql H2 (.agg [iV sp.1,.str sp.2]) (.agg [iV 0,.str []])=some (!y.mn.begun):=by rw[<-I];exact kZ sp (0,[])
 rw[getD_at h]at v;simp only[ez,iV,az,aE,bF,Nat.reduceAdd]at z n A f b;rw[G]at n b;generalize p:ev R U.uO e s=r;simp only[EO,bx,bA,ab,ae]at m;cases l:x.fi[y.st]with|false=>simp[m,n,h,l]at p;subst p;exact⟨_,rfl,by simp[m]⟩|true=>have d:=v l;unfold Mn.over at d;simp only[aL,bX]at d;rw[d.1]at b;rw[d.2]at f;simp[m,z,n,A,h,l,f,b,ao]at p;subst p;exact⟨_,rfl,by simp[m]⟩
def NH(n:la sp y w fo lo)(b:y.st<x.nx.length)(p:ct s F v7 aq av L [(o9,[w,.bool fo,.bool lo]),(o8,ez sp),(o5,[.mp oh,.mp ow,iV d0]),(o4,ez (0,[]))] Q)
  (f:bH e (EO a x o4 o5 ot v7++[(8,.ptr o8 0),(9,.ptr o9 0)])):
  ∃e',ev R U.AS e s=.code .normal e' s/\bH e' (EL a x o4 o5 ot o8 o9 v7 (dj x y.st) 0):=by
 have h:=(p.k.bD 1 _ _ rfl).1.1;have q:=n.pl;have l:(y.st:Int)<x.nx.length:=by omega
 have d:dj x y.st=x.nx[y.st]:=getD_at b _;simp only[ez,iV,az,aE,bF,Nat.reduceAdd]at h;rw[q]at h;generalize m:ev R U.AS e s=r;simp only[EO,bx,bA,ab,ae]at f;simp[f,h,b]at m;subst m;exact⟨_,rfl,by simp[f,d]⟩
end
structure WO(S:Sn->Prop)(dn td:List kh)(H:List (kh×HV))(T:List (Int×HV))(W:List (kh×HV))(L:cE):Prop where
 hk:H.map Prod.fst=dn++td
 hn:(dn++td).Nodup
 he:∀p∈H,GJ S p
 te:∀p∈T,∃y,S y/\p.1=(y.st:Int)/\p.2=.str (qU y.mn.op)
 wl:W.length=L.length
 we:∀(i:Nat) k v,W[i]?=some (k,v)->k∈dn/\∃aq,L[i]?=some (v,6,aq)/\aq.length<=6000
section
variable{a:Ar}{x:Fa}{S:Sn->Prop}{o4 o5 ot oh ow:Ky}{v7:HV}{N:Nat}{e:En}{s:HS}{F:bU}{av:aZ}{L:cE}{dn td:List kh}{H W:List (kh×HV)}{T:List (Int×HV)}{d0:Int}
def ZQ(ok:dW a)(hc:aI a=0)(V:cf x)(b:Oq a x S)(A:∀l:List kh,l.Nodup->(∀p∈l,pD S p)->l.length<=N)(hN:N<=3518437208883){sp:kh}
  (d:WO S dn (sp::td) H T W L)
  (hM:ct s F v7 ((sp::td).map ez) av L [(o5,[.mp oh,.mp ow,iV d0]),(o4,ez (0,[]))] [(oh,gq j4 H),(ow,gq j4 W),(ot,gq iV T)])
  (hL:bH e (EO a x o4 o5 ot v7)):
  ∃e' s' F' f C D H' T' W' L' X,ev R U.qC e s=.code .normal e' s'/\bH e' (EO a x o4 o5 ot f)/\WO S (dn++[sp]) D H' T' W' L'/\
   ct s' F' f (D.map ez) C L' [(o5,[.mp oh,.mp ow,iV X]),(o4,ez (0,[]))] [(oh,gq j4 H'),(ow,gq j4 W'),(ot,gq iV T')]:=by
 obtain⟨Y,q5,q,L0⟩:=KK hM hL;have q:look Y 35=some (.bool true):=by rw[q];simp
 obtain⟨e1,s1,o8,q6,L1,M1⟩:=TQ hM L0;obtain⟨e2,v2,q7,L2,M2⟩:=TR M1 L1;have Z:sp∈H.map Prod.fst:=by rw[d.hk];simp
 obtain⟨v,hv⟩:∃v,lkp sp H=some v:=by cases h:lkp sp H with|none=>exact(yt.1 h Z).elim|some v=>exact⟨v,rfl⟩
 obtain⟨y,w,fo,lo,hy,rfl,E⟩:∃y w fo lo,S y/\v=.agg [w,.bool fo,.bool lo]/\la sp y w fo lo:=by
  rcases d.he _ (vt hv)with h|⟨z,r,G,h⟩
  .exact⟨Ab,.ah,false,false,b.st,cC Prod.snd h,.inl ⟨cC Prod.fst h,rfl,rfl,rfl,rfl⟩⟩
  exact⟨z,_,_,_,r,cC Prod.snd h,.inr ⟨G,cC Prod.fst h,rfl,rfl,rfl⟩⟩
 have m:=b.pl y hy;obtain⟨e3,s3,o9,q8,L3,M3⟩:=TS M2 rfl hv E.cell L2;obtain⟨e4,s4,X,q9,L4,M4⟩:=TT E M3 L3;obtain⟨e5,q10,h4,L5⟩:=NG E m V.nf (b.fin y hy) M4 L4;obtain⟨e6,h5,L6⟩:=NH E m M4 L5;have h6:(dj x y.st).length<=6000:=by rw[show dj x y.st=x.nx[y.st] from getD_at m _];exact V.row m
 have h7:(dn++[sp]++td).Nodup:=by simpa using d.hn
 have I:sp ∉ dn:=by intro h;have:=AF.1 d.hn;exact this.2.2 sp h sp (by simp) rfl
 have h8:WI S (dn++[sp]) td H T W L sp 0:=⟨by rw[d.hk];simp,h7,d.he,d.te,d.wl,λi k v hi=>by
  obtain⟨r,aq,G,h3⟩:=d.we i k v hi;refine⟨Au _ r,aq,G,?_⟩;rw[au λe=>I (by rw[<-e];exact r)];exact h3,by simp⟩
 generalize ho:ev R (.loop U.sP) e6 s4=o;obtain⟨e7,s7,F7,f,J,h9,H7,T7,W7,L7,rfl,M,u,M7⟩:=ZP ok hc V b A hN hy E rfl h6 h8 M4 L6 ho;refine⟨e7,s7,F7,f,J,h9,H7,T7,W7,L7,X,?_,?_,⟨u.hk,u.hn,u.he,u.te,u.wl,λi k v hi=>?_⟩,M7.tail (n:=2)⟩
 .unfold U.qC;rw[EK,ub q5,KH q];show(Out.code .normal Y s).bY (ev R U.A0)=_;show ev R U.A0 Y s=_;unfold U.A0;have O:ev R (.seq U.uO (.cond (.t 75) (.seq U.FX .ret) .skip)) e4 s4=.code .normal e5 s4:=by rw[ub q10,GI h4];rfl
  rw[w5,ub q6,ub q7,ub q8,ub q9,ub O,ub h5];unfold U.Jq;rw[w5,ho];rfl
 .simp only[EL,EO,ab,ae]at M ⊢;simp[M]
 obtain⟨r,aq,G,h3⟩:=u.we i k v hi;refine⟨r,aq,G,?_⟩
 split at h3<;>omega
def ZR(ok:dW a)(J:aI a=0)(M:cf x)(A:Oq a x S)(d:∀l:List kh,l.Nodup->(∀p∈l,pD S p)->l.length<=N)(O:N<=3518437208883)
  (m:WO S [] td H T W L)
  (f:ct s F v7 (td.map ez) av L [(o5,[.mp oh,.mp ow,iV d0]),(o4,ez (0,[]))] [(oh,gq j4 H),(ow,gq j4 W),(ot,gq iV T)])
  (h:bH e (EO a x o4 o5 ot v7)){o:Out}(V:ev R (.loop U.qC) e s=o):
  ∃e' s',o=.code (.exit 0) e' s'/\look e' 5=some (.ptr o5 0):=by
 have exit:∀(e:En) (s:HS) (F:bU) (v7:HV) (av:aZ) (L:cE) (K:dv) (Q:List (Ky×List (HV×HV))),ct s F v7 [] av L K Q->bH e (EO a x o4 o5 ot v7)->∃e',ev R U.qC e s=.code (.exit 0) e' s/\look e' 5=some (.ptr o5 0):=by
  intro e s F v7 av L K Q f h;obtain⟨X,Y,C,G⟩:=KK f h;refine⟨X,?_,?_⟩
  .unfold U.qC;rw[EK,ub Y,GI (by rw[C];rfl)];rfl
  simp only[EO,ab,ae]at G;exact G.2.2.1
 refine eU V N
  (λi e s=>∃(F:bU) (v7:HV) (av:aZ) (dn td:List kh) (H:List (kh×HV)) (T:List (Int×HV)) (W:List (kh×HV)) (L:cE) (d0:Int),dn.length=i/\bH e (EO a x o4 o5 ot v7)/\WO S dn td H T W L/\
   ct s F v7 (td.map ez) av L [(o5,[.mp oh,.mp ow,iV d0]),(o4,ez (0,[]))] [(oh,gq j4 H),(ow,gq j4 W),(ot,gq iV T)])
  (λo=>∃e' s',o=.code (.exit 0) e' s'/\look e' 5=some (.ptr o5 0))
  0 (by omega) ⟨F,v7,av,[],td,H,T,W,L,d0,rfl,h,m,f⟩
  (λi e s r hi ⟨F,v7,av,dn,td,H,T,W,L,d0,n,h,m,f⟩ z=>by
   cases td with
   |nil=>obtain⟨e',b,u⟩:=exit e s F v7 av L _ _ f h;rw[z]at b;exact .inr ⟨by rw[b];simp,e',s,b,u⟩
   |cons sp td=>
    obtain⟨e',s',Z,D,v,E,H',T',W',L',d1,b,u,h3,h4⟩:=ZQ ok J M A d O m f h;exact .inl ⟨e',s',by rw[<-z];exact b,Z,D,v,dn++[sp],E,H',T',W',L',d1,by simp[n],u,h3,h4⟩)
  (λe s r ⟨F,v7,av,dn,td,H,T,W,L,d0,n,h,m,f⟩ z=>by
   cases td with
   |nil=>obtain⟨e',b,u⟩:=exit e s F v7 av L _ _ f h;rw[z]at b;exact⟨by rw[b];simp,e',s,b,u⟩
   |cons sp td=>
    have:=d _ m.hn (λp I=>by
     rw[<-m.hk]at I;obtain⟨q,hq,rfl⟩:=dt.1 I;exact(m.he q hq).spot)
    simp at this;omega)
end
section
variable{s s':HS}{K:dv}{Q:List (Ky×List (HV×HV))}
structure ja(s:HS)(K:dv)(Q:List (Ky×List (HV×HV))):Prop where
 k:aG s (λ_=>none) [] K
 mp:∀(a:Nat) o es,Q[a]?=some (o,es)->ak s.h o=some (.mp es)/\o.toNat<s.nx.toNat
 nd:∀(a b:Nat) o es KY,Q[a]?=some (o,es)->Q[b]?=some (o,KY)->a=b
def ja.start(s:HS):ja s [] []:=
 ⟨⟨⟨λk i h=>(by cases h),λk i h=>(by cases h),λi v b aq h=>(by simp at h)⟩,by simp,by simp⟩,by simp,by simp⟩
def ja.frame(h:ja s K Q)(b:cX (λ_=>False) s s'):ja s' K Q:=
 ⟨h.k.frame b,λa o f l=>by
  obtain⟨m,d⟩:=h.mp a o f l;exact⟨by rw[b.2.2.1 o d (λh=>h)];exact m,dZ d b.1⟩,h.nd⟩
def ja.ds(h:ja s K Q)(c:aj):ja {h:=ax (some (.cells (cM c) 0 c.length s.nx)) s.nx s.h,nx:=s.nx.succ,gr:=ax (some [s.nx]) s.nx s.gr,ty:=s.ty} ((s.nx,c)::K) Q:=
 ⟨h.k.ds c,(h.frame (cX.alloc (s:=s) (.cells (cM c) 0 c.length s.nx) [s.nx])).mp,h.nd⟩
def ja.TU(h:ja s K Q)(f:List (HV×HV)):ja {h:=ax (some (.mp f)) s.nx s.h,nx:=s.nx.succ,gr:=s.gr,ty:=s.ty} K ((s.nx,f)::Q):=by
 have u:=Ky.aV s.nx;have r:cX (λ_=>False) s {h:=ax (some (.mp f)) s.nx s.h,nx:=s.nx.succ,gr:=s.gr,ty:=s.ty}:=⟨by simp only;omega,rfl,λp v _=>by simp only;rw[af,au λe=>by subst e;omega],λ_ _ _=>rfl⟩;have q:=h.frame r;refine⟨q.k,λa o n d=>?_,λa b o n m d l=>?_⟩
 .cases a with|zero=>simp at d;obtain⟨rfl,rfl⟩:=d;exact⟨by simp only;rw[af,ar rfl],by simp only;omega⟩|succ a=>exact q.mp a o n d
 cases a with
 |zero=>cases b with|zero=>rfl|succ b=>simp at d l;have:=(h.mp b o m l).2;rw[<-d.1]at this;exact(gF _ this).elim
 |succ a=>cases b with|zero=>simp at d l;have:=(h.mp a o n d).2;rw[<-l.1]at this;exact(gF _ this).elim|succ b=>simp at d l;rw[h.nd a b o n m d l]
def ja.toW(h:ja s K Q){t:aO}(d:Sz 2 t):ct {h:=ax (some (.cells (cM (aB t)) 0 (aB t).length s.nx)) s.nx s.h,nx:=s.nx.succ,gr:=ax (some [s.nx]) s.nx s.gr,ty:=s.ty} (λk=>k=s.nx) (.sl s.nx 0 t.length 2) t (λ_=>none) [] K Q:=by
 have m:=Ky.aV s.nx;have n:=cX.alloc (s:=s) (.cells (cM (aB t)) 0 (aB t).length s.nx) [s.nx];have f:=h.frame n;refine⟨f.k,?_,λ_ _=>rfl,λa o c b e=>?_,λa o l b=>?_,h.nd⟩
 .refine ck.toO ⟨d,λk p=>by subst p;simp only;omega,.inr ⟨s.nx,cM (aB t),(aB t).length,s.nx,[],rfl,?_,by rw[cI d];exact aW _,by simp,?_,by simp,by simp,rfl⟩⟩ (by simp)
  .simp only;rw[af,ar rfl]
  simp only;rw[af,ar rfl]
 .have:=(h.k.bD a o c b).1.2.2;rw[e]at this;exact gF _ this
 obtain⟨q,r⟩:=f.mp a o l b;refine⟨q,r,rfl,λe=>?_⟩;have:=(h.mp a o l b).2;rw[e]at this;exact gF _ this
def ja.Ou{o:Ky}{es:List (HV×HV)}(h:ja s K ((o,es)::Q))(f:List (HV×HV)):ja (s.aK o (.mp f)) K ((o,f)::Q):=by
 obtain⟨u,v⟩:=h.mp 0 o es rfl;have z:cX (λp=>p=o) s (s.aK o (.mp f)):=⟨aW _,rfl,λp _ A=>by simp only[HS.aK];rw[af,au A],λ_ _ _=>rfl⟩;refine⟨h.k.Fp z (λk i C=>by cases C) (λa p c m e=>?_),λa p l m=>?_,λa b p d l m D=>?_⟩
 .have n:=(h.k.bD a p c m).1.1;rw[e,u]at n;cases n
 .cases a with|zero=>simp at m;obtain⟨rfl,rfl⟩:=m;exact⟨by simp only[HS.aK];rw[af,ar rfl],v⟩|succ a=>
   obtain⟨E,G⟩:=h.mp (a+1) p l m;have q:p≠o:=λe=>by subst e;have:=h.nd 0 (a+1) p es l rfl m;omega
   exact⟨by simp only[HS.aK];rw[af,au q];exact E,G⟩
 have key:∀(a:Nat) d,((o,f)::Q)[a]?=some (p,d)->∃r,((o,es)::Q)[a]?=some (p,r):=by intro a d n;cases a with|zero=>simp at n;exact⟨es,by simp[n.1]⟩|succ a=>exact⟨d,n⟩
 obtain⟨_,n⟩:=key a d m;obtain⟨_,I⟩:=key b l D;exact h.nd a b p _ _ n I
def ja.put(h:ja s K Q){a:Nat}{o:Ky}{c new:aj}(f:K[a]?=some (o,c)){x:HV}(r:cellsOf x=some new)(u:new.length=c.length):∃s',pR c.length (some (.ptr o 0)) (some x) s=.v .undef s'/\ja s' (K.set a (o,new)) Q:=by
 obtain⟨s',d,z,l,_⟩:=(h.k.bD a o c f).1.put r u;refine⟨s',d,h.k.cell f z l,λb p A C=>?_,h.nd⟩;obtain⟨n,q⟩:=h.mp b p A C;have m:p≠o:=λe=>by subst e;have d:=(h.k.bD a p c f).1.1;rw[n]at d;cases d
 exact⟨by rw[l.2.2.1 p q m];exact n,dZ q l.1⟩
def ja.ag2{f l m:Ky×List (HV×HV)}(h:ja s K [f,l,m]):ja s K [m,l,f]:=by
 have key:∀(a:Nat) r,[m,l,f][a]?=some r->a<=2/\ [f,l,m][2-a]?=some r:=by
  intro a r d
  match a with|0=>exact⟨by omega,d⟩|1=>exact⟨by omega,d⟩|2=>exact⟨by omega,d⟩|a+3=>simp at d
 refine⟨h.k,λa o n d=>h.mp _ o n (key a _ d).2,λa b o n p d q=>?_⟩;obtain⟨z,u⟩:=key a _ d;obtain⟨A,v⟩:=key b _ q;have:=h.nd _ _ o n p u v;omega
end
def ag3{a:Ar}{x:Fa}{S:Sn->Prop}{N:Nat}(ok:dW a)(hc:aI a=0)(hx:cf x)(b:Oq a x S)(d:∀l:List kh,l.Nodup->(∀p∈l,pD S p)->l.length<=N)(hN:N<=3518437208883)(s:HS):
  ∃o5 s',R (.call 119 [.agg (gu a x)] s)=.val (.bM [.ptr o5 0,.bool true]) s':=by
 have M0:=(ja.start s).ds (ez (0,[]));generalize m:HS.mk _ _ _ _=h1 at M0;obtain⟨s1,E,G⟩:=M0.put (a:=0) rfl (x:=.agg (ez (0,[]))) (new:=ez (0,[])) rfl rfl;have I:=gU (l:=ez (0,[])) E rfl rfl;simp only[aQ]at G;have c1:=(G.k.bD 0 _ _ rfl).1.1;have z:=G.TU [];have J:=(z.k.bD 0 _ _ rfl).1.1;have A:=muV (K:=H2) (f:=j4) (l:=[]) kZ nL (z.mp 0 _ _ rfl).1 (0,[]) (.agg [.ah,.bool false,.bool false]);generalize M:HS.mk _ _ _ _=s2 at z J A;have M3:=z.Ou (gq j4 (mL (0,[]) (.agg [.ah,.bool false,.bool false]) []));generalize h4:HS.aK _ _ _=s3 at M3 A;have M4:=M3.TU [];generalize O:HS.mk _ _ _ _=V at M4;have M5:=M4.ds [.mp s1.nx,.mp s3.nx,iV 0];generalize n:HS.mk _ _ _ _=s5 at M5;have X:=M5.TU [];have C:=muV (K:=KI) (f:=iV) (l:=[]) rN (λ_=>rfl) (X.mp 0 _ _ rfl).1 0 (.str []);generalize Y:HS.mk _ _ _ _=s6 at X C;have Z:=X.Ou (gq iV (mL 0 (.str []) []));generalize h6:HS.aK _ _ _=s7 at Z C;have c7:=(Z.k.bD 1 _ _ rfl).1.1;have M8:=Z.ag2.toW (t:=[ez (0,[])]) (Sz.cons rfl Sz.nil);simp only[cV,ml,BB]at M8;generalize q:HS.mk _ _ _ _=s8 at M8;simp only[ez,j4,iV,az,aE,bF,Nat.reduceAdd]at c1 J A E I m n C c7 q;have hI:WO S [] [(0,[])] (mL ((0,[]):kh) (.agg [.ah,.bool false,.bool false]) []) (mL (0:Int) (.str []) []) [] []:=
  ⟨rfl,by simp,λp hp=>.inl (by simpa[mL,lkp]using hp),λp hp=>⟨Ab,b.st,by
   have:p=((0:Int),HV.str []):=by simpa[mL,lkp]using hp
   rw[this];exact⟨rfl,rfl⟩⟩,rfl,λi k v h=>by simp at h⟩
 have hE:∃u s',ev R U.LW (bb [.agg (gu a x)] 0) s=.code .ret u s'/\look u 2=some (.ptr V.nx 0)/\look u 3=some (.bool true):=by generalize D:ev R U.LW (bb [.agg (gu a x)] 0) s=r;simp[U.LW,U.Jr,m,E,M,J,A,O,n,Y,C,c7,q,ao]at D;generalize ho:ev R (.loop U.qC) _ _=o at D;obtain⟨e9,s9,rfl,h5⟩:=ZR ok hc hx b d hN (o4:=s.nx) (o5:=V.nx) (ot:=s5.nx) hI (d0:=0) (v7:=.sl s7.nx 0 1 2) M8 (by simp) ho;clear ho;simp[h5]at D;subst D;exact⟨_,_,rfl,by simp⟩
 obtain⟨u,s',hE,h2,h3⟩:=hE;exact⟨V.nx,s',ad2 rfl ⟨.ret,u,s',hE,.inr rfl,by simp[h2,h3]⟩⟩
def spo(y:Sn):kh:=if y.mn.begun=true then((y.st:Int),n8 y.mn)else(0,[])
def KL{S:Sn->Prop}{g:jL}(h0:Ab∈g)(d:∀y,S y->y∈g)(l:List kh)(f:l.Nodup)(h:∀p∈l,pD S p):l.length<=g.length:=by
 have:=r9 (l:=l) (l':=g.map spo) f (λp b=>by
  rcases h p b with rfl|⟨y,m,n,rfl⟩
  .exact dt.2 ⟨Ab,h0,rfl⟩
  exact dt.2 ⟨y,d y m,by unfold spo;rw[ar n]⟩)
 simpa using this
section
variable{a:Ar}{x:Fa}{N:Nat}{g:Lg}
def ag4(ok:dW a)(m:aI a=0)(n:cf x)(v:sZ x)(z:gK x=x)(A:Ff x)(C:x.nx.length<=24)(D:eZ a x N=some g)(E:g.l.length<=N)(G:N<=3518437208883)(s:HS):
  ∃o5 s',R (.call 89 [.agg (gu a x)] s)=.val (.bM [.ptr o5 0,iV 0]) s':=by
 have f:=w82 a ok;rw[m]at f;have b:=agR x n v z A C;have q:=BU n m D E;obtain⟨o5,s',d⟩:=ag3 ok m n q (KL q.st (λy I=>I)) (by omega) s;have p:∃h,ev R U.LJ (bb [.agg (gu a x)] 0) s=.code .ret h s'/\look h 2=some (.ptr o5 0)/\look h 3=some (iV 0):=by generalize u:ev R U.LJ (bb [.agg (gu a x)] 0) s=r;simp only[Ar.c,iV]at f;simp only[Fa.c,iV]at b;simp only[gu]at d;simp[U.LJ,f,b,d]at u;subst u;exact⟨_,rfl,by simp[iV]⟩
 obtain⟨h,p,J,M⟩:=p;exact⟨o5,s',adJ rfl ⟨.ret,h,s',p,.inr rfl,by simp[J,M]⟩⟩
def w84(ok:dW a)(f:aI a=0)(h:cf x)(m:sZ x)(n:gK x=x)(p:Ff x)(q:x.nx.length<=24)(r:eZ a x N=some g)(u:g.l.length<=N)(d:N<=3518437208883)(s:HS):
  R (.call 54 [.agg (gu a x)] s)=.val (iV 0) s:=by
 refine q84 ?_;obtain⟨o5,s',b⟩:=ag4 ok f h m n p q r u d s0;simp only[gu]at b;simp[U.b84,b,aa]
end
def DF(m:Mv):Bool:=decide (m.kind=3)==(decide (0<m.id)&&decide (m.arg=0))
def w50(m:Mv)(s:HS):R (.call 30 [.agg m.c] s)=.val (.bool (DF m)) s:=by refine q50 ?_;by_cases h:0<m.id<;>simp[U.b50,h,aa,DF]
def fe(x:Fa)(p:Nat)(m:Mv):Int:=match(dj x p).find? (λe=>decide (e.m=m))with|some e=>e.to|none=> -1
def yy{x:Fa}{p:Nat}{m:Mv}{i:Nat}(b:i<(dj x p).length)(d:(dj x p)[i].m=m)(f:∀j (h:j<(dj x p).length),j<i->¬(dj x p)[j].m=m):fe x p m=((dj x p)[i].to:Int):=by unfold fe;rw[List.find?_eq_some_iff_getElem.2 ⟨by simpa using d,i,b,rfl,λj l=>by simpa using f j (by omega) l⟩]
def yz{x:Fa}{p:Nat}{m:Mv}(h:∀j (h:j<(dj x p).length),¬(dj x p)[j].m=m):fe x p m= -1:=by
 unfold fe;rw[Br.2 λe b=>by
  obtain⟨j,d,rfl⟩:=eH.1 b;simpa using h j d]
def w90{x:Fa}(O:cf x){p:Nat}(G:p<x.nx.length)(m:Mv)(s:HS):R (.call 55 [.agg x.c,iV p,.agg m.c] s)=.val (iV (fe x p m)) s:=by
 refine q90 ?_;have V:(p:Int)<x.nx.length:=by omega
 have l:x.nx[p]=dj x p:=(getD_at G _).symm;have I:(dj x p).length<=6000:=by rw[<-l];exact O.row G
 simp[U.b90,G,l];generalize J:bJ R (.loop U.CM) _ _=o;obtain⟨row,z⟩:∃row,row=dj x p:=⟨_,rfl⟩;rw[<-z]at I J;have X:(∃(i:Nat) (h:i<row.length),row[i].m=m/\(∀j (h:j<row.length),j<i->¬row[j].m=m)/\∃b s',o=.code .ret b s'/\look b 6=some (iV row[i].to))∨((∀j (h:j<row.length),¬row[j].m=m)/\∃b s',o=.code (.exit 0) b s'):=by
  refine ba J row.length
   (λi e s=>bH e [(5,.aw m.c),(14,.psl (row.map Eg.c)),(15,iV row.length),(16,iV i)]/\∀j (h:j<row.length),j<i->¬row[j].m=m)
   (λo=>(∃(i:Nat) (h:i<row.length),row[i].m=m/\(∀j (h:j<row.length),j<i->¬row[j].m=m)/\∃b s',o=.code .ret b s'/\look b 6=some (iV row[i].to))∨((∀j (h:j<row.length),¬row[j].m=m)/\∃b s',o=.code (.exit 0) b s'))
   0 (by omega) ⟨by simp,λj _ h=>by omega⟩
   (λi e s r v ⟨n,D⟩ q=>by
    have A:(i:Int)<row.length:=by omega
    have C:=(ja.start s).ds (row[i]).c;have f:=(C.k.bD 0 _ _ rfl).1.1;generalize u:HS.mk _ _ _ _=S1 at C f;have d:=nB row[i].m m;have Y:=bo v (by omega);simp only[Eg.c,Mv.c,az,aE,bF,Nat.reduceAdd]at f u d;simp only[ab,ae]at n;by_cases E:row[i].m=m
    .rw[ey E]at d;simp[U.CM,n,v,A,u,f,ai,an,ao,d]at q;subst q;exact .inr ⟨by simp,.inl ⟨i,v,E,D,_,_,rfl,by simp[iV]⟩⟩
    rw[ef E]at d;simp[U.CM,n,v,A,u,f,ai,an,ao,d,Y]at q;subst q;refine .inl ⟨_,_,rfl,by simp[n],λj h hj=>?_⟩;by_cases M:j=i
    .subst M;exact E
    exact D j h (by omega))
   (λe s r ⟨n,D⟩ q=>by
    simp only[ab,ae]at n;simp[U.CM,n]at q;subst q;exact⟨by simp,.inr ⟨λj h=>D j h h,_,_,rfl⟩⟩)
 clear J;subst z;rcases X with⟨i,v,Z,h2,b,s',rfl,h6⟩|⟨h,b,s',rfl⟩
 .rw[yy v Z h2];simp[h6,aa]
 rw[yz h];simp[aa]
def ix{x:Fa}(d:cf x){p:Nat}(b:p<x.nx.length)(m:Mv):fe x p m= -1∨∃q:Nat,fe x p m=q/\q<x.nx.length:=by unfold fe;cases h:(dj x p).find? (λe=>decide (e.m=m))with|none=>exact .inl rfl|some e=>refine .inr ⟨e.to,rfl,?_⟩;have:=Bl h;rw[show dj x p=x.nx[p] from getD_at b _]at this;exact d.to _ (cp b) e this
def du(x:Fa):Nat->Nat->bc->Int×Int
 |p,i,[]=>(p,i)
 |p,i,m::r=>if fe x p m= -1 then(-1,i)else du x (fe x p m).toNat (i+1) r
def w48{x:Fa}(D:cf x)(l:bc)(X:l.length<=4611686018427387904)(s:HS):R (.call 29 [.agg x.c,.psl (l.map Mv.c)] s)=.val (.bM [iV (du x 0 0 l).1,iV (du x 0 0 l).2]) s:=by
 refine q48 ?_;simp[U.b48];generalize V:bJ R (.loop U.CH) _ _=o;have E:(∃(i:Nat),du x 0 0 l=(-1,(i:Int))/\∃b s',o=.code .ret b s'/\look b 4=some (iV (-1))/\look b 5=some (iV i))∨(∃p:Nat,du x 0 0 l=((p:Int),(l.length:Int))/\∃b s',o=.code (.exit 0) b s'/\look b 4=some (iV p)/\look b 1=some (.psl (l.map Mv.c))):=by
  refine ba V l.length
   (λi e s=>∃p:Nat,p<x.nx.length/\du x 0 0 l=du x p i (l.drop i)/\bH e [(1,.psl (l.map Mv.c)),(2,.aw x.c),(4,iV p),(8,.psl (l.map Mv.c)),(9,iV l.length),(10,iV i)])
   (λo=>(∃(i:Nat),du x 0 0 l=(-1,(i:Int))/\∃b s',o=.code .ret b s'/\look b 4=some (iV (-1))/\look b 5=some (iV i))∨(∃p:Nat,du x 0 0 l=((p:Int),(l.length:Int))/\∃b s',o=.code (.exit 0) b s'/\look b 4=some (iV p)/\look b 1=some (.psl (l.map Mv.c))))
   0 (by omega) ⟨0,D.pos,rfl,by simp[iV]⟩
   (λi e s r C ⟨p,G,f,m⟩ n=>by
    have v:(i:Int)<l.length:=by omega
    have z:=(ja.start s).ds (l[i]).c;have h:=(z.k.bD 0 _ _ rfl).1.1;generalize u:HS.mk _ _ _ _=Z at z h;have d:=w90 D G l[i];have Y:=bo C X;have gw:l.drop i=l[i]::l.drop (i+1):=nU C;rw[gw,du]at f;simp only[Mv.c,az,aE,bF,Nat.reduceAdd]at h u;simp only[Fa.c,Mv.c,iV]at d;simp only[ab,ae]at m;rcases ix D G l[i]with I|⟨q,I,E⟩
    .rw[I]at d f;rw[ar rfl]at f;simp[U.CH,m,C,v,u,h,ai,an,ao,d]at n;subst n;exact .inr ⟨by simp,.inl ⟨i,f,_,_,rfl,by simp[iV]⟩⟩
    rw[I]at d f;have A:¬(q:Int)= -1:=by omega
    rw[au A,hY]at f;simp[U.CH,m,C,v,u,h,ai,an,ao,d,A,Y]at n;subst n;exact .inl ⟨_,_,rfl,q,E,f,by simp[m,iV]⟩)
   (λe s r ⟨p,G,f,m⟩ n=>by
    simp only[ab,ae]at m;simp[U.CH,m]at n;subst n;rw[Cr (aW _),du]at f;exact⟨by simp,.inr ⟨p,f,_,_,rfl,by simp[m]⟩⟩)
 clear V;rcases E with⟨i,J,b,s',rfl,M,O⟩|⟨p,J,b,s',rfl,M,O⟩
 .rw[J];simp[M,O,aa]
 rw[J];simp[M,O,aa]
structure yA(mn:Mn)(x:Wk):Prop where
 op:mn.op=x.op.map λn=>x.w.getD n default
 lt:∀n∈x.op,n<x.w.length
 lost:mn.lost=x.lost
 fo:mn.forced=bf x.w
 bg:mn.begun= !x.w.isEmpty
def yA.can{mn:Mn}{x:Wk}(h:yA mn x)(m:Mv):gS x.a mn m=fV x m:=by
 obtain⟨p,q,r,u,d⟩:=h;unfold gS fV ie;cases fv x.a m
 .simp
 by_cases b:x.w=[]
 .simp[d,b]
 have v:mn.begun=true:=by rw[d];cases z:x.w with|nil=>exact(b z).elim|cons _ _=>rfl
 rw[v,au b,p,List.getLast?_map];cases A:x.op.getLast? with
 |none=>simp
 |some n=>
  have C:=q n (J3 A);simp only[Option.map_some,aR C,eD,hU,r,u,bj,iI];have D:∀t:Mv,uF t m=kU t m:=λt=>by simp[uF,kU,Bg,A9,KB]
  simp only[D];by_cases f:(x.lost||bf x.w)=true
  .simp[f]
  simp only[f];by_cases l:de m=true
  .simp[l,Bg]
  simp[l]
def yA.aft{mn:Mn}{x:Wk}(h:yA mn x)(m:Mv):yA (gp mn m) (cy x m):=by
 obtain⟨p,l,q,u,z⟩:=h;have d:bf (x.w++[m])=(cJ m&&decide (0<m.arg)):=by simp[bf]
 have r:∀n∈x.op,(x.w++[m]).getD n default=x.w.getD n default:=λn b=>by have:=l n b;simp[eD,ea this]
 unfold gp cy;by_cases f:de m=true
 .have v:cJ m=false:=by simp only[de,bX]at f;simp only[cJ,zo];omega
  rw[ar f,ar f];refine⟨?_,λn b=>?_,q,by simp[d,v],by simp⟩
  .simp only[fB,cx,mZ,p]
   congr 1
   .exact(EV r).symm
   simp[eD]
  simp only[cP,dq]at b;simp only[cA,dx];rcases b with b|b
  .have:=l n b;omega
  omega
 rw[au f,au f];refine⟨?_,λn b=>?_,by simp[q,u],by simp[d],by simp⟩
 .simp only[p,List.map_dropLast];exact(cC List.dropLast (EV r)).symm
 have:=l n ((xN _).subset b);simp only[cA,dx];omega
def yA.start(a:Ar):yA ⟨[],false,false,false⟩ (iP a):=⟨rfl,by simp[iP],rfl,rfl,rfl⟩
def GK{a:Ar}{x:Fa}{S:Sn->Prop}(W:Oq a x S):∀(v:bc) (i:Nat) (y:Sn) (k:Wk),S y->yA y.mn k->k.a=a->(du x y.st i v).1≠ -1->
  ∃b,S b/\yA b.mn (cK k v).1/\(cK k v).2=v.length/\(du x y.st i v).1=(b.st:Int)
 |[],i,y,k,d,f,n,h=>⟨y,d,f,rfl,rfl⟩
 |m::r,i,y,k,d,f,n,h=>by
  unfold du at h ⊢;by_cases p:fe x y.st m= -1
  .rw[ar p]at h;exact(h rfl).elim
  rw[au p]at h ⊢;cases l:(dj x y.st).find? (λe=>decide (e.m=m))with
  |none=>exact(p (by unfold fe;rw[l])).elim
  |some e=>
   have u:=Bl l;have z:e.m=m:=by simpa using List.find?_some l
   have q:fe x y.st m=e.to:=by unfold fe;rw[l]
   rw[q,hY]at h ⊢;have A:fV k m=true:=by rw[<-f.can,n,<-z];exact W.can y d e u
   obtain⟨b,C,D,E,G⟩:=GK W r (i+1) ⟨e.to,gp y.mn m⟩ (cy k m) (by rw[<-z];exact W.K7 y d e u) (f.aft m) (by rw[vd,n]) h;refine⟨b,C,?_,?_,G⟩
   .unfold cK;rw[ar A];exact D
   unfold cK;rw[ar A];simp[E]
def NI{a:Ar}{y:Mn}(h:y.over=true)(m:Mv):gS a y m=false:=by unfold Mn.over at h;simp only[aL,bX]at h;unfold gS;rw[h.1,h.2];cases fv a m<;>rfl
def GL{a:Ar}{x:Fa}(h0:¬(x.nx.length=1/\x.fi.getD 0 false=false)):∀(i:Nat) {g:Lg},eZ a x i=some g->∀z∈g.l.take i,x.fi.getD z.st false=z.mn.over
 |0,g,p=>by simp
 |i+1,E,p=>by
  rw[eZ]at p;cases h:eZ a x i with
  |none=>rw[h]at p;cases p
  |some g=>
   rw[h]at p;have C:=GL h0 i h;have f:nY a x g i=some E:=p;unfold nY at f
   split at f
   .rename_i G;have u:=lz f;subst u;have hlen:=BA.1 G;have v:g.l.take (i+1)=g.l.take i:=by rw[iH (by omega),iH hlen]
    rw[v];exact C
   rename_i d q
   split at f
   .cases f
   rename_i b
   split at f
   .cases f;obtain⟨A,r⟩:=aS.1 q;obtain⟨t,v⟩:=DE d (x.nx.getD d.st []) g.l;have m:(jo d g.l (x.nx.getD d.st [])).take (i+1)=g.l.take i++[d]:=by rw[<-v,C0 (by omega),fC A,r]
    intro z n;simp only at n;rw[m]at n;rcases cP.1 n with n|n
    .exact C z n
    rw[dq.1 n];have I:(decide (x.nx.length=1)&& !(x.fi.getD 0 false))=false:=by cases D:(decide (x.nx.length=1)&& !(x.fi.getD 0 false))with|false=>rfl|true=>simp only[aL,bX,rq]at D;exact(h0 D).elim
    unfold BP at b;rw[I]at b;simp only[xT,jb,nS,not_or,vI,ne_eq,Decidable.not_not]at b;exact b.2
   cases f
def w46(s:HS):R (.call 28 [] s)=.val (.agg [iV (-1),.bool false]) s:=by refine q46 ?_;have m:=(ja.start s0).ds [.int .i64 0,.bool false];generalize n:HS.mk _ _ _ _=p at m;obtain⟨q,f,b⟩:=m.put (a:=0) rfl (x:=.agg [iV (-1),.bool false]) (new:=[iV (-1),.bool false]) rfl rfl;have h:=gU (l:=[iV (-1),.bool false]) f rfl rfl;simp only[aQ]at b;have d:=(b.k.bD 0 _ _ rfl).1.1;simp only[az,aE,bF,Nat.reduceAdd,iV]at n f h d;simp[U.b46,n,f,d,ao];exact aa (by simp[dX])
def uc(l:List ft)(M:Nat)(h:∀r∈l,r.length<=M):∀i,((l.take i).map List.length).sum<=i*M
 |0=>by simp
 |i+1=>by
  have f:=uc l M h i;by_cases b:i<l.length
  .rw[fC b,fB,JQ,jE];have:=h _ (cp b);simp only[cx,mZ,Fm,TV];omega
  have d:l.take (i+1)=l.take i:=by rw[iH (by omega),iH (by omega)]
  rw[d,jE];omega
def w10(t:Sx)(C:∀r∈t.x.nx,r.length<=70368744177664):∃b,(∀s,R (.call 14 [.agg t.c] s)=.val (.bool b) s)/\(b=true->rO t.a/\t.x.nx.length<=24/\t.x.fi.length<=26/\(t.x.nx.map List.length).sum<=120):=by
 obtain⟨b9,p,E⟩:=w9 t.a
 suffices h:∃b,n5 [.tmp 2] (bJ R U.FJ (bb [.agg t.c] 0) s0)=some (.bool b)/\(b=true->rO t.a/\t.x.nx.length<=24/\t.x.fi.length<=26/\(t.x.nx.map List.length).sum<=120) by obtain⟨b,G,I⟩:=h;exact⟨b,λs=>q10 G,I⟩
 simp only[Ar.c]at p;cases b9 with
 |false=>refine⟨false,?_,λh=>by cases h⟩;simp-implicitDefEqProofs[U.FJ,p,aa]
 |true=>
  by_cases Y:24<t.x.nx.length
  .have f:(24:Int)<t.x.nx.length:=by omega
   refine⟨false,?_,λh=>by cases h⟩;simp-implicitDefEqProofs[U.FJ,p,f,aa]
  have f:¬(24:Int)<t.x.nx.length:=by omega
  by_cases Z:26<t.x.fi.length
  .have m:(26:Int)<t.x.fi.length:=by omega
   refine⟨false,?_,λh=>by cases h⟩;simp-implicitDefEqProofs[U.FJ,p,f,m,aa]
  have m:¬(26:Int)<t.x.fi.length:=by omega
  refine⟨decide ((t.x.nx.map List.length).sum<=120),?_,λh=>⟨E rfl,by omega,by omega,by simpa using h⟩⟩;simp-implicitDefEqProofs[U.FJ,p,f,m];generalize D:bJ R (.loop U.FT) _ _=o;have J:∃n s',o=.code (.exit 0) n s'/\look n 3=some (iV (t.x.nx.map List.length).sum):=by
   refine ba D t.x.nx.length
    (λi e s=>bH e [(1,.aw t.c),(3,iV ((t.x.nx.take i).map List.length).sum),(4,iV i)])
    (λo=>∃n s',o=.code (.exit 0) n s'/\look n 3=some (iV (t.x.nx.map List.length).sum))
    0 (by omega) (by simp[iV])
    (λi e s r u l d=>by
     have v:(i:Int)<t.x.nx.length:=by omega
     have M:=uc t.x.nx 70368744177664 C i;have O:=C _ (cp u);have hmul:i*70368744177664<=24*70368744177664:=jD _ (by omega);have V:=bo u (by omega);have z:bQ .i64 ((((t.x.nx.take i).map List.length).sum:Nat)+(t.x.nx[i].length:Int))=(((t.x.nx.take i).map List.length).sum:Nat)+(t.x.nx[i].length:Int):=bT (by omega) (by omega);have A:((t.x.nx.take (i+1)).map List.length).sum=((t.x.nx.take i).map List.length).sum+t.x.nx[i].length:=by rw[fC u];simp only[fB,JQ,cx,mZ,Fm,TV,Nat.add_zero]
     rw[A];generalize((t.x.nx.take i).map List.length).sum=q at*;simp only[ab,ae]at l;simp[U.FT,l,u,v,V,z]at d;subst d;exact .inl ⟨_,_,rfl,by simp[l,iV]⟩)
    (λe s r l d=>by
     rw[iH (aW _)]at l;simp only[ab,ae]at l;simp[U.FT,l]at d;subst d;exact⟨by simp,_,_,rfl,by simp[l]⟩)
  clear D;obtain⟨n,s',rfl,X⟩:=J;simp[X,aa];omega
def w68{a:Ar}{x:Fa}(ok:dW a)(b:∀s,R (.call 54 [.agg (gu a x)] s)=.val (iV 0) s)(w:bc)(s:HS):R (.call 27 [.agg (gu a x),.psl (w.map Mv.c)] s)=.val (.bM [.agg x.c,iV (lE a w)]) s:=by refine q68 ?_;have f:=w45 a ok w;have p:=(ja.start s0).ds [.ah,.ah];generalize q:HS.mk _ _ _ _=r at p;obtain⟨u,m,h⟩:=p.put (a:=0) rfl (x:=.agg x.c) (new:=x.c) rfl rfl;have n:=gU (l:=x.c) m rfl rfl;simp only[aQ]at h;have d:=(h.k.bD 0 _ _ rfl).1.1;simp only[Fa.c,az,aE,bF,Nat.reduceAdd]at q m n d;simp only[gu,iV]at b;simp only[Ar.c,iV]at f;simp[U.b68,q,b,f,m,d,ao];exact aa (by simp)
def GM{x:Fa}:∀(l:bc) (p i:Nat),(du x p i l).1= -1->∃j:Nat,(du x p i l).2=((i+j:Nat):Int)/\j<l.length
 |[],p,i=>by intro h;simp[du]at h
 |m::r,p,i=>by
  intro h;unfold du at h ⊢;by_cases b:fe x p m= -1
  .rw[ar b];exact⟨0,by simp⟩
  rw[au b]at h ⊢;obtain⟨j,d,f⟩:=GM r _ _ h;exact⟨j+1,by rw[d];congr 1;omega,by simp;omega⟩
def yB(a:Ar)(x:Fa)(w:bc):Int×Bool×Int:=
 if lE a w=0 then
  if(du x 0 0 w).1= -1 then((du x 0 0 w).2,DF (w.getD (du x 0 0 w).2.toNat default),0)else(-1,false,0)
 else(0,false,lE a w)
def w31{a:Ar}{x:Fa}(ok:dW a)(O:cf x)(z:∀s,R (.call 54 [.agg (gu a x)] s)=.val (iV 0) s)(w:bc)(V:w.length<=4611686018427387904)(s:HS):
  R (.call 8 [.agg (gu a x),.psl (w.map Mv.c)] s)=.val (.bM [iV (yB a x w).1,.bool (yB a x w).2.1,iV (yB a x w).2.2]) s:=by
 refine q31 ?_;have b:=w68 ok z w;have d:=w48 O w V;have A:=(ja.start s0).ds x.c;generalize u:HS.mk _ _ _ _=X at A;have d0:=(A.k.bD 0 _ _ rfl).1.1;have f:=A.ds [iV (-1),.bool false];generalize h:HS.mk _ _ _ _=Y at f;have I:=(f.k.bD 0 _ _ rfl).1.1;have C:=(f.k.bD 1 _ _ rfl).1.1;simp only[gu,Fa.c,iV]at b;simp only[Fa.c,iV]at d;have m:=w46;simp only[iV]at m;simp only[Fa.c,iV,az,aE,bF,Nat.reduceAdd]at u h d0 I C;unfold yB;by_cases v:lE a w=0
 case neg=>rw[au v];simp[U.τ,b,u,v,ai,an,aa]
 rw[ar v];rw[v]at b;by_cases n:(du x 0 0 w).1= -1
 case neg=>rw[au n];simp[U.τ,b,u,m,h,I,C,d,n,ai,an,ao,aa]
 rw[ar n];obtain⟨j,D,p⟩:=GM w 0 0 n;rw[bF]at D;rw[n,D]at d;rw[D,hY,getD_at p];have q:=w50 w[j];simp only[Mv.c]at q;have J:(j:Int)<w.length:=by omega
 obtain⟨Z,E,r⟩:=f.put (a:=0) rfl (x:=.agg [iV j,.bool (DF w[j])]) (new:=[iV j,.bool (DF w[j])]) rfl rfl;have G:=gU (l:=[iV j,.bool (DF w[j])]) E rfl rfl;simp only[aQ]at r;have M:=(r.k.bD 0 _ _ rfl).1.1;simp only[iV,az,aE,bF,Nat.reduceAdd]at E G M;simp[U.τ,b,u,m,h,C,d,p,q,E,M,ai,an,ao,aa]
def KM{a:Ar}(h:rO a)(l:aI a=0):Ac a:=by
 intro id arg b e d;have m:=iv l d;simp only[dV,bX]at m;have key:K5 b.n:=by
  unfold di at d
  split at d
  .cases d;exact h.2.1
  split at d
  .split at d
   .cases d
   rename_i t p;have f:=h.2.2 t (cG p)
   split at d
   .cases d;exact f.2.1
   split at d
   .rw[l9]at d;obtain⟨q,r,u⟩:=d;cases u;exact f.2.2 _ (cG r)
   cases d
  cases d
 rcases key with h|h<;>omega
def TW{a:Ar}(l:aI a=0){m:Mv}(h:fv a m=true): -1<=m.n/\m.n<=64:=by
 obtain⟨b,e,d⟩:=nD h;have p:=iv l d;simp only[dV,bX]at p;unfold fv cu lC at h;rw[d]at h;simp only[bX,KB,nS,dK,pg,bk,dt,gd,cP]at h;rcases h with(h|⟨k,f,h⟩)|(h|⟨k,f,h⟩)
 .rw[h];exact⟨by simp,by simp⟩
 .rw[<-h]
  split at f
  .simp only[C4];omega
  omega
 .split at h
  .rw[dq.1 h];exact⟨by simp,by simp⟩
  cases h
 rw[<-h];simp only[pf];omega
def smF{a:Ar}{x:Fa}{N:Nat}{g:Lg}(q:cf x)(f:aI a=0)(r:sZ x)(d:gK x=x)(u:eZ a x N=some g)(v:g.l.length<=N):Ff x:=by
 rcases Tj q r d with h|h
 .rw[h];intro l d e b;rw[dq.1 d]at b;cases b
 have W:=BU q f u v;have z:=zZ h (P:=λi=>∃y∈g.l,y.st=i) ⟨Ab,W.st,rfl⟩ (λi m ⟨y,n,e⟩ A b=>⟨_,W.K7 y n A (by unfold dj;rw[e];exact b),rfl⟩);intro l d e b;obtain⟨i,m,rfl⟩:=eH.1 d;obtain⟨y,n,C⟩:=z i m;have p:=iQ (W.can y n e (by unfold dj;rw[C,eD,aR m];exact b));obtain⟨D,E,_,G,_⟩:=eY p;obtain⟨I,J⟩:=yx f p;obtain⟨M,O⟩:=TW f p;unfold fX;omega
structure Rt(a:Ar)(x:Fa):Prop where
 th:rO a
 hc:aI a=0
 hx:cf x
 ha:sZ x
 hl:gK x=x
 hn:x.nx.length<=24
 he:(x.nx.map List.length).sum<=120
 run:∃g,eZ a x 3518437208883=some g
def rO.ok{a:Ar}(h:rO a):dW a:=⟨by have:=h.1;omega,λt b=>by have:=(h.2.2 t b).1;omega⟩
def Rt.w84{a:Ar}{x:Fa}(h:Rt a x)(s:HS):R (.call 54 [.agg (gu a x)] s)=.val (iV 0) s:=by obtain⟨g,b⟩:=h.run;have d:=(TO h.hx h.hc (KM h.th h.hc) h.hn h.he).fin g b;exact S.w84 h.th.ok h.hc h.hx h.ha h.hl (smF h.hx h.hc h.ha h.hl b d) h.hn b d (aW _) s
def GN:∀(v:bc) (x:Wk),(cK x v).2=v.length->∀m∈v,fv x.a m=true
 |[],_,_,m,h=>by cases h
 |m0::r,x,h,m,b=>by
  unfold cK at h
  split at h
  .rename_i d;rcases bk.1 b with rfl|b
   .exact pq d
   have:=GN r (cy x m0) (by simpa using h) m b;rwa[vd]at this
  simp at h
def Fs:∀(v:bc) (x:Wk),(cK x v).2<=v.length
 |[],_=>aW _
 |m::r,x=>by
  unfold cK
  split
  .simp only[az];have:=Fs r (cy x m);omega
  exact fm _
def NJ{a:Ar}{v:bc}(h:(gl a v).2=0):∀m∈v,fv a m=true:=by
 refine GN v (iP a) ?_;have d:=Fs v (iP a);unfold gl at h
 split at h
 .rename_i b;exact(b h).elim
 split at h
 .cases h
 split at h
 .cases h
 omega
def GO{x:Fa}(n:cf x):∀(v:bc) (p i:Nat),p<x.nx.length->(du x p i v).1= -1->
  ∃(j:Nat) (q:Nat),q<x.nx.length/\∃u:j<v.length,(du x p i v).2=((i+j:Nat):Int)/\du x p i (v.take j)=((q:Int),((i+j:Nat):Int))/\fe x q v[j]= -1
 |[],p,i,f,h=>by simp[du]at h
 |m::r,p,i,f,h=>by
  have z:du x p i (m::r)=if fe x p m= -1 then(-1,(i:Int))else du x (fe x p m).toNat (i+1) r:=by rw[du]
  rw[z]at h ⊢;by_cases b:fe x p m= -1
  .exact⟨0,p,f,by simp,by rw[ar b];rfl,by simp[du],b⟩
  rw[au b]at h ⊢;rcases ix n f m with d|⟨q,d,A⟩
  .exact(b d).elim
  rw[d,hY]at h ⊢;obtain⟨j,C,D,u,E,G,I⟩:=GO n r q (i+1) A h;refine⟨j+1,C,D,by simp;omega,by rw[E];congr 1;omega,?_,by simpa using I⟩;have l:¬(q:Int)= -1:=by omega
  rw[Bq,du,d,au l,hY,G]
  congr 2;omega
def Ft{x:Fa}(l:cf x):∀(v:bc) (p i:Nat),p<x.nx.length->(du x p i v).1≠ -1->∃q:Nat,q<x.nx.length/\du x p i v=((q:Int),((i+v.length:Nat):Int))
 |[],p,i,b,h=>⟨p,b,rfl⟩
 |m::r,p,i,b,h=>by
  unfold du at h ⊢;by_cases d:fe x p m= -1
  .rw[ar d]at h;exact(h rfl).elim
  rw[au d]at h ⊢;rcases ix l b m with f|⟨q,f,n⟩
  .exact(d f).elim
  rw[f,hY]at h ⊢;obtain⟨u,z,A⟩:=Ft l r q (i+1) n h;refine⟨u,z,?_⟩;rw[A,az]
  congr 2;omega
def DG{x:Fa}(d:cf x)(m:Mv):∀(v:bc) (p i q:Nat) (n:Int),p<x.nx.length->du x p i v=((q:Int),n)->(du x p i (v++[m])).1=fe x q m
 |[],p,i,q,n,f,h=>by
  simp only[du,lx]at h;obtain rfl:p=q:=by omega
  rw[bA,du]
  split
  .rename_i b;exact b.symm
  rcases ix d f m with b|⟨q,b,u⟩
  .exact(by rename_i z;exact(z b).elim)
  rw[b,du,hY]
 |m0::r,p,i,q,n,f,h=>by
  rw[bx];unfold du at h ⊢;by_cases l:fe x p m0= -1
  .rw[ar l]at h;simp only[lx]at h;omega
  rw[au l]at h ⊢;rcases ix d f m0 with b|⟨A,b,u⟩
  .exact(l b).elim
  rw[b,hY]at h ⊢;exact DG d m r A (i+1) q n u h
def DH:∀(v:bc) (k:Wk) (j:Nat),(cK k v).2=v.length->(cK k (v.take j)).2=(v.take j).length
 |[],k,j,h=>by simp[cK]
 |m::r,k,0,h=>by simp[cK]
 |m::r,k,j+1,h=>by
  rw[Bq];unfold cK at h ⊢
  split at h
  .rename_i b;rw[ar b];simp only[az]at h ⊢;have:=DH r (cy k m) j (by omega);omega
  simp at h
def DI:∀(v:bc) (k:Wk) (m:Mv),(cK k v).2=v.length->fV (cK k v).1 m=true->(cK k (v++[m])).2=(v++[m]).length
 |[],k,m,h,b=>by simp only[cK]at b;simp[cK,b]
 |m0::r,k,m,h,b=>by
  rw[bx];unfold cK at h b ⊢
  split at h
  .rename_i d;rw[ar d]at b ⊢;simp only[az]at h ⊢;have:=DI r (cy k m0) m (by omega) b;omega
  simp at h
def tz{a:Ar}{w:bc}(b:aI a=0)(d:w.length<=400):(gl a w).2=0↔(cK (iP a) w).2=w.length:=by
 have f:=Fs w (iP a);unfold gl;rw[au (by simp[b]),au (by omega)]
 split
 .simp;omega
 simp;omega
def H3{mn:Mn}{k:Wk}(h:yA mn k):px k=3↔mn.over=true:=by
 obtain⟨l,m,_,_,p⟩:=h;unfold px ie Mn.over;rw[p];by_cases d:k.w=[]
 .simp[d]
 rw[au d];have q:(!k.w.isEmpty)=true:=by cases r:k.w with|nil=>exact(d r).elim|cons _ _=>rfl
 rw[q,l];cases b:k.op.getLast? with
 |none=>rw[TL]at b;simp[b]
 |some n=>
  have u:=m n (J3 b);have f:k.op≠ []:=λe=>by rw[e]at b;cases b
  simp only[aR u]
  split<;>simp[f]
structure Wn(a:Ar)(x:Fa)(w:bc)(q:Nat):Prop where
 lt:q<x.nx.length
 fol:du x 0 0 w=((q:Int),(w.length:Int))
 K7:∀e∈dj x q,w.length<400->(gl a (w++[e.m])).2=0/\(du x 0 0 (w++[e.m])).1≠ -1
 fin:px (cK (iP a) w).1=3↔x.fi.getD q false=true
 non:dj x q=[]↔px (cK (iP a) w).1=3
def Rt.wn{a:Ar}{x:Fa}(h:Rt a x)(h0:¬(x.nx.length=1/\x.fi.getD 0 false=false)){w:bc}(hw:w.length<=400)(u:(du x 0 0 w).1≠ -1):∃q,Wn a x w q:=by
 obtain⟨g,z⟩:=h.run;have G:=(TO h.hx h.hc (KM h.th h.hc) h.hn h.he).fin g z;have W:=BU h.hx h.hc z G;have I:=GL h0 _ z;rw[iH G]at I;obtain⟨q,J,b⟩:=Ft h.hx w 0 0 h.hx.pos u;rw[bF]at b;obtain⟨y,A,M,V,C⟩:=GK W w 0 Ab (iP a) W.st (yA.start a) rfl u;rw[show Ab.st=0 from rfl,b]at C;simp only[Int.natCast_inj]at C;have D:(cK (iP a) w).1.a=a:=by
  have:∀(v:bc) (k:Wk),(cK k v).1.a=k.a:=by
   intro v
   induction v with
   |nil=>intro k;rfl
   |cons m r X=>
    intro k;unfold cK
    split
    .rw[X,vd]
    rfl
  exact this w (iP a)
 have f:=H3 M;have d:x≠lD:=λe=>h0 (by rw[e];exact⟨rfl,rfl⟩)
 have l:Dj x:=(Tj h.hx h.ha h.hl).resolve_left d;have n:=I y A;subst C;refine⟨y.st,⟨J,b,λe he Y=>?_,?_,?_⟩⟩
 .have hc:=W.can y A e he;rw[<-D,M.can]at hc;refine⟨(tz h.hc (by simp;omega)).2 (DI w _ e.m V hc),?_⟩;rw[DG h.hx e.m w 0 0 y.st _ h.hx.pos b];unfold fe;cases E:(dj x y.st).find? (λO=>decide (O.m=e.m))with|none=>have:=Br.1 E e he;simp at this|some O=>simp only;omega
 .rw[f,n]
 rw[f];constructor
 .intro hn;have hl:=l.live y.st J;cases hl with
  |fin u=>rw[<-n,eD,u];rfl
  |HN hl he _=>unfold dj at hn;rw[eD,hl]at hn;simp only[hU]at hn;rw[hn]at he;cases he
 intro Z;cases p:dj x y.st with
 |nil=>rfl
 |cons e r=>have:=W.can y A e (by rw[p];simp);rw[NI Z]at this;cases this
def w38(m:Mv)(f:de m= !decide (m.kind=3))(s:HS):R (.call 12 [.agg m.c] s)=.val (.bool (DF m)) s:=by refine q38 ?_;have b:=U5 m;rw[f]at b;simp only[Mv.c]at b;by_cases h:0<m.id<;>by_cases d:m.kind=3<;>by_cases h0:m.arg=0<;>simp[d,h0]at b<;>simp[U.b38,h,d,h0,b,aa,DF]
def w93{x:Fa}(J:cf x){p:Nat}(v:p<x.nx.length)(m:Mv)(s:HS):R (.call 72 [.agg x.c,iV p,.agg m.c] s)=.val (iV (fe x p m)) s:=by
 refine q93 ?_;have M:(p:Int)<x.nx.length:=by omega
 have b:x.nx[p]=dj x p:=(getD_at v _).symm;have E:(dj x p).length<=6000:=by rw[<-b];exact J.row v
 simp[U.b93];generalize I:bJ R (.loop U.CP) _ _=o;obtain⟨row,l⟩:∃row,row=dj x p:=⟨_,rfl⟩;rw[<-l]at E b;have O:(∃(i:Nat) (h:i<row.length),row[i].m=m/\(∀j (h:j<row.length),j<i->¬row[j].m=m)/\∃d s',o=.code .ret d s'/\look d 6=some (iV row[i].to))∨((∀j (h:j<row.length),¬row[j].m=m)/\∃d s',o=.code (.exit 0) d s'):=by
  refine ba I row.length
   (λi e s=>bH e [(1,iV p),(3,.aw x.c),(5,.aw m.c),(7,iV i)]/\∀j (h:j<row.length),j<i->¬row[j].m=m)
   (λo=>(∃(i:Nat) (h:i<row.length),row[i].m=m/\(∀j (h:j<row.length),j<i->¬row[j].m=m)/\∃d s',o=.code .ret d s'/\look d 6=some (iV row[i].to))∨((∀j (h:j<row.length),¬row[j].m=m)/\∃d s',o=.code (.exit 0) d s'))
   0 (by omega) ⟨by simp,λj _ h=>by omega⟩
   (λi e s r u ⟨n,C⟩ q=>by
    have z:(i:Int)<row.length:=by omega
    have f:=nB row[i].m m;have V:=bo u (by omega);simp only[Mv.c]at f;simp only[ab,ae,Fa.c,Mv.c]at n;by_cases D:row[i].m=m
    .rw[ey D]at f;simp[U.CP,n,v,b,u,z,f]at q;subst q;exact .inr ⟨by simp,.inl ⟨i,u,D,C,_,_,rfl,by simp[iV]⟩⟩
    rw[ef D]at f;simp[U.CP,n,v,b,u,z,f,V]at q;subst q;refine .inl ⟨_,_,rfl,by simp[n,iV],λj X Y=>?_⟩;by_cases A:j<i
    .exact C j X A
    obtain rfl:j=i:=by omega
    exact D)
   (λe s r ⟨n,C⟩ q=>by
    simp only[ab,ae,Fa.c,Mv.c]at n;simp[U.CP,n,v,b]at q;subst q;exact⟨by simp,.inr ⟨λj h=>C j h h,_,_,rfl⟩⟩)
 clear I;rcases O with⟨i,u,G,Z,d,s',rfl,h6⟩|⟨G,d,s',rfl⟩
 .subst l;rw[yy u G Z];simp[h6,aa]
 subst l;rw[yz G];simp[aa]
def w74{x:Fa}(A:cf x)(l:bc)(J:l.length<=4611686018427387904)(s:HS):R (.call 43 [.agg x.c,.psl (l.map Mv.c)] s)=.val (iV (du x 0 0 l).1) s:=by
 refine q74 ?_;simp[U.b74];generalize I:bJ R (.loop U.CL) _ _=o;have C:∃m s',o=.code (.exit 0) m s'/\look m 5=some (iV (du x 0 0 l).1):=by
  refine ba I l.length
   (λi e s=>∃d:Int,bH e [(1,.psl (l.map Mv.c)),(2,.aw x.c),(5,iV d),(6,iV i)]/\((d= -1/\(du x 0 0 l).1= -1)∨∃p:Nat,d=p/\p<x.nx.length/\du x 0 0 l=du x p i (l.drop i)))
   (λo=>∃m s',o=.code (.exit 0) m s'/\look m 5=some (iV (du x 0 0 l).1))
   0 (by omega) ⟨0,by simp[iV],.inr ⟨0,rfl,A.pos,rfl⟩⟩
   (λi e s r z ⟨d,f,D⟩ h=>by
    have n:(i:Int)<l.length:=by omega
    have M:=bo z J;simp only[ab,ae,Fa.c]at f;rcases D with⟨rfl,b⟩|⟨p,rfl,E,b⟩
    .simp[U.CL,f,z,n]at h;subst h;exact .inr ⟨by simp,_,_,rfl,by simp[f,b,iV]⟩
    have u:=w93 A E l[i];simp only[Fa.c,Mv.c,iV]at u;have gw:l.drop i=l[i]::l.drop (i+1):=nU z;have G:¬(p:Int)<0:=by omega
    simp[U.CL,f,z,n,G,u,M]at h;subst h;refine .inl ⟨_,_,rfl,fe x p l[i],by simp[f,iV],?_⟩;rw[gw,du]at b;rcases ix A E l[i]with v|⟨q,v,C⟩
    .rw[v,ar rfl]at b;exact .inl ⟨v,by rw[b]⟩
    rw[v,au (by omega),hY]at b;exact .inr ⟨q,v,C,b⟩)
   (λe s r ⟨d,f,D⟩ h=>by
    simp only[ab,ae,Fa.c]at f;simp[U.CL,f]at h;subst h;refine⟨by simp,_,_,rfl,?_⟩;rcases D with⟨rfl,b⟩|⟨p,rfl,E,b⟩
    .simp[f,b,iV]
    rw[Cr (aW _),du]at b;simp[f,b,iV])
 clear I;obtain⟨m,s',rfl,O⟩:=C;simp[O,aa]
def Vh(x:Fa)(w:bc):Bool:=if(du x 0 0 w).1= -1 then false else x.fi.getD (du x 0 0 w).1.toNat false
def ZS{x:Fa}(h:cf x)(l:bc)(r:l.length<=4611686018427387904)(s:HS):R (.call 17 [.agg x.c,.psl (l.map Mv.c)] s)=.val (.bool (Vh x l)) s:=by
 refine XR ?_;have b:=w74 h l r;simp only[Fa.c]at b;unfold Vh;by_cases m:(du x 0 0 l).1= -1
 .rw[m]at b;rw[ar m];simp only[iV]at b;simp[U.Jl,b,aa]
 obtain⟨q,v,d⟩:=Ft h l 0 0 h.pos m;rw[d]at b;rw[au m,d,hY];simp only[iV]at b;have u:=h.nf;have f:q<x.fi.length:=by omega
 have n:(q:Int)<x.fi.length:=by omega
 have p:¬(q:Int)<0:=by omega
 rw[getD_at f];simp[U.Jl,b,p,f,n,aa]
def Ov{a:Ar}{x:Fa}(b:cf x)(l:bc)(d:l.length<=4611686018427387904)(s:HS):R (.call 6 [.agg (gu a x),.psl (l.map Mv.c)] s)=.val (.bool (Vh x l)) s:=by refine XO ?_ rfl (by simp[gu]);have h:=ZS b l d;simp only[Fa.c]at h;simp[U.N4,gu,h,aa]
def KN{a:Ar}{x:Fa}(b:cf x)(s:HS):R (.call 6 [.agg (gu a x),.ah] s)=.val (.bool (x.fi.getD 0 false)) s:=by have h:=Ov (a:=a) b [] (by simp) s0;unfold Vh at h;rw[au (by simp[du])]at h;exact uD 6 U.N5 _ [.agg (gu a x),.psl []] _ s rfl rfl rfl (by have:=dy (gu a x) (by simp[gu]);simp only[cj,bV,this,jb]) (by simp[da,dX]) (by have:=kW (gu a x) (by simp[gu]);simp only[n9,nn,this]) (by simp[gu]) h
def ZT{x:Fa}(f:cf x)(s:HS):R (.call 33 [.agg x.c] s)=.val (.bool (decide (1<x.nx.length)||x.fi.getD 0 false)) s:=by
 refine XT ?_;have m:=f.nf;have l:=f.pos;by_cases h:1<x.nx.length
 .have b:(1:Int)<x.fi.length:=by omega
  simp[U.Jm,h,b,aa]
 have b:¬(1:Int)<x.fi.length:=by omega
 have h0:0<x.fi.length:=by omega
 have d:(0:Int)<x.fi.length:=by omega
 rw[getD_at h0];simp[U.Jm,h,b,h0,d,aa]
section
variable{s:HS}{av:aZ}{L:cE}{K:dv}
def ck.sl{v:HV}{sz:Nat}{F:bU}{aq:aO}(h:ck s v sz F aq)(h0:aq≠ []):∃o a b c,v=.sl o a b c:=by
 rcases h.2.2 with⟨_,f⟩|⟨o,t,l,g,d,rfl,_⟩
 .exact(h0 f).elim
 exact⟨_,_,_,_,rfl⟩
def KO(h:aG s av L K)(w:bc)(J:w.length<=4000):∃o a b c s' d,R (.call 10 [.psl (w.map Mv.c)] s)=.val (.sl o a b c) s'/\aG s' d (L++[(.sl o a b c,4,w.map Mv.c)]) K:=by
 obtain⟨C,p⟩:=h.HT 4;generalize q:HS.mk _ _ _ _=E at p;have G:(L++[(HV.sl s.nx 0 0 4,4,([]:aO))])[L.length]?=some (.sl s.nx 0 0 4,4,[]):=by simp
 have key:∃o a b c s' d,lS 4 4398046511104 none (some (.sl s.nx 0 0 4)) (some (.psl (w.map Mv.c))) E=.v (.sl o a b c) s'/\aG s' d (L++[(.sl o a b c,4,w.map Mv.c)]) K:=by
  by_cases h0:w=[]
  .subst h0;exact⟨_,_,_,_,_,_,mq rfl,p⟩
  obtain⟨v,s2,l,u,M,m⟩:=p.append L.length G (new:=w.map Mv.c) (Sz.map (f:=Mv.c) (λx=>rfl) _) (by simpa using h0) (bw:=4398046511104) (by simp;omega);have n:(L++[(HV.sl s.nx 0 0 4,4,([]:aO))]).set L.length (v,4,[]++w.map Mv.c)=L++[(v,4,w.map Mv.c)]:=by simp
  rw[n]at m;obtain⟨o,a,b,c,rfl⟩:=(m.mem.own L.length v 4 (w.map Mv.c) (by simp)).sl (by simpa using h0);exact⟨_,_,_,_,_,_,u,m⟩
 obtain⟨o,a,b,c,s2,l,u,m⟩:=key;have z:∃A,ev R U.υ (bb [.psl (w.map Mv.c)] 0) s=.code .ret A s2/\look A 2=some (.sl o a b c):=by generalize D:ev R U.υ (bb [.psl (w.map Mv.c)] 0) s=r;simp[U.υ,q,u]at D;subst D;exact⟨_,rfl,by simp⟩
 obtain⟨A,z,I⟩:=z;exact⟨o,a,b,c,s2,l,n15 rfl ⟨.ret,_,s2,z,.inr rfl,by simp[I]⟩,m⟩
def qW(e:Eg):aj:=e.m.c
def TX(h:aG s av L K){x:Fa}(hx:cf x){p:Nat}(E:p<x.nx.length):∃v s' b,R (.call 34 [.agg x.c,iV p] s)=.val v s'/\aG s' b (L++[(v,4,(dj x p).map qW)]) K:=by
 have h1:(p:Int)<x.nx.length:=by omega
 have l:x.nx[p]=dj x p:=(getD_at E _).symm;have G:(dj x p).length<=6000:=by rw[<-l];exact hx.row E
 have I:=h.push 4;have J:∃d s' b v,ev R U.FV (bb [.agg x.c,iV p] 0) s=.code .ret d s'/\look d 4=some v/\aG s' b (L++[(v,4,(dj x p).map qW)]) K:=by
  generalize f:ev R U.FV (bb [.agg x.c,iV p] 0) s=r;simp[U.FV,E,l]at f;generalize M:ev R (.loop U.uN) _ _=o at f;obtain⟨row,O⟩:∃row,row=dj x p:=⟨_,rfl⟩;rw[<-O]at G M ⊢;have hq:∃d s' b v,o=.code (.exit 0) d s'/\look d 4=some v/\aG s' b (L++[(v,4,row.map qW)]) K:=by
   refine eU M row.length
    (λi e s=>∃(av:aZ) (v:HV),bH e [(4,v),(12,.psl (row.map Eg.c)),(13,iV row.length),(14,iV i)]/\aG s av (L++[(v,4,(row.take i).map qW)]) K)
    (λo=>∃d s' b v,o=.code (.exit 0) d s'/\look d 4=some v/\aG s' b (L++[(v,4,row.map qW)]) K)
    0 (by omega) ⟨_,.ah,by simp[iV],by simpa using I⟩
    (λi e s r V ⟨av,v,n,m⟩ f=>by
     have X:(i:Int)<row.length:=by omega
     have q:=m.ds (row[i]).c;have u:=(q.bD 0 _ _ rfl).1.1;generalize z:HS.mk _ _ _ _=S1 at q u;have hg:(L++[(v,4,(row.take i).map qW)])[L.length]?=some (v,4,(row.take i).map qW):=by simp
     obtain⟨Y,s2,c2,Z,k2,A⟩:=q.append L.length hg (new:=[qW row[i]]) (Sz.cons rfl Sz.nil) (by simp) (bw:=4398046511104) (by simp;omega);have hw:=bo V (by omega);have C:(L++[(v,4,(row.take i).map qW)]).set L.length (Y,4,(row.take i).map qW++[qW row[i]])=L++[(Y,4,(row.take (i+1)).map qW)]:=by rw[fC V,fB];simp
     rw[C]at A;simp only[Eg.c,Mv.c,qW,az,aE,bF,Nat.reduceAdd]at u z Z;simp only[ab,ae]at n;simp[U.uN,n,V,X,z,u,ai,an,ao,Z,hw]at f;subst f;exact .inl ⟨_,_,rfl,c2,Y,by simp[n,iV],A.Gr⟩)
    (λe s r ⟨av,v,n,m⟩ f=>by
     rw[iH (aW _)]at m;simp only[ab,ae]at n;simp[U.uN,n]at f;subst f;exact⟨by simp,_,_,av,v,rfl,by simp[n],m⟩)
  clear M;obtain⟨d,s',b,v,rfl,D,m⟩:=hq;simp[D]at f;subst f;exact⟨_,_,b,v,rfl,by simp[D],m⟩
 obtain⟨d,s',b,v,J,D,m⟩:=J;exact⟨v,s',b,XU rfl ⟨.ret,_,s',J,.inr rfl,by simp[D]⟩,m⟩
end
def KP(l:bq):∀c∈aB (l.map qW),eN c=true:=by
 induction l with
 |nil=>intro c b;cases b
 |cons a l d=>
  intro c b;rw[cx,cV]at b;rcases cP.1 b with h|h
  .simp only[qW,Mv.c,bk,BI,BJ]at h;rcases h with rfl|rfl|rfl|rfl<;>rfl
  exact d c h
def ZU{a:Ar}{x:Fa}(ok:dW a)(p:cf x)(z:∀s,R (.call 54 [.agg (gu a x)] s)=.val (iV 0) s)(h0:¬(x.nx.length=1/\x.fi.getD 0 false=false))(w:bc)(hw:w.length<=400)(X:lE a w=0){q:Nat}(Y:q<x.nx.length){n:Int}(Z:du x 0 0 w=((q:Int),n)):
  fL U.FR R [.agg (gu a x),.psl (w.map Mv.c)]=true/\∀s,R (.call 11 [.agg (gu a x),.psl (w.map Mv.c)] s)=.val (.bM [.psl ((dj x q).map qW),iV 0]) s:=by
 obtain⟨r,A⟩:∃r,bJ R U.Jk (bb [.agg (gu a x),.psl (w.map Mv.c)] 0) s0=r:=⟨_,rfl⟩
 suffices h:n5 [.tmp 4,.tmp 5] r=some (.bM [.psl ((dj x q).map qW),iV 0])/\Tl [.tmp 4,.tmp 5] r=true by obtain⟨u,J⟩:=h;rw[<-A]at u J;exact⟨by rw[pz];exact J,λs=>XP u rfl (by simp[gu])⟩
 have l:=w68 ok z w;rw[X]at l;have m:=w48 p w (by omega);rw[Z]at m;have b:=ZT p;have hb:(decide (1<x.nx.length)||x.fi.getD 0 false)=true:=by
  have:=p.pos;by_cases u:1<x.nx.length
  .simp[u]
  cases C:x.fi.getD 0 false
  .exact(h0 ⟨by omega,C⟩).elim
  simp
 rw[hb]at b;have D:aG s0 (λ_=>none) [] []:=⟨dR.start (by simp),by simp,by simp⟩;have E:=D.ds x.c;generalize M:HS.mk _ _ _ _=S0 at E;have d0:=(E.bD 0 _ _ rfl).1.1;obtain⟨v,s2,O,d,G⟩:=TX E p Y;have I:¬(q:Int)= -1:=by omega
 have f:=G.mem.own 0 v 4 ((dj x q).map qW) (by simp);simp only[Fa.c,iV]at m b d;simp only[gu,Fa.c,iV]at l;simp only[Fa.c,az,aE,bF,Nat.reduceAdd]at M d0;simp[U.Jk,gu,l,M,d0,m,b,I,d,ai,an,ao]at A;subst A;refine⟨?_,rW (v:=.bM [v,iV 0]) (s':=s2) (by simp[iV]) (Gn λc V=>?_)⟩
 .have hv:=f.vw (n:=13) (cq (λx=>by simp[qW,dX]) _);simp;exact aH (.bM (.cons hv (.data (by simp))))
 simp only[bk,BI,BJ]at V;rcases V with rfl|rfl
 .exact pX f (KP _)
 exact yb rfl
def Dv.mono{l:jL}{aq:aO}{D b:Nat}(h:Dv l aq D)(d:D<=b):Dv l aq b:=⟨h.len,h.row,λx f=>fz (h.op x f) d⟩
def ag5(a:Ar)(ok:dW a)(hc:aI a=0)(x:Fa)(hx:cf x){N D:Nat}(hN:Ku a x N D){i:Nat}(hi:i<N){g:Lg}(hg:eZ a x i=some g){e:En}{s:HS}{r:Out}{v4 v5 v6 v7 v8:HV}{av:aZ}{E6 aq:aO}
  (hL:bH e [(2,.aw a.c),(3,.aw x.c),(4,v4),(5,v5),(6,v6),(7,v7),(8,v8),(9,iV i)])
  (Z:aG s av [(v6,1,E6),(v7,1,g.kn.map bC),(v8,5,aq)] [])(hE:H0 g.op E6)(hS:Dv g.l aq D)(p:i<g.l.length)(I:bJ R U.lB e s=r)(f:BP x g g.l[i]=false)(h3:(g.l[i]).st<x.nx.length):
  ((∃k,∃h:k<x.nx[(g.l[i]).st].length,gS a (g.l[i]).mn x.nx[(g.l[i]).st][k].m=false)/\∃e' s',r=.code .ret e' s'/\look e' 4=some .ah/\look e' 5=some (.bool false))∨
  ((∀k,(h:k<x.nx[(g.l[i]).st].length)->gS a (g.l[i]).mn x.nx[(g.l[i]).st][k].m=true)/\∃(e':En) (s':HS),r=.code .normal e' s'/\∃(av:aZ) (v6 v7 v8:HV) (E6 aq:aO),bH e' [(2,.aw a.c),(3,.aw x.c),(4,v4),(5,v5),(6,v6),(7,v7),(8,v8),(9,iV (i+1:Nat))]/\
   aG s' av [(v6,1,E6),(v7,1,(g.kn.set (g.l[i]).st true).map bC),(v8,5,aq)] []/\H0 (g.op.set (g.l[i]).st (g.l[i]).mn.op) E6/\Dv (jo g.l[i] g.l x.nx[(g.l[i]).st]) aq (D+1)):=by
 obtain⟨hj,hl,h6,kd,hq,J⟩:=hN.st i g hg;have hD:=hN.d;have hn:=hx.n;have ke:=hx.nf;have ka:=hx.pos;have hle:=hN.le i g g.l[i] hg (aR p);generalize C:g.l[i]=b at*;have h7:b∈g.l:=by rw[<-C];exact cp p
 have u:=h3;have hs:=(hj b h7).2;rw[getD_at u]at hle;have hB:=hle;obtain⟨o6,rfl⟩:=(Z.mem.own 0 _ _ _ rfl).gw (by intro h;have:=hE.len;rw[h]at this;simp at this;omega);obtain⟨o7,rfl⟩:=(Z.mem.own 1 _ _ _ rfl).gw (by intro h;have:=cC List.length h;simp at this;rw[this]at J;simp at J;omega);obtain⟨o8,rfl⟩:=(Z.mem.own 2 _ _ _ rfl).gw (by intro h;have h1:=hS.len;rw[h]at h1;exact h6 (iJ h1.symm));rw[hE.len,hq,bG,J,hS.len]at hL Z;obtain⟨vo,q,E⟩:=(hS.row i p).ex;rw[C]at q E;obtain⟨ob,g1,_,_,g4⟩:=(Z.mem.own 2 _ _ _ rfl).at (k:=.i64) i (by rw[hS.len];exact p);have ht:ob=o8:=by simp[p]at g1;exact g1.symm
 subst ht;rw[E]at g4;have v:=Z.ds [iV b.st,vo,.bool b.mn.lost,.bool b.mn.forced,.bool b.mn.begun];have hC:=(v.bD 0 _ _ rfl).1.1;generalize M:HS.mk _ _ _ _=S1 at v hC;obtain⟨vq,hy,hz,kg⟩:=hE.row b.st (by omega);have g6:eG (ak S1.h o6) b.st=some vq:=by rw[(v.mem.own 0 _ _ _ rfl).cell b.st (by rw[hE.len];omega),hy];rfl
 have g7:eG (ak S1.h o7) b.st=some (.bool (g.kn[b.st]'(by omega))):=kV (v.mem.own 1 _ _ _ rfl) (aR (by omega));have z:=Ol vq vo _ _ hz q (by have:=hl _ (cp (show b.st<g.op.length by omega));omega);have A:=Ok _ b.mn q.mn;unfold BP at f;rw[getD_at (by omega),getD_at (by omega),getD_at (by omega),getD_at (by omega)]at f;have G:(i:Int)<g.l.length:=by omega
 have kb:(b.st:Int)<x.nx.length:=by omega
 have h8:b.st<x.fi.length:=by omega
 have kc:(b.st:Int)<x.fi.length:=by omega
 have k0:0<x.fi.length:=by omega
 simp only[ab,ae]at hL;simp only[az,aE,bF,Nat.reduceAdd,iV]at hC M g4;have hw:bQ .i64 ((i:Int)+1)=(i:Int)+1:=bo (n:=3518437208883) (show i<3518437208883 by have:=hN.n;omega) (by omega);have k1:=hS.mono (show D<=D+1 by omega);obtain⟨p6,S2,a6,b6,O⟩:=v.iY 0 rfl b.st (by rw[hE.len];omega) q.one;simp only[aQ]at O;have V:=(O.bD 0 _ _ rfl).1.1;obtain⟨p7,S3,a7,b7,X⟩:=O.iY 1 rfl b.st (by rw[bG];omega) (x:=.bool true) rfl;simp only[cd,aQ]at X;rw[show List.set (g.kn.map bC) b.st [HV.bool true]=(g.kn.set b.st true).map bC by rw[mA]]at X;simp[u]at a6 a7;subst a6;subst a7;simp only[iu]at b6 b7;simp only[az,aE,bF,Nat.reduceAdd,iV]at V;have k2:x.fi[b.st]=b.mn.over∨(¬x.fi[b.st]=b.mn.over/\x.nx.length=1/\x.fi[0]=false):=by
  by_cases h:x.fi[b.st]=b.mn.over
  .exact .inl h
  refine .inr ⟨h,?_⟩;rw[A8]at f;have h2:=f.2;rw[show(x.fi[b.st] != b.mn.over)=true by simpa using h,iI]at h2;simpa using h2
 have hp:g.kn[b.st]'(by omega)=true->nH g.op[b.st]=nH b.mn.op:=λhk=>by rw[A8,hk,iI]at f;simpa using f.1
 cases hk:g.kn[b.st]'(by omega)<;>rw[hk]at g7<;>(try rw[ey (hp hk)]at z)<;>rcases k2 with k3|⟨k4,ki,hf⟩<;>first
  |(rw[<-k3]at A;simp-implicitDefEqProofs[U.lB,hL,p,G,g4,M,ai,an,ao,hC,V,u,g6,g7,A,h8,b6,b7,z]at I)
  |(have h9:(x.nx.length:Int)=1:=(by omega);simp-implicitDefEqProofs[U.lB,hL,p,G,g4,M,ai,an,ao,hC,V,u,g6,g7,A,h8,b6,b7,z,k4,h9,k0,hf]at I)
 all_goals
  generalize ho:bJ R (.loop U.zz) _ _=o at I;rcases agT a ok hc x hx b u (by omega) hs g.l hB q (v4:=v4) (v5:=v5) (v6:=.sl o6 0 x.nx.length 1) (v7:=.sl o7 0 x.nx.length 1) (v8:=.sl ob 0 g.l.length 5) (v9:=iV i) (o10:=s.nx) (by simp[hL]) X k1 h6 ho with⟨k,k5,k6,e',s',rfl,h4,h5⟩|⟨ha,e',s',hb,k7,hd,rfl,Y,k8,k9⟩
  .simp at I;subst I;exact .inl ⟨⟨k,k5,k6⟩,_,_,rfl,h4,h5⟩
  simp only[ab,ae]at Y;simp[Y,hw]at I;subst I;exact .inr ⟨ha,_,_,rfl,hb,_,_,k7,_,hd,by simp[Y],k8,hE.set q,k9⟩
def H4{a:Ar}{x:Fa}{i:Nat}(h:eZ a x i=none)(d:Nat):eZ a x (i+d)=none:=by induction d with|zero=>exact h|succ d b=>show eZ a x ((i+d)+1)=none;rw[eZ,b];rfl
def H5{a:Ar}{x:Fa}{i:Nat}{g:Lg}(h:eZ a x i=some g)(f:g.l.length<=i)(d:Nat):eZ a x (i+d)=some g:=by induction d with|zero=>exact h|succ d b=>show eZ a x ((i+d)+1)=some g;rw[eZ,b,Option.bind_some,nY,zq (by omega)]
def ZV{e:En}{s:HS}{i:Nat}{g:Lg}{aq h m:aO}{v2 v3 v4 v5 v6 v7 v8:HV}{av:aZ}{D:Nat}{r:Out}
  (d:bH e [(2,v2),(3,v3),(4,v4),(5,v5),(6,v6),(7,v7),(8,v8),(9,iV i)])(n:aG s av [(v6,1,h),(v7,1,m),(v8,5,aq)] [])(p:Dv g.l aq D)(q:¬i<g.l.length)(f:bJ R U.lB e s=r):
  r=.code (.exit 0) (e.p8 29 (.bool false)) s:=by
 have hlen:=n.mem.len 2 rfl s;rw[p.len]at hlen;have b:¬(i:Int)<g.l.length:=by omega
 simp only[ab,ae]at d;simp[U.lB,d,hlen,b]at f;exact f.symm
def ag6(a:Ar)(ok:dW a)(hc:aI a=0)(x:Fa)(hx:cf x){N D:Nat}(E:Ku a x N D){g0:Lg}(Z:eZ a x 0=some g0){e:En}{s:HS}{o:Out}{v4 v5 v6 v7 v8:HV}{av:aZ}{d aq:aO}
  (n:bH e [(2,.aw a.c),(3,.aw x.c),(4,v4),(5,v5),(6,v6),(7,v7),(8,v8),(9,iV 0)])
  (u:aG s av [(v6,1,d),(v7,1,g0.kn.map bC),(v8,5,aq)] [])(z:H0 g0.op d)(A:Dv g0.l aq D)(ho:bJ R (.loop U.lB) e s=o):
  (eZ a x N=none/\∃e' s',o=.code .ret e' s'/\look e' 4=some .ah/\look e' 5=some (.bool false))∨
  (∃g,eZ a x N=some g/\∃(e':En) (s':HS) (av:aZ) (v6 v7 v8:HV) (d aq:aO),o=.code (.exit 0) e' s'/\look e' 6=some v6/\aG s' av [(v6,1,d),(v7,1,g.kn.map bC),(v8,5,aq)] []/\H0 g.op d):=by
 refine ba ho N
  (λi e s=>∃(g:Lg) (av:aZ) (v6 v7 v8:HV) (d aq:aO),eZ a x i=some g/\bH e [(2,.aw a.c),(3,.aw x.c),(4,v4),(5,v5),(6,v6),(7,v7),(8,v8),(9,iV i)]/\aG s av [(v6,1,d),(v7,1,g.kn.map bC),(v8,5,aq)] []/\H0 g.op d/\Dv g.l aq D)
  (λo=>(eZ a x N=none/\∃e' s',o=.code .ret e' s'/\look e' 4=some .ah/\look e' 5=some (.bool false))∨
  (∃g,eZ a x N=some g/\∃(e':En) (s':HS) (av:aZ) (v6 v7 v8:HV) (d aq:aO),o=.code (.exit 0) e' s'/\look e' 6=some v6/\aG s' av [(v6,1,d),(v7,1,g.kn.map bC),(v8,5,aq)] []/\H0 g.op d))
  0 (by omega) ⟨g0,av,v6,v7,v8,d,aq,Z,n,u,z,A⟩
  (λi e s r hi ⟨g,av,v6,v7,v8,d,aq,v,n,u,z,A⟩ G=>by
   by_cases f:i<g.l.length
   .have p:=aR f;have C:=((E.st i g v).1 _ (cp f)).1;have q:eZ a x (i+1)=none->eZ a x N=none:=λh=>by have:=H4 h (N-(i+1));rwa[show i+1+(N-(i+1))=N by omega]at this
    have m:eZ a x (i+1)=nY a x g i:=by rw[eZ,v];rfl
    cases b:BP x g g.l[i]
    .rcases ag5 a ok hc x hx E hi v n u z A f G b C with⟨⟨k,hk,I⟩,e',s',rfl,h4,h5⟩|⟨J,e',s',rfl,M,h1,h2,h3,h6,O,h7,h8,h9,V⟩
     .refine .inr ⟨by simp,.inl ⟨q ?_,_,_,rfl,h4,h5⟩⟩;rw[m,nY,p];simp only[b];rw[getD_at C,au (by simp),au];simp only[BD,JP];exact⟨_,cp hk,by simp[I]⟩
     have X:eZ a x (i+1)=some ⟨jo g.l[i] g.l x.nx[(g.l[i]).st],g.op.set (g.l[i]).st (g.l[i]).mn.op,g.kn.set (g.l[i]).st true⟩:=by rw[m,nY,p];simp only[b];rw[getD_at C,au (by simp),ar];rw[fq];intro e he;obtain⟨k,hk,rfl⟩:=eH.1 he;exact J k hk
     refine .inl ⟨_,_,rfl,_,M,h1,h2,h3,h6,O,X,h7,h8,h9,V.len,V.row,λy hy=>((E.st _ _ X).1 y hy).2⟩
    obtain⟨e',s',rfl,h4,h5⟩:=agU a ok hc x hx E hi v n u z A f G b;refine .inr ⟨by simp,.inl ⟨q ?_,_,_,rfl,h4,h5⟩⟩;rw[m,nY,p];simp only[b,bj]
   have:=ZV n u A f G;subst this;have Y:=H5 v (by omega) (N-i);rw[show i+(N-i)=N by omega]at Y;simp only[ab,ae]at n;exact .inr ⟨by simp,.inr ⟨g,Y,_,_,av,v6,v7,v8,d,aq,rfl,by simp[n],u,z⟩⟩)
  (λe s r ⟨g,av,v6,v7,v8,d,aq,v,n,u,z,A⟩ G=>by
   have f:¬N<g.l.length:=by have:=E.fin g v;omega
   have:=ZV n u A f G;subst this;simp only[ab,ae]at n;exact⟨by simp,.inr ⟨g,v,_,_,av,v6,v7,v8,d,aq,rfl,by simp[n],u,z⟩⟩)
def aG.ag7{s:HS}{av:aZ}{L:cE}{K:dv}(h:aG s av L K){sz:Nat}{t:aO}(f:Sz sz t):∃b,aG {h:=ax (some (.cells (cM (aB t)) 0 (aB t).length s.nx)) s.nx s.h,nx:=s.nx.succ,gr:=ax (some [s.nx]) s.nx s.gr,ty:=s.ty} b (L++[(.sl s.nx 0 t.length sz,sz,t)]) K:=by
 have l:=Ky.aV s.nx;refine h.join (cX.alloc _ _) (F:=λk=>k=s.nx) ⟨f,λk d=>by subst d;simp only;omega,.inr ⟨s.nx,cM (aB t),(aB t).length,s.nx,[],rfl,?_,by rw[cI f];exact aW _,by simp,?_,by simp,by simp,rfl⟩⟩ (λk d=>by subst d;exact aW _)
 .simp only;rw[af,ar rfl]
 simp only;rw[af,ar rfl]
def w96(a:Ar)(ok:dW a)(X:aI a=0)(x:Fa)(M:cf x){N D:Nat}(Y:Ku a x N D):∃v,∀s,R (.call 42 [.agg a.c,.agg x.c] s)=.val (.bM [v,.bool (eZ a x N).isSome]) s:=by
 have hn:=M.n
 suffices h:∃v,n5 [.tmp 4,.tmp 5] (bJ R U.b96 (bb [.agg a.c,.agg x.c] 0) s0)=some (.bM [v,.bool (eZ a x N).isSome]) by obtain⟨v,h⟩:=h;exact⟨v,λs=>q96 h⟩
 have h0:aG s0 (λ_=>none) [] []:=⟨dR.start (by simp),by simp,by simp⟩;obtain⟨Z,m1,q,r⟩:=lH (s:=s0) (n:=x.nx.length) (bw:=5864062014805) (by omega) .ah;obtain⟨c1,u⟩:=h0.join r q (λk z=>by subst z;exact aW _);obtain⟨s2,m2,A,C⟩:=lH (s:=Z) (n:=x.nx.length) (bw:=140737488355328) (by omega) (.bool false);obtain⟨c2,E⟩:=u.join C A (λk z=>by subst z;exact aW _);obtain⟨c3,b⟩:=E.ag7 (sz:=5) (t:=[[.int .i64 0,.ah,.bool false,.bool false,.bool false]]) (Sz.cons rfl Sz.nil);simp only[bA,bx]at b;generalize m:HS.mk _ _ _ _=S3 at b;simp only[cV,ml,bx,bA,az,aE,bF,Nat.reduceAdd]at m b;simp[U.b96,m1,m2,m];generalize ho:bJ R (.loop U.lB) _ _=o;have hS:Dv [⟨0,⟨[],false,false,false⟩⟩] [[.int .i64 0,.ah,.bool false,.bool false,.bool false]] D:=by
  refine⟨rfl,λi h=>?_,λy hy=>?_⟩
  .have h0:i=0:=by simpa using h
   subst h0;exact .inr ⟨rfl,rfl⟩
  rw[dq.1 hy];exact fm _
 rw[show List.replicate x.nx.length [HV.bool false]=(List.replicate x.nx.length false).map bC by simp]at b;rcases ag6 a ok X x M Y (g0:=⟨[⟨0,⟨[],false,false,false⟩⟩],List.replicate x.nx.length [],List.replicate x.nx.length false⟩) rfl (v4:=.ah) (v5:=.bool false) (by simp) b (H0.start _) hS ho with⟨G,e',s',rfl,h4,h5⟩|⟨g,G,e',s',av,v6,v7,v8,l,aq,rfl,h6,hM,p⟩
 .rw[G];refine⟨.psl [],?_⟩;simp[h4,h5];exact aH (.bM (.cons .ah (.data (by simp))))
 rw[G];refine⟨.psl ((List.range l.length).map λi=>[.psl ((g.op.getD i []).map Mv.c)]),?_⟩;simp[h6];refine aH (.bM (.cons ?_ (.data (by simp))));have I:l=(List.range l.length).map λi=>[(l.getD i []).getD 0 .ah]:=by
  refine qi (by simp) λi O h2=>?_
  obtain⟨v,J,_,_⟩:=p.row i (by rw[<-p.len];exact O);simp only[Bu,BN,getD_at O,J];rfl
 have V:=hM.mem.own 0 _ _ _ rfl;rw[I]at V;have hv:=V.vwH (f:=λi=>(l.getD i []).getD 0 .ah) (g:=λi=>HV.psl ((g.op.getD i []).map Mv.c)) (n:=14) (λi hi=>?_)
 .simpa using hv
 have d:i<l.length:=by simpa using hi
 obtain⟨v,J,k2,_⟩:=p.row i (by rw[<-p.len];exact d);simp only[getD_at d,J,getD_at (show i<g.op.length by rw[<-p.len];exact d)];rcases k2 with rfl|⟨h0,rfl⟩
 .exact .data (by simp)
 rw[h0];exact .ah
def w29(t:Sx)(O:∀r∈t.x.nx,r.length<=70368744177664):∃b,(∀s,R (.call 4 [.agg t.c] s)=.val (.bool b) s)/\(b=true->∃x,t.x=x.i/\Rt t.a x):=by
 obtain⟨FJ,f,A⟩:=w10 t O;simp only[Sx.c]at f;cases FJ with
 |false=>refine⟨false,λs=>?_,λh=>by cases h⟩;refine XN ?_;simp[U.N3,f,aa]
 |true=>
  obtain⟨n,G,X,I⟩:=A rfl;have m:mw t.x:=⟨by omega,by omega,by omega⟩;by_cases l:aI t.a=0
  .by_cases C:Fc t.x
   .obtain⟨y,p,z,J,M⟩:=C;have q:y.nx.length<=24:=by rw[p]at G;simpa[Fa.i]using G
    have u:(y.nx.map List.length).sum<=120:=by rw[p]at I;simpa[Fa.i,Function.comp_def]using I
    have V:=TO z l (KM n l) q u;obtain⟨v,D⟩:=w96 t.a n.ok l y z V;have d:=w66 t n.ok m v (eZ t.a y 3518437208883).isSome (λ_ _ s=>by rw[p,Fa.Yb];exact D s);rw[ar l,ar ⟨y,p,z,J,M⟩]at d;simp only[Sx.c,iV]at d;cases E:eZ t.a y 3518437208883 with
    |none=>rw[E]at d;refine⟨false,λs=>?_,λh=>by cases h⟩;refine XN ?_;simp only[Option.isSome_none,cz,bn]at d;simp[U.N3,f,d,aa]
    |some g=>rw[E]at d;refine⟨true,λs=>?_,λ_=>⟨y,p,⟨n,l,z,J,M,q,u,⟨g,E⟩⟩⟩⟩;refine XN ?_;simp only[Option.isSome_some,bj]at d;simp[U.N3,f,d,aa]
   have d:=w66 t n.ok m (iV 0) false (λ_ h=>(C h).elim);rw[ar l,au C]at d;simp only[Sx.c,iV]at d;refine⟨false,λs=>?_,λh=>by cases h⟩;refine XN ?_;simp[U.N3,f,d,aa]
  have d:=w66 t n.ok m (iV 0) false (λh=>(l h).elim);rw[au l]at d;simp only[Sx.c,iV]at d;refine⟨false,λs=>?_,λh=>by cases h⟩;refine XN ?_;simp[U.N3,f,d,l,aa]
def TY(a:Ar)(x:Fa):(Sx.mk a x.i).c=gu a x:=by have:=x.Yb;simp only[Ax.c,Fa.c,qp]at this;simp only[Sx.c,gu,this.1,this.2.1]
def TZ{row:bq}{w:bc}{j:Nat}(q:j<w.length)(u:row.length<=6000)(v:∀e∈row,e.m≠w[j]){e:En}{s:HS}{o:Out}{v2:HV}
  (z:bH e [(1,.psl (w.map Mv.c)),(2,v2),(5,iV j),(8,.psl (row.map qW)),(10,iV 0)])(A:bJ R (.loop U.rC) e s=o):
  ∃e',o=.code (.exit 0) e' s/\bH e' [(1,.psl (w.map Mv.c)),(2,v2),(5,iV j)]:=by
 refine ba A row.length
  (λi e s'=>s'=s/\bH e [(1,.psl (w.map Mv.c)),(2,v2),(5,iV j),(8,.psl (row.map qW)),(10,iV i)])
  (λo=>∃e',o=.code (.exit 0) e' s/\bH e' [(1,.psl (w.map Mv.c)),(2,v2),(5,iV j)])
  0 (by omega) ⟨rfl,z⟩ (λi e s' r h ⟨l,b⟩ f=>?_) (λe s' r ⟨l,b⟩ f=>?_)
 .subst l;have n:(i:Int)<row.length:=by omega
  have p:(j:Int)<w.length:=by omega
  have d:=nB row[i].m w[j];rw[ef (v _ (cp h))]at d;have C:=bo h (by omega);simp only[Mv.c]at d;simp only[ab,ae]at b;simp[U.rC,U.FN,b,h,n,q,p,qW,d,C]at f;subst f;exact .inl ⟨_,_,rfl,rfl,by simp[b,iV,qW]⟩
 subst l;simp only[ab,ae]at b;simp[U.rC,b]at f;subst f;exact⟨by simp,_,rfl,by simp[b,iV]⟩
def T0{a:Ar}{x:Fa}(ok:dW a)(d:cf x)(b:∀s,R (.call 54 [.agg (gu a x)] s)=.val (iV 0) s)(w:bc)(l:w.length<=400){s:HS}{av:aZ}{L:cE}{K:dv}(f:aG s av L K){i:Nat}{o:Ky}{u v z:Nat}(h:L[i]?=some (.sl o u v z,4,w.map Mv.c)):
  R (.call 8 [.agg (gu a x),.sl o u v z] s)=.val (.bM [iV (yB a x w).1,.bool (yB a x w).2.1,iV (yB a x w).2.2]) s:=
 v31 (by simp[cj,bV]) (.cons (.data (by simp[gu])) (.cons ((f.mem.own i _ _ _ h).vw (n:=14) (cq (λx=>by simp) _)) .nil)) (by simp[gu]) rfl (w31 ok d b w (by omega))
def KQ{a:Ar}{x:Fa}(ok:dW a)(d:cf x)(b:∀s,R (.call 54 [.agg (gu a x)] s)=.val (iV 0) s)(h0:¬(x.nx.length=1/\x.fi.getD 0 false=false))(w:bc)(f:w.length<=400)(h:lE a w=0){q:Nat}(l:q<x.nx.length){n:Int}(m:du x 0 0 w=((q:Int),n))
  {s:HS}{av:aZ}{L:cE}{K:dv}(p:aG s av L K){i:Nat}{o:Ky}{u v z:Nat}(r:L[i]?=some (.sl o u v z,4,w.map Mv.c)):
  R (.call 11 [.agg (gu a x),.sl o u v z] s)=.val (.bM [.psl ((dj x q).map qW),iV 0]) s:=by
 obtain⟨A,C⟩:=ZU ok d b h0 w f h l m;exact XQ (by simp[cj,bV]) (.cons (.data (by simp[gu])) (.cons ((p.mem.own i _ _ _ r).vw (n:=14) (cq (λx=>by simp) _)) .nil)) (by simp[gu]) A C
def T1{a:Ar}{x:Fa}(ok:dW a)(ha:a.ids.length<=9)(D:∀t∈a.ids,t.ps.length<=6)(V:cf x)(E:∀s,R (.call 54 [.agg (gu a x)] s)=.val (iV 0) s){w:bc}(hw:w.length<=40){row:bq}(h2:row.length<=6000)
  (hn:∀e∈row,lE a (w++[e.m])=0/\(du x 0 0 (w++[e.m])).1≠ -1){e:En}{s:HS}{o:Out}{av:aZ}{L:cE}(n:aG s av L [])
  (hE:bH e [(1,.psl (w.map Mv.c)),(2,.aw (gu a x)),(14,.psl (row.map qW)),(16,iV 0)])(ho:bJ R (.loop U.pP) e s=o):
  ∃e' s' av L,o=.code (.exit 2) e' s'/\bH e' [(1,.psl (w.map Mv.c)),(2,.aw (gu a x)),(14,.psl (row.map qW))]/\aG s' av L []:=by
 refine ba ho row.length
  (λi e s=>∃av L,bH e [(1,.psl (w.map Mv.c)),(2,.aw (gu a x)),(14,.psl (row.map qW)),(16,iV i)]/\aG s av L [])
  (λo=>∃e' s' av L,o=.code (.exit 2) e' s'/\bH e' [(1,.psl (w.map Mv.c)),(2,.aw (gu a x)),(14,.psl (row.map qW))]/\aG s' av L [])
  0 (by omega) ⟨av,L,hE,n⟩ (λi e s r G ⟨av,L,b,n⟩ h=>?_) (λe s r ⟨av,L,b,n⟩ h=>?_)
 .have p:(i:Int)<row.length:=by omega
  have I:=bo G (by omega);have h3:=b;simp only[ab,ae,gu]at b;by_cases q:(w.length:Int)<40
  case neg=>simp[U.pP,b,p,q]at h;subst h;exact .inr ⟨by simp,_,_,av,L,rfl,by simp[b,gu],n⟩
  case pos=>
   obtain⟨hp,hf⟩:=hn _ (cp G);have l:=w32 ⟨a,x.i⟩ ha D V.ok;rw[TY]at l;obtain⟨X,Y,Z,z1,s1,h1,J,M⟩:=KO n w (by omega);obtain⟨O,s2,A,a2,k2,d⟩:=M.append L.length (v:=.sl X Y Z z1) (sz:=4) (aq:=w.map Mv.c) (by simp) (new:=[row[i].m.c]) (Sz.cons rfl Sz.nil) (by simp) (bw:=4398046511104) (by simp;omega);have C:(L++[(HV.sl X Y Z z1,4,w.map Mv.c)]).set L.length (O,4,w.map Mv.c++[row[i].m.c])=L++[(O,4,(w++[row[i].m]).map Mv.c)]:=by simp
   rw[C]at d;obtain⟨o2,b2,c2,z2,rfl⟩:=(d.mem.own L.length O 4 ((w++[row[i].m]).map Mv.c) (by simp)).sl (by simp);have f:=T0 ok V E (w++[row[i].m]) (by simp;omega) d (i:=L.length) (o:=o2) (u:=b2) (v:=c2) (z:=z2) (by simp);unfold yB at f;rw[ar hp,au hf]at f;simp only[gu,iV]at l f;simp only[Mv.c]at a2;simp[U.pP,U.FP,b,G,p,q,l,J,qW,a2,f,I]at h;subst h;exact .inl ⟨_,_,rfl,A,_,by simp[b,iV,gu,qW],d⟩
 simp only[ab,ae,gu]at b;simp[U.pP,b]at h;subst h;exact⟨by simp,_,_,av,L,rfl,by simp[b,gu],n⟩
def NK{a:Ar}{w:bc}(h:(gl a w).2=0){m:Mv}(d:m∈w):de m= !decide (m.kind=3):=by obtain⟨_,_,_,b,_⟩:=eY (NJ h m d);unfold de;rcases b with b|b|b<;>simp[b]
def T2{a:Ar}{x:Fa}(O:Rt a x)(V:∀s,R (.call 4 [.agg (gu a x)] s)=.val (.bool true) s){w:bc}(hw:w.length<=40)(E:(gl a w).2=0)(h0:¬(x.nx.length=1/\x.fi.getD 0 false=false))(s:HS):
  R (.call 3 [.agg (gu a x),.psl (w.map Mv.c)] s)=.val (.bool true) s:=by
 refine Ga ?_ rfl (by simp[gu]);have h8:=Oh;have ok:=O.th.ok;have hx:=O.hx;have G:=O.w84;have ha:a.ids.length<=9:=O.th.1;have hy:∀t∈a.ids,t.ps.length<=6:=λt h=>(O.th.2.2 t h).1
 have I:=w25 a ok w;rw[ey ⟨hw,E⟩]at I;have b:=KN (a:=a) hx;have D:=w32 ⟨a,x.i⟩ ha hy hx.ok;rw[TY]at D;have hp:lE a w=0:=by rw[pw a ok];exact E
 have k9:aG s0 (λ_=>none) [] []:=⟨dR.start (by simp),by simp,by simp⟩;obtain⟨o1,b1,c1,z1,s1,kk,hz,h9⟩:=KO k9 w (by omega);have r:=T0 ok hx G w (by omega) h9 (i:=0) (o:=o1) (u:=b1) (v:=c1) (z:=z1) rfl;have k0:=(tz O.hc (by omega)).1 E;have hg:(x.nx.length:Int)=1->x.fi.getD 0 false=true:=λh1=>by
  cases ka:x.fi.getD 0 false
  .exact(h0 ⟨by omega,ka⟩).elim
  rfl
 by_cases hf:(du x 0 0 w).1= -1
 .obtain⟨j,q,hq,hj,h2,M,h4⟩:=GO hx w 0 0 hx.pos hf;rw[bF]at h2 M;unfold yB at r;rw[ar hp,ar hf,h2,hY,getD_at hj]at r;have kb:(gl a (w.take j)).2=0:=(tz O.hc (by simp;omega)).2 (DH w _ j k0);have k1:lE a (w.take j)=0:=by rw[pw a ok];exact kb
  obtain⟨o2,b2,c2,z2,s2,k2,A,J⟩:=KO h9 (w.take j) (by simp;omega);have l:=KQ ok hx G h0 (w.take j) (by simp;omega) k1 hq M J (i:=1) (o:=o2) (u:=b2) (v:=c2) (z:=z2) rfl;obtain⟨o3,b3,c3,z3,s3,kl,h5,X⟩:=KO J (w.take j) (by simp;omega);have C:=T0 ok hx G (w.take j) (by simp;omega) X (i:=2) (o:=o3) (u:=b3) (v:=c3) (z:=z3) rfl;unfold yB at C;rw[ar k1,M,au (by simp only;omega)]at C;have k3:=w38 w[j] (NK E (cp hj));have kc:(j:Int)<w.length:=by omega
  have kd:¬(w.length:Int)<=j:=by omega
  have k4:j<=w.length:=by omega
  have ke:¬(j:Int)< -1:=by omega
  have hd:(dj x q).length<=6000:=by rw[show dj x q=x.nx[q] from getD_at hq _];exact hx.row hq
  have hk:∀e∈dj x q,e.m≠w[j]:=λe he kg=>by unfold fe at h4;cases k5:(dj x q).find? (λe'=>decide (e'.m=w[j]))with|none=>have:=Br.1 k5 e he;simp[kg]at this|some e'=>rw[k5]at h4;simp only at h4;omega
  have k6:cZ 4 (w.map Mv.c)=true:=mo (Sz.map (f:=Mv.c) (λ_=>rfl) w);rw[Al]at A h5;simp only[gu,iV,Ar.c]at V I b D r l C;simp only[Mv.c]at k3;have h1:(x.nx.length:Int)=1->∀s,R (.call 6 [.agg [.psl (a.ids.map Ty.c),.bool a.root.cell,.int .i64 a.root.n,.bool a.jumps,.psl (x.nx.map nW),.psl (x.fi.map bC)],.ah] s)=.val (.bool true) s:=λp s=>by rw[<-hg p];exact b s
  by_cases p:(x.nx.length:Int)=1
  all_goals
   first|have b:=h1 p|skip
   clear h1;simp-implicitDefEqProofs[U.zx,U.FO,gu,Ar.c,V,I,p,b,D,hz,r,kc,kd,k4,ke,hj,k6,A,l,k3];generalize ho:bJ R (.loop U.rC) _ _=o;obtain⟨e',rfl,hL⟩:=TZ (v2:=.aw (gu a x)) hj hd hk (by simp[iV,gu]) ho;clear ho;simp only[ab,ae,gu,Ar.c,iV,bx,bA]at hL;simp[hL,D,k4,k6,h5,C,h8,aa]
 obtain⟨q,wn⟩:=O.wn h0 (by omega) hf;obtain⟨o2,b2,c2,z2,s2,k2,A,J⟩:=KO h9 w (by omega);have l:=KQ ok hx G h0 w (by omega) hp wn.lt wn.fol J (i:=1) (o:=o2) (u:=b2) (v:=c2) (z:=z2) rfl;unfold yB at r;rw[ar hp,au hf]at r;have hd:(dj x q).length<=6000:=by have k7:=wn.lt;rw[show dj x q=x.nx[q] from getD_at k7 _];exact hx.row k7
 have hk:∀e∈dj x q,lE a (w++[e.m])=0/\(du x 0 0 (w++[e.m])).1≠ -1:=λe he=>by obtain⟨g1,g2⟩:=wn.K7 e he (by omega);exact⟨by rw[pw a ok];exact g1,g2⟩
 have hl:=w27 a ok w E O.hc;have d:=Ov (a:=a) hx w (by omega);have k8:Vh x w=x.fi.getD q false:=by unfold Vh;rw[au hf,wn.fol,hY]
 rw[k8]at d;have h6:=wn.fin;have hr:(-1:Int)<w.length:=by omega
 have h7:=wn.non;generalize px (cK (iP a) w).1=tn at*;generalize km:dj x q=row at*;simp only[gu,iV,Ar.c]at V I b D r l hl d;have h1:(x.nx.length:Int)=1->∀s,R (.call 6 [.agg [.psl (a.ids.map Ty.c),.bool a.root.cell,.int .i64 a.root.n,.bool a.jumps,.psl (x.nx.map nW),.psl (x.fi.map bC)],.ah] s)=.val (.bool true) s:=λp s=>by rw[<-hg p];exact b s
 by_cases p:(x.nx.length:Int)=1
 all_goals
  first|have b:=h1 p|skip
  clear h1;simp-implicitDefEqProofs[U.zx,U.FQ,gu,Ar.c,V,I,p,b,D,hz,r,A,l,hr];generalize ho:bJ R (.loop U.pP) _ _=o;obtain⟨e',s',kn,L',rfl,hL,ki⟩:=T1 ok ha hy hx G hw hd hk J (by simp[iV,gu]) ho;clear ho;have X:=ki.ds [.int .u8 tn,.psl ((cK (iP a) w).1.op.map nC),.bool (bf (cK (iP a) w).1.w),.bool (cK (iP a) w).1.lost];have Y:=(X.bD 0 _ _ rfl).1.1;generalize hs:HS.mk _ _ _ _=S3 at X Y;simp only[az,aE,bF,Nat.reduceAdd]at hs Y;simp only[ab,ae,gu,Ar.c,iV,bx,bA]at hL;by_cases M:tn=3
  .have ht:=h6.1 M;have Z:=h7.2 M;rw[ht]at d;subst M;subst Z;simp[hL,hl,hs,Y,ai,an,ao,hr,d,h8,aa]
  have ht:x.fi.getD q false=false:=by
   cases hb:x.fi.getD q false
   .rfl
   exact(M (h6.2 hb)).elim
  have Z:¬row=[]:=λh=>M (h7.1 h)
  have kj:¬row.length=0:=by simpa using Z
  rw[ht]at d;simp[hL,hl,hs,Y,ai,an,ao,M,Z,kj,hr,d,h8,aa]
def H6(t:Sx)(u:∀r∈t.x.nx,r.length<=70368744177664)(w:bc)(s:HS):
  R (.call 3 [.agg t.c,.psl (w.map Mv.c)] s)=.val (.bool true) s:=by
 have l:=Oh;obtain⟨N3,h,p⟩:=w29 t u;have d:=h;simp only[Sx.c]at h;cases N3
 .refine Ga ?_;simp-implicitDefEqProofs[U.zx,h,l,aa]
 obtain⟨x,hx,m⟩:=p rfl;have ok:=m.th.ok;have f:=w25 t.a ok w;simp only[Ar.c]at f;by_cases n:w.length<=40/\(gl t.a w).2=0
 case neg=>rw[ef n]at f;refine Ga ?_;simp-implicitDefEqProofs[U.zx,h,f,l,aa]
 rw[ey n]at f;obtain⟨v,tx⟩:=t;simp only at hx m;subst hx;rw[TY]at d ⊢;by_cases h0:x.nx.length=1/\x.fi.getD 0 false=false
 .have b:=KN (a:=v) m.hx;rw[h0.2]at b;have q:(x.nx.length:Int)=1:=by omega
  refine Ga ?_ rfl (by simp[gu]);simp only[gu,Ar.c]at d b f;simp-implicitDefEqProofs[U.zx,gu,d,f,q,b,l,aa]
 exact T2 m d n.1 n.2 h0 s
end Go.Proofs.YtepamfbheocmhaaGreatDoor.K.Hm.S
namespace Go.Proofs.YtepamfbheocmhaaGreatDoor.K.Hm
open Go Go.RowKit
def KR(b:Nat):¬Live (λ_=>False) s0 (λ_=>none) b:=by
 rintro(d|⟨o,ob,pl,h,f,l⟩)
 .exact d
 cases f
def ag8(d:Nat->Option Obj)(P:Program)(W:World):bW (λ_=>False) (CR d P) (λ_=>none) s0 W:=
 ⟨λo pl h=>(by cases h),λo ob h=>(by cases h),λo m ob f pl l h=>(by cases h),λo t lo p g h=>(by cases h),λg q h=>(by cases h),λb h=>h.elim,λb h=>h.elim,λo E n h=>(by cases h)⟩
def Fu{P:Program}{L:jg}(F:oS P L){prog nZ:Nat->Option HF}(M:P.follows .mixedOrders=true)(l:∀f F,prog f=some F->oP P f F=true)(d:∀f F,nZ f=some F->oP P f F=true)
  {n z f t:Nat}(h0:isTrue (run {L with uI:=none} nZ z (.call t [] s0))=true){args:aj}{s':HS}(h:run {L with uI:=some t} prog n (.call f args s0)=.val (.bool true) s'){W:World}
  (O:Lib.TabIs P W "internal/strconv.uint64pow10" .u64 Lib.pow10Tab){vs:List Value}(C:eJ (λ_=>none) (λ_=>False) W args vs):Calls P f vs.toArray W λe J=>e=.returned (.bool true)/\Below W.heap.size W J:=by
 obtain⟨V,D,A⟩:=F.sound M O;have E:=A nZ d none (λt h=>by cases h);obtain⟨s1,X⟩:∃s',run {L with uI:=none} nZ z (.call t [] s0)=.val (.bool true) s':=by
  cases G:run {L with uI:=none} nZ z (.call t [] s0)with
  |val v s'=>
   rw[G]at h0;cases v with
   |bool b=>cases b with
    |true=>exact⟨s',rfl⟩
    |false=>cases h0
   |_=>cases h0
  |code=>rw[G]at h0;cases h0
  |bad=>rw[G]at h0;cases h0
 have p:=yQ (E z) X;have A:=A prog l (some t) (λt' h=>by cases h;exact p);obtain⟨_,Y⟩:=(A n).call f args s0 (.bool true) s' h;have q:eJ (λ_=>none) (Live (λ_=>False) s0 (λ_=>none)) W args vs:=C.keep (Bt.le_refl _) (λb _ I=>KR b I) (cv.refl _ _);refine(Y (λ_=>False) (λ_=>none) W vs (ag8 V P W) (λb o I=>⟨D b o I,KR b⟩) q).mono ?_
 rintro e J ⟨u,β',rfl,_,r,Z⟩
 cases Z;exact⟨rfl,r.os,r.tape,r.output,r.keeps.size,λk hk=>r.keeps.same k hk (KR k)⟩
open Go Go.ChangeShapes
section
variable{H:Type}{enc:TypeId×Value->H}{P:Program}{w:World}
abbrev HR0(w:World):=HR (λ_=>none) (λ_=>False) w
abbrev Fv(w:World):=eJ (λ_=>none) (λ_=>False) w
abbrev GP(enc:TypeId×Value->H)(P:Program)(w:World):=DataW.trod enc P w 0 (λ_=>true) true
abbrev ZW(P:Program)(t:TypeId)(d:DataW H):Prop:=∀n∈d.weights P t,n<=reachBytes
def pE{e:TypeId}:∀{l:List (DataW H)} {d:DataW H},d∈l->∀n∈d.weights P e,n∈DataW.weightsAll P e l
 |x::l,d,b,n,f=>by
  rw[DataW.weightsAll];rcases bk.1 b with rfl|b
  .exact Au _ f
  exact IM _ (pE b n f)
def gY:∀{b:List TypeId} {f:List (DataW H)} (i:Nat) {t:TypeId} {d:DataW H},b[i]?=some t->f[i]?=some d->∀n∈d.weights P t,n∈DataW.weightsEach P b f
 |[],_,i,t,d,h,_,_,_=>by simp at h
 |_::_,[],i,t,d,_,h,_,_=>by simp at h
 |t0::b,d0::f,0,t,d,l,m,n,p=>by cases l;cases m;rw[DataW.weightsEach];exact Au _ p
 |t0::b,d0::f,i+1,t,d,l,m,n,p=>by rw[DataW.weightsEach];exact IM _ (gY i l m n p)
structure fU(enc:TypeId×Value->H)(P:Program)(w:World)(t:TypeId){α:Type}(c:α->aj)(B:α->Prop):Prop where
 one:∀a,∀v∈c a,v.one=true
 len:∀a,(c a).length=P.cellsOf t
 rd:∀fuel cs x,GP enc P w fuel t cs=some x->ZW P t x.1->∃a:α,B a/\Fv w (c a) cs
def fU.NL{t:TypeId}{α β:Type}{c:α->aj}{B:α->Prop}{c':β->aj}{B':β->Prop}(h:fU enc P w t c B)(g:β->α)(d:∀b,c' b=c (g b))(f:α->β)(l:∀a,c' (f a)=c a)(m:∀a,B a->B' (f a)):fU enc P w t c' B':=
 ⟨λb v n=>h.one (g b) v (by rw[<-d];exact n),λb=>by rw[d];exact h.len _,λfuel p x q r=>by
  obtain⟨a,u,z⟩:=h.rd fuel p x q r;exact⟨f a,m a u,by rw[l];exact z⟩⟩
def Ae{t:TypeId}{k:IntKind}(b:P.underlying t=some (.int k))(d:P.cellsOf t=1):fU enc P w t (λn:Int=>[.int k n]) (λ_=>True):=
 ⟨λa v f=>by rw[dq.1 f];rfl,λa=>by rw[d];rfl,λfuel l x h _=>by
  obtain⟨n,rfl,_⟩:=DataW.trod_int b h;exact⟨n,trivial,.cons (.int _ _) .nil⟩⟩
def Fw{t:TypeId}(d:P.underlying t=some .bool)(f:P.cellsOf t=1):fU enc P w t (λb:Bool=>[.bool b]) (λ_=>True):=
 ⟨λa v l=>by rw[dq.1 l];rfl,λa=>by rw[f];rfl,λfuel m x h _=>by
  obtain⟨b,rfl,_⟩:=DataW.trod_bool d h;exact⟨b,trivial,.cons (.bool _) .nil⟩⟩
def ud{α:Type}{Q:Nat->α->Prop}:∀(n:Nat),(∀i,i<n->∃a,Q i a)->∃l:List α,l.length=n/\∀i (h:i<l.length),Q i l[i]
 |0,_=>⟨[],rfl,λi h=>absurd h (by simp)⟩
 |n+1,h=>by
  obtain⟨l,b,m⟩:=ud n (λi d=>h i (by omega));obtain⟨a,p⟩:=h n (by omega);refine⟨l++[a],by simp[b],λi d=>?_⟩;rw[cA,dx]at d;by_cases f:i<l.length
  .rw[Da f];exact m i f
  have:i=n:=by omega
  subst this;rw[Fj (by omega)];simpa[b]using p
def tA{a:Addr}{n:Nat}{cs:List Value}(h:w.cells? 0 a n=some cs):cs.length=n/\∀j,j<n->w.cell? (a.add j)=cs[j]?:=by unfold World.cells? at h;rw[ar (fm _)]at h;exact⟨by simpa using mapM_some_length h,λj b=>mapM_some_get h j j (by simp[b])⟩
def iy{t e:TypeId}(ht:P.underlying t=some (.slice e))(h6:P.cellsOf t=1)(z:0<P.cellsOf e){α:Type}{c:α->aj}{B:α->Prop}(G:fU enc P w e c B):
  fU enc P w t (λl:List α=>[.psl (l.map c)]) (λl=>(∀r∈l,B r)/\l.length*P.bytesOf e<=reachBytes):=by
 refine⟨λa v D=>by rw[dq.1 D];rfl,λa=>by rw[h6];rfl,λfuel cs x h hw=>?_⟩;have nil:(∀r∈([]:List α),B r)/\([]:List α).length*P.bytesOf e<=reachBytes:=⟨by simp,by simp⟩;rcases DataW.trod_slice ht h with⟨rfl,_⟩|⟨a,len,cap,A,M,n,_,rfl,rfl,_,h7,_,ha,O,_,_⟩
 .exact⟨[],nil,.cons (.psl0 none 0 (λ_=>rfl)) .nil⟩
 by_cases h0:len=0
 .subst h0;exact⟨[],nil,.cons (.psl0 (some a) cap (λh=>by cases h)) .nil⟩
 have V:(A.length+M.length)*P.bytesOf e<=reachBytes/\∀d∈A,ZW P e d.1:=by simp only[ZW,DataW.weights,ht,bk,cP,bG]at hw;exact⟨hw _ (.inl rfl),λd hd n hn=>hw n (.inr (.inl (pE (List.mem_map_of_mem hd) n hn)))⟩
 have C:∀i,i<len->∃r:α,B r/\∃q,w.cells? 0 (a.add (i*P.cellsOf e)) (P.cellsOf e)=some q/\Fv w (c r) q:=by intro i f;have hg:=O i f;rw[aR (by omega)]at hg;obtain⟨q,I,J⟩:=nR.1 hg;obtain⟨r,hb,G⟩:=G.rd _ _ _ J (V.2 _ (cp _));exact⟨r,hb,q,I,G⟩
 obtain⟨rows,hlen,m⟩:=ud len C;obtain⟨b,o,spot⟩:=a;have E:spot=none:=by obtain⟨_,q,I,_⟩:=m 0 (by omega);have J:=(tA I).2 0 z;rw[aR (by rw[(tA I).1];exact z)]at J;simpa[Addr.add]using World.cell?_spot J
 subst E;have X:∀i j,(Addr.add (Addr.add ⟨b,o,none⟩ i) j)=⟨b,o+(i+j),none⟩:=λi j=>by rw[fZ,fZ];congr 1;omega
 subst hlen;have p:∀i j,i<rows.length->j<P.cellsOf e->∃u,dh w b (o+(i*P.cellsOf e+j))=some u/\∀v,(rows.map c)[i]?=some v->∀y,v[j]?=some y->HR0 w y u:=by intro i j f Y;obtain⟨_,q,I,J⟩:=m i f;obtain⟨h3,h4⟩:=tA I;have h5:=h4 j Y;rw[X,aR (by omega)]at h5;refine⟨_,h5,λv D y hy=>?_⟩;simp[f]at D;subst D;exact J.2 j y _ hy (aR (by omega))
 refine⟨rows,⟨λr hm=>?_,?_⟩,.cons ?_ .nil⟩
 .obtain⟨i,f,rfl⟩:=eH.1 hm;exact(m i f).1
 .exact fz (jD _ (by omega)) V.1
 have hb:b<w.heap.size:=by obtain⟨u,Z,_⟩:=p 0 0 (by omega) z;exact re Z
 have h8:=HR.psl (β:=λ_=>none) (N:=λ_=>False) (w:=w) (rows.map c) b o cap (P.cellsOf e) (λi j=>(dh w b (o+(i*P.cellsOf e+j))).getD Go.undef) (λh=>h) hb (by simpa using h7)
  (λi row f=>by
   obtain⟨r,_,rfl⟩:=dt.1 (cG f);exact G.len r)
  (λrow C v D=>by
   obtain⟨r,_,rfl⟩:=dt.1 C;exact G.one r v D)
  (λi j f Y=>by
   rw[bG]at f;obtain⟨u,Z,_⟩:=p i j f Y;rw[Z];rfl)
  (λi row j y f hy=>by
   have h9:i<rows.length:=by have:=(aS.1 f).1;simpa using this
   have Y:j<P.cellsOf e:=by obtain⟨r,_,rfl⟩:=dt.1 (cG f);rw[<-G.len r];exact(aS.1 hy).1
   obtain⟨u,Z,D⟩:=p i j h9 Y;rw[Z];exact D row f y hy)
 simpa using h8
structure FA(enc:TypeId×Value->H)(P:Program)(w:World)(fs:Array Field)(i o k:Nat){α:Type}(c:α->aj)(B:α->Prop):Prop where
 f:∃f,fs[i]?=some f/\f.offset=o/\P.cellsOf f.type=k/\fU enc P w f.type c B
structure RF(enc:TypeId×Value->H)(P:Program)(w:World)(t:TypeId)(fs:Array Field)(i o:Nat){α:Type}(c:α->aj)(B:α->Prop):Prop where
 one:∀a,∀v∈c a,v.one=true
 len:∀a,o+(c a).length=P.cellsOf t
 rd:∀fuel cs x,GP enc P w fuel t cs=some x->ZW P t x.1->∃a:α,B a/\Fv w (c a) (cs.drop o)
section
variable{t:TypeId}{fs:Array Field}{i o k:Nat}{α β:Type}{c:α->aj}{B:α->Prop}{c':β->aj}{B':β->Prop}
def fa(k:Nat){f:Field}(b:fs[i]?=some f)(d:f.offset=o)(h:P.cellsOf f.type=k)(l:fU enc P w f.type c B):FA enc P w fs i o k c B:=⟨f,b,d,h,l⟩
def FA.get(u:FA enc P w fs i o k c B)(q:P.underlying t=some (.struct fs)){fuel:Nat}{cs:List Value}{x:DataW H×List MemPlace}(h:GP enc P w fuel t cs=some x)(v:ZW P t x.1):cs.length=P.cellsOf t/\∃a,B a/\Fv w (c a) ((cs.drop o).take k):=by
 obtain⟨f,b,rfl,rfl,z⟩:=u.f;obtain⟨A,n,_,rfl,h0,l,C⟩:=DataW.trod_struct q h;have r:=C i f b;have p:=(rb.1 b).1;rw[aR (by rw[l];exact p)]at r;refine⟨h0,z.rd n _ _ r λm D=>v m ?_⟩;simp only[DataW.weights,q];refine gY i (t:=f.type) (d:=(A[i]'(by rw[l];exact p)).1) ?_ ?_ m D
 .rw[fR,l7,b];rfl
 rw[fR,aR (by rw[l];exact p)];rfl
def FA.len(b:FA enc P w fs i o k c B)(a:α):(c a).length=k:=by obtain⟨f,_,_,rfl,h⟩:=b.f;exact h.len a
def FA.one(b:FA enc P w fs i o k c B)(a:α):∀v∈c a,v.one=true:=by obtain⟨f,_,_,_,h⟩:=b.f;exact h.one a
def RF.last(b:P.underlying t=some (.struct fs))(h:FA enc P w fs i o k c B)(d:o+k=P.cellsOf t):RF enc P w t fs i o c B:=
 ⟨h.one,λa=>by rw[h.len];exact d,λfuel n x f l=>by
  obtain⟨p,m⟩:=h.get b f l;rwa[iH (by rw[Io];omega)]at m⟩
def RF.cons(l:P.underlying t=some (.struct fs))(h:FA enc P w fs i o k c B)(r:RF enc P w t fs (i+1) (o+k) c' B'):RF enc P w t fs i o (λp:α×β=>c p.1++c' p.2) (λp=>B p.1/\B' p.2):=
 ⟨λp v m=>(cP.1 m).elim (h.one _ v) (r.one _ v),λp=>by rw[cA,h.len,<-r.len p.2];omega,λfuel n x d f=>by
  obtain⟨_,a,q,u⟩:=h.get l d f;obtain⟨b,z,A⟩:=r.rd fuel n x d f;refine⟨(a,b),⟨q,z⟩,?_⟩;have:=eJ.append u A;rwa[<-List.drop_drop,D1]at this⟩
def RF.reads(h:RF enc P w t fs 0 0 c B):fU enc P w t c B:=
 ⟨h.one,λa=>by rw[<-h.len a];omega,λfuel b x d f=>by simpa using h.rd fuel b x d f⟩
end
end
open Go Go.ChangeShapes
section
variable{H:Type}{enc:TypeId×Value->H}{P:Program}{w:World}
open S
def BV(x:Ax):Prop:=∀r∈x.nx,r.length<=70368744177664
def KT{α β:Type}{M:α->aj}{cw:β->HV}{O:α->Prop}{V:β->Prop}{b d e:TypeId}{fs:Array Field}{T3:Nat}{args:Array Value}{X:List TypeId}{Y Z:List (DataW H)}{p:List MemPlace}
  (hA:DataW.TrodAll enc P w 0 (λ_=>true) true [b,d] args.toList Y p)(hz:(DataW.weightsEach P ([b,d]++X) (Y++Z)).all (· <=reachBytes)=true)
  (ho:∀(j:Nat) t v,#[b,d][j]?=some t->args[j]?=some v->Value.okWide P w .any T3 t v)
  (E:P.underlying b=some (.struct fs))(q:fU enc P w b M O)(r:P.underlying d=some (.slice e))(G:fU enc P w d (λl=>[cw l]) V):
  ∃(a:α) (m:β),O a/\V m/\Fv w [.agg (M a),cw m] args.toList:=by
 obtain⟨v1,z,d1,d2,p1,p2,rfl,rfl,rfl,f,A⟩:=trodAll_two hA;have I:=ho 0 b v1 rfl rfl;have h:=ho 1 d z rfl rfl;unfold Value.okWide at I h;rw[E]at I;rw[r]at h;obtain⟨cs,rfl,_,_⟩:=I;have h:Cell.okWide P w .any T3 d z:=h;have n2:z.cells= #[z]:=by cases z with|agg c=>exfalso;unfold Cell.okWide Cell.ok at h;rw[r]at h;exact h|_=>rfl
 have C:∀n∈DataW.weightsEach P ([b,d]++X) ([d1,d2]++Z),n<=reachBytes:=λn D=>by simpa using fq.1 hz n D
 obtain⟨f1,f⟩:=f;obtain⟨f2,A⟩:=A;have f:GP enc P w f1 b cs.toList=some (d1,p1):=f;obtain⟨a,hb,ha⟩:=q.rd _ _ _ f (λn D=>C n (gY 0 rfl rfl n D));obtain⟨m,J,hm⟩:=G.rd _ _ _ A (λn D=>C n (gY 1 rfl rfl n D));rw[n2]at hm;exact⟨a,m,hb,J,.cons (.agg _ cs (q.one a) (by simpa using ha.1) (λi v u f A=>ha.2 i v u f (by simpa using A))) hm⟩
end
end Go.Proofs.YtepamfbheocmhaaGreatDoor.K.Hm
namespace Go.Proofs.YtepamfbheocmhaaGreatDoor.K.Hm.U
open Go
def f12:=h0 102 0 [0,1,2,3,4,5,6,7,8,10,11,12] [.tmp 0] (S (g [0] [Z 0]) (S (g [1,2,3] [j 14 18,o 15 (.call 19 [.k (.str [48,63,32,50,63,32,50,33,48,32,48,33,49])]),C 16 8 14 15,m 13 16,x 17 13 0,x 18 13 1,x 19 13 2,m 1 17,m 2 18,m 3 19]) (S (g [4,5] [j 21 18,j 22 22,o 23 (.bsl 1 [.k (.str [48,63,32,50,63,32,50,33,49,32,48,33,48])]),C 24 21 22 23,o 25 (.call 20 [.t 21,.t 24,.k (.bool false)]),m 20 25,x 26 20 0,x 27 20 1,m 4 26,m 5 27]) (S (g [6,7] [j 29 22,o 30 (.call 19 [.k (.str [48,63,32,49,63,32,49,46,49,63,32,49,63,32,49,33,48,32,49,46,49,33,49,32,49,33,48,32,48,33,48])]),o 31 (.call 23 [.t 29,.k (.int .i64 1),.t 30]),m 28 31,x 32 28 0,x 33 28 1,m 6 32,m 7 33]) (S (g [8] [j 35 22,o 36 (.call 24 [.t 35,.k (.int .i64 1)]),m 34 36,x 37 34 0,x 38 34 1,o 8 (.alloc [.ah,.bool false,.int .i64 0,.bool false]),s 4 8 37,m 9 38]) (S (d [10,11,12] [u 0 (j 40 22),w 1 (L 41 8 4) 0 1,r 2 (o 42 (.fbl 1 [.k (.str [48,63,32,49,63,32,49,33,49,32,48,33,48])])),u 3 (C 43 21 41 42),u 5 (o 45 (.call 19 [.k (.str [48,63,32,49,63,32,49,46,49,63,32,49,63,32,49,33,48,32,49,46,49,33,49,32,49,33,48,32,48,33,48])])),r 4 (o 44 (.build [.x (.t 40) 4,.x (.k (.int .i64 1)) 1,.x (.t 43) 6])),u 6 (C 46 25 44 45),r 7 (m 39 46),r 8 (x 47 39 0),r 9 (x 48 39 1),r 10 (x 49 39 2),r 11 (m 10 47),r 12 (m 11 48)] [m 12 49]) (S (d [0] [r 0 (m 50 3),r 1 (i 51 .eql 50 0),r 2 (m 52 51),r 3 (mT 53 1 52),r 4 (iT 54 .eql 53 3 52),r 5 (y 55 52 54),r 6 (m 56 55),r 7 (mT 57 2 56),r 8 (NT 58 57 56),r 9 (y 59 56 58),r 10 (m 60 59),r 11 (mT 61 5 60),r 12 (iT 62 .eql 61 0 60),r 13 (y 63 60 62),r 14 (m 64 63),r 15 (mT 65 4 64),r 16 (NT 66 65 64),r 17 (y 67 64 66),r 18 (m 68 67),r 19 (mT 69 7 68),r 20 (iT 70 .eql 69 0 68),r 21 (y 71 68 70),r 22 (m 72 71),r 23 (mT 73 6 72),w 24 (nT 74 73 72) 0 0,r 25 (iT 75 .eql 74 2 72),r 26 (y 76 72 75),r 27 (m 77 76),u 31 (G 81 (.call 19 [.k (.str [48,63,32,49,63,32,49,33,49,32,48,33,48])]) 77 true),r 28 (mT 78 6 77),r 29 (G 79 (.ia (.t 78) (.k (.int .i64 0)) 1) 77 true),w 30 (lT 80 79 77) 0 1,u 32 (CT 82 26 80 81 77),r 33 (y 83 77 82),r 34 (m 84 83),u 38 (G 88 (.call 19 [.k (.str [48,63,32,48,33,48])]) 84 true),r 35 (mT 85 6 84),r 36 (G 86 (.ia (.t 85) (.k (.int .i64 1)) 1) 84 true),w 37 (lT 87 86 84) 2 3] [CT 89 26 87 88 84,y 90 84 89,m 91 90,mT 92 12 91,iT 93 .eql 92 0 91,y 94 91 93,m 95 94,mT 96 10 95,iT 97 .eql 96 4 95,y 98 95 97,m 99 98,mT 100 11 99,y 101 99 100,m 0 101]) R)))))))
def f40:=h0 4 0 [0] [.cell 0 (some 6)] (S (g [0] [o 0 (.alloc [.ah,.bool false,.int .i64 0,.bool false,.ah,.ah])]) (F [] [j 1 22,o 2 (.bsl 1 [.k (.str [48,63,32,50,63,32,50,33,48,32,48,33,48]),.k (.str [48,63,32,50,63,32,50,33,49,32,48,33,49])]),C 3 21 1 2,s 6 0 3]))
def f41:=h0 11 1 [0,2,3] [.tmp 2] (S (g [2] [Q 2]) (S (g [3] [m 6 0,c 7 44 6,m 5 7,x 8 5 0,x 9 5 1,m 3 8,m 4 9]) (F [2] [m 10 3,m 2 10])))
def f33:=h0 26 3 [0,1,2,3,4,6,7,8,10,15] [.tmp 6,.tmp 7] (S (g [3,4,6,7] [b 3 0,b 4 1,Z 6,K 7 0]) (S (S (g [8] [L 11 3 6,L 12 4 6,C 13 45 11 12,m 8 13]) (A [15] [m 14 8,i 15 .neq 14 0] 15 (F [6,7] [m 16 8,Z 6,m 7 16]) W)) (S (g [10] [L 18 3 6,L 19 4 6,m 20 2,J 21 46 18 19 20,m 17 21,x 22 17 0,x 23 17 1,m 9 22,m 10 23]) (F [6,7] [m 24 10,N 25 24,m 6 25,K 7 0]))))
def ZX:=S (A [12] [m 9 6,m 10 1,n 11 10,z 12 .lss 9 11] 12 W (X 0)) (S (T 1 (g [5] [m 15 5,m 16 1,m 17 6,a 18 16 17 1,l 19 18,c 20 19 19,q 21 1 20,p 22 1 5864062014805 15 21,m 5 22])) (t 6 13 14))
def f42:=h0 31 2 [0,1,2,4,5,6,7,12] [.cell 4 (some 6)] (S (g [2,4] [b 2 0,o 4 (.alloc [.ah,.bool false,.int .i64 0,.bool false,.ah,.ah])]) (S (g [5] [Q 5]) (S (S (g [6] [K 6 0]) (T 0 (M ZX))) (S (g [7] [m 24 5,c 25 47 24,m 23 25,x 26 23 0,x 27 23 1,o 7 (.alloc [.ah,.ah]),s 2 7 26,m 8 27]) (F [] [L 28 2 4,L 29 7 2,o 30 (.build [.x (.t 28) 4,.x (.t 29) 2]),s 6 4 30])))))
def f43:=h0 10 0 [0] [.cell 0 (some 4)] (S (g [0] [o 0 (.alloc [.ah,.bool false,.int .i64 0,.bool false])]) (F [] [o 1 (.build [.z [.bool false],.x (.k (.int .i64 2)) 1]),o 2 (.bsl 2 [.t 1]),o 3 (.build [.z [.bool false],.x (.k (.int .i64 1)) 1]),o 4 (.build [.x (.t 2) 1,.x (.t 3) 2]),o 5 (.build [.z [.bool false],.x (.k (.int .i64 2)) 1]),o 6 (.build [.z [.ah],.x (.t 5) 2]),o 7 (.bsl 3 [.t 4,.t 6]),o 8 (.build [.z [.bool false],.x (.k (.int .i64 2)) 1]),o 9 (.build [.x (.t 7) 1,.x (.t 8) 2,.z [.bool false]]),s 4 0 9]))
def ZY:=S (g [24] [z 24 .lss 23 22]) (S (I 24 W (X 0)) (S (T 1 (S (g [10] [a 25 21 23 1,l 26 25,m 10 26]) (g [6] [m 27 6,m 28 10,m 29 2,C 30 50 28 29,q 31 1 30,p 32 1 5864062014805 27 31,m 6 32]))) (g [23] [i 33 .add 23 1,m 23 33])))
def f19:=h0 35 3 [0,1,2,3,6,7,8,10,16,21,22,23,24] [.tmp 6,.tmp 7] (S (g [3,6,7] [b 3 0,Q 6,K 7 0]) (S (S (g [8] [L 11 3 4,m 12 1,m 13 2,J 14 48 11 12 13,m 8 14]) (A [16] [m 15 8,i 16 .neq 15 0] 16 (F [6,7] [m 17 8,Q 6,m 7 17]) W)) (S (S (g [21,22,23] [L 18 3 4,m 19 1,m 20 2,J 21 49 18 19 20,n 22 21,K 23 0]) (T 0 (M ZY))) (F [6,7] [m 34 6,m 6 34,K 7 0]))))
def ZZ:=g [8] [f 29 7 1,L 30 29 2,f 31 2 3,l 32 31,m 33 32,fF 34 7 0 33,lF 35 34 33,nF 36 35 33,iF 37 .gtr 36 0 33,Y 38 33 37,o 39 (.build [.z [.ah],.x (.t 30) 2,.x (.t 38) 1]),o 8 (.alloc [.ah,.bool false,.int .i64 0,.bool false]),s 4 8 39]
def Z0:=S (A [44] [m 40 9,f 41 7 0,l 42 41,n 43 42,z 44 .lss 40 43] 44 W (X 0)) (S (T 1 (d [] [r 0 (f 47 8 0),w 1 (l 48 47) 0 0,r 2 (f 49 7 0),w 3 (l 50 49) 0 0,r 4 (m 51 9),r 5 (a 52 50 51 2),w 6 (L 53 52 2) 0 0,r 7 (o 54 (.build [.z [.ah],.x (.t 53) 2])),r 8 (q 55 3 54)] [p 56 3 3518437208883 48 55,f 57 8 0,s 1 57 56])) (t 9 45 46))
def f26:=h0 59 2 [0,1,2,4,5,6,7,8,9,13,21,44] [.cell 4 (some 4),.tmp 5] (S (g [2,4,5] [b 2 0,o 4 (.alloc [.ah,.bool false,.int .i64 0,.bool false]),K 5 0]) (S (S (g [6] [L 10 2 4,c 11 40 10,m 6 11]) (A [13] [m 12 6,i 13 .neq 12 0] 13 (F [5] [o 14 (.build [.z [.ah],.z [.bool false,.int .i64 0],.z [.bool false]]),m 15 6,s 4 4 14,m 5 15]) W)) (S (A [21] [m 16 1,f 17 2 0,l 18 17,n 19 18,o 20 (.call 51 [.t 16,.k (.int .i64 1),.t 19]),N 21 20] 21 (F [5] [o 22 (.build [.z [.ah],.z [.bool false,.int .i64 0],.z [.bool false]]),s 4 4 22,K 5 7]) W) (S (g [7] [f 23 2 0,l 24 23,m 25 1,i 26 .sub 25 1,a 27 24 26 3,L 28 27 3,o 7 (.alloc [.ah,.bool false,.int .i64 0]),s 3 7 28]) (S ZZ (S (S (g [9] [K 9 0]) (T 0 (M Z0))) (F [5] [L 58 8 4,s 4 4 58,K 5 0])))))))
def Z1:=S (g [44] [z 44 .lss 43 42]) (S (I 44 W (X 0)) (S (T 1 (S (g [13] [a 45 41 43 1,l 46 45,m 13 46]) (S (d [14,15] [r 1 (m 49 13),r 2 (m 50 1),u 3 (C 51 50 49 50),w 0 (L 48 10 2) 0 1,u 4 (C 52 29 48 51),r 5 (m 47 52),r 6 (x 53 47 0),r 7 (x 54 47 1),r 8 (m 14 53)] [m 15 54]) (S (d [70] [r 0 (m 55 14),r 1 (i 56 .eql 55 (-1)),r 2 (m 57 56),r 3 (fT 58 11 0 57),w 4 (lT 59 58 57) 0 0,r 5 (iT 60 .lss 59 0 57),r 6 (mT 61 60 57),r 7 (mF 62 13 61),r 8 (mF 63 15 61),r 9 (aF 64 62 63 1 61),w 10 (lF 65 64 61) 0 0,r 11 (fF 66 11 0 61),w 12 (lF 67 66 61) 0 0] [zF 68 .lss 65 67 61,YT 69 61 68 57,y 70 57 69]) (I 70 (d [] [r 4 (m 75 1),r 5 (m 76 13),r 6 (m 77 15),r 7 (a 78 76 77 1),w 8 (l 79 78) 0 0,r 9 (a 80 75 79 4),w 10 (L 81 80 4) 0 0,u 11 (c 82 30 81),r 0 (m 71 13),r 1 (m 72 15),r 2 (a 73 71 72 1),w 3 (l 74 73) 0 1] [o 83 (.build [.x (.t 74) 1,.x (.t 82) 1]),s 2 11 83]) W))))) (g [43] [i 84 .add 43 1,m 43 84])))
def f13:=h0 89 2 [0,1,2,4,5,6,7,9,10,11,13,14,15,19,29,41,42,43,44,70] [.tmp 4,.tmp 5,.tmp 6] (S (g [2,4,5,6] [b 2 0,K 4 0,Z 5,K 6 0]) (S (S (g [7] [L 16 2 11,c 17 52 16,m 7 17]) (A [19] [m 18 7,i 19 .neq 18 0] 19 (F [4,5,6] [m 20 7,K 4 0,Z 5,m 6 20]) W)) (S (S (g [9] [f 22 2 0,L 23 22 4,m 24 1,C 25 53 23 24,m 21 25,x 26 21 0,x 27 21 1,m 8 26,m 9 27]) (A [29] [m 28 9,i 29 .neq 28 0] 29 (F [4,5,6] [m 30 9,K 4 0,Z 5,m 6 30]) W)) (S (d [10,11] [u 4 (j 35 28),r 0 (f 31 2 5),r 1 (f 32 31 4),w 2 (L 33 32 2) 0 3,r 3 (o 34 (.build [.x (.t 33) 2])),v 5 (o 10 (.alloc [.ah,.ah])),v 6 (o 11 (.alloc [.int .i64 0,.bool false]))] [s 2 10 34,s 2 11 35]) (S (S (g [41,42,43] [f 36 2 0,L 37 36 4,f 38 2 4,l 39 38,m 40 1,J 41 49 37 39 40,n 42 41,K 43 0]) (T 0 (M Z1))) (S (d [4,5,6] [r 0 (f 85 11 0),w 1 (l 86 85) 0 0,r 2 (f 87 11 1),w 3 (l 88 87) 0 0,r 4 (m 4 86)] [m 5 88,K 6 0]) R))))))
def Z2:=S (A [14] [m 11 5,m 12 0,o 13 (.len 1 (.t 12)),z 14 .lss 11 13] 14 W (X 0)) (S (T 1 (A [20] [m 17 0,m 18 5,o 19 (.idx (.t 17) (.t 18)),o 20 (.bin false .eql (.t 19) (.k (.int .u8 32)))] 20 (t 4 21 22) W)) (t 5 15 16))
def Z3:=S (A [32] [m 29 8,m 30 6,n 31 30,z 32 .lss 29 31] 32 W (X 2)) (S (T 3 (S (g [9,10] [m 36 6,m 37 8,a 38 36 37 1,l 39 38,c 40 74 39,m 35 40,x 41 35 0,x 42 35 1,o 9 (.alloc [.int .i64 0,.int .i64 0,.int .u8 0,.int .i64 0]),s 4 9 41,m 10 42]) (S (A [44] [m 43 10,i 44 .neq 43 0] 44 (F [2,3] [m 45 10,Q 2,m 3 45]) W) (g [7] [m 46 7,L 47 9 4,q 48 4 47,p 49 4 4398046511104 46 48,m 7 49])))) (t 8 33 34))
def f80:=h0 51 1 [0,2,3,4,5,6,7,8,9,10,14,20,24,26,32,44] [.tmp 2,.tmp 3] (S (g [2,3] [Q 2,K 3 0]) (S (g [4] [K 4 0]) (S (S (g [5] [K 5 0]) (T 0 (M Z2))) (S (A [24] [m 23 4,i 24 .geq 23 400] 24 (F [2,3] [Q 2,K 3 5]) W) (S (A [26] [m 25 0,o 26 (.bin false .eql (.t 25) (.k (.str [])))] 26 (F [2,3] [Q 2,K 3 0]) W) (S (g [6] [m 27 0,o 28 (.call 73 [.t 27,.k (.str [32])]),m 6 28]) (S (g [7] [Q 7]) (S (S (g [8] [K 8 0]) (T 2 (M Z3))) (F [2,3] [m 50 7,m 2 50,K 3 0])))))))))
def Z4:=S (g [13] [z 13 .lss 12 11]) (S (I 13 W (X 0)) (S (T 1 (S (g [6] [a 14 10 12 6,L 15 14 6,o 6 (.alloc [.ah,.bool false,.int .i64 0,.bool false,.ah,.ah]),s 6 6 15]) (S (g [7] [L 16 6 6,c 17 54 16,m 7 17]) (A [19] [m 18 7,i 19 .neq 18 0] 19 (F [4] [m 20 7,m 4 20]) W)))) (g [12] [i 21 .add 12 1,m 12 21])))
def f70:=h0 28 2 [0,1,2,3,4,6,7,10,11,12,13,19,27] [.tmp 4] (S (g [2,3,4] [b 2 0,b 3 1,K 4 0]) (S (S (g [10,11,12] [L 8 2 6,L 9 3 6,o 10 (.bsl 6 [.t 8,.t 9]),n 11 10,K 12 0]) (T 0 (M Z4))) (S (A [27] [f 22 2 0,L 23 22 4,f 24 3 0,L 25 24 4,C 26 75 23 25,N 27 26] 27 (F [4] [K 4 11]) W) (F [4] [K 4 0]))))
def f71:=h0 31 3 [0,1,2,3,4,6,7,8,9,10,11,12] [.tmp 6,.tmp 7] (S (g [3,4,6,7] [b 3 0,b 4 1,Q 6,Z 7]) (S (d [8,9] [r 0 (f 14 3 4),w 1 (L 15 14 2) 0 2,r 2 (o 16 (.build [.x (.t 15) 2])),v 6 (o 8 (.alloc [.ah,.ah])),v 7 (o 9 (.alloc [.ah,.ah])),u 8 (s 2 8 16),r 3 (f 17 4 4),w 4 (L 18 17 2) 0 3,r 5 (o 19 (.build [.x (.t 18) 2]))] [s 2 9 19]) (S (g [10] [o 20 (.mkf 76 [] [.t 9,.t 8]),m 10 20]) (S (g [11,12] [m 22 10,m 23 2,o 24 (.build [.z [.int .i64 0,.int .i64 0],.x (.k (.fn 78 [] [])) 1,.x (.t 22) 1,.z [.int .i64 0],.x (.t 23) 1]),c 25 80 24,m 21 25,x 26 21 0,x 27 21 1,x 28 21 2,m 11 26,m 12 27,m 13 28]) (F [6,7] [m 29 11,m 30 12,m 6 29,m 7 30])))))
def Z5:=S (A [19] [m 16 4,m 17 0,n 18 17,z 19 .lss 16 18] 19 W (X 0)) (S (T 1 (A [27] [m 22 0,m 23 4,a 24 22 23 1,l 25 24,n 26 25,i 27 .gtr 26 400] 27 (F [3] [o 28 (.build [.z [.ah],.z [.ah]]),s 2 2 28,K 3 5]) W)) (t 4 20 21))
def Z6:=S (A [52] [m 45 10,f 46 5 0,l 47 46,m 48 7,a 49 47 48 1,l 50 49,n 51 50,z 52 .lss 45 51] 52 W (X 6)) (S (T 7 (S (d [71] [r 0 (f 55 5 0),w 1 (l 56 55) 0 0,r 2 (m 57 7),r 3 (a 58 56 57 1),w 4 (l 59 58) 0 0,r 5 (m 60 10),r 6 (a 61 59 60 5),r 7 (f 62 61 0),w 8 (L 63 62 4) 0 0,r 9 (m 64 0),r 10 (m 65 6),r 11 (a 66 64 65 1),w 12 (l 67 66) 0 0,r 13 (m 68 8),r 14 (a 69 67 68 4),w 15 (L 70 69 4) 0 0] [o 71 (.eqs ⟨true,[0,0,0,0]⟩ false (.t 63) (.t 70))]) (I 71 (g [9] [f 72 5 0,l 73 72,m 74 7,a 75 73 74 1,l 76 75,m 77 10,a 78 76 77 5,f 79 78 4,l 80 79,m 9 80]) W))) (t 10 53 54))
def Z7:=S (A [42] [m 36 8,m 37 0,m 38 6,a 39 37 38 1,l 40 39,n 41 40,z 42 .lss 36 41] 42 W (X 4)) (S (T 5 (S (g [9] [K 9 (-1)]) (S (S (g [10] [K 10 0]) (T 6 (M Z6))) (S (A [82] [m 81 9,i 82 .lss 81 0] 82 (S (g [9] [f 83 5 0,l 84 83,n 85 84,m 9 85]) (S (d [] [r 3 (f 89 5 0),w 4 (l 90 89) 0 0,r 5 (m 91 7),r 6 (a 92 90 91 1),w 7 (l 93 92) 0 0,r 8 (m 94 0),r 9 (m 95 6),r 10 (a 96 94 95 1),w 11 (l 97 96) 0 0,r 12 (m 98 8),r 13 (a 99 97 98 4),w 14 (L 100 99 4) 0 0,r 15 (m 101 9),r 16 (o 102 (.build [.x (.t 100) 4,.x (.t 101) 1])),r 17 (q 103 5 102),u 18 (p 104 5 3518437208883 93 103),r 0 (f 86 5 0),w 1 (l 87 86) 0 1,r 2 (m 88 7)] [a 105 87 88 1,s 1 105 104]) (d [] [r 0 (f 106 5 0),w 1 (l 107 106) 0 0,r 2 (o 108 (.fbl 1 [.k .ah])),u 3 (p 109 1 5864062014805 107 108),r 4 (f 110 5 1),w 5 (l 111 110) 0 1,r 6 (o 112 (.fbl 1 [.k (.bool false)])),u 7 (p 113 1 140737488355328 111 112),r 8 (f 114 5 0)] [s 1 114 109,f 115 5 1,s 1 115 113]))) W) (g [7] [m 116 9,m 7 116]))))) (t 8 43 44))
def Z8:=S (A [33] [m 30 6,m 31 0,n 32 31,z 33 .lss 30 32] 33 W (X 2)) (S (T 3 (S (g [7] [K 7 0]) (S (S (g [8] [K 8 0]) (T 4 (M Z7))) (g [] [f 117 5 1,l 118 117,m 119 7,a 120 118 119 1,e (.st 1 (.t 120) (.k (.bool true)))])))) (t 6 34 35))
def f81:=h0 127 1 [0,2,3,4,5,6,7,8,9,10,11,14,19,27,33,42,52,71,82,124] [.cell 2 (some 2),.tmp 3] (S (g [2,3] [o 2 (.alloc [.ah,.ah]),K 3 0]) (S (A [14] [m 12 0,n 13 12,i 14 .gtr 13 60] 14 (F [3] [o 15 (.build [.z [.ah],.z [.ah]]),s 2 2 15,K 3 5]) W) (S (S (g [4] [K 4 0]) (T 0 (M Z5))) (S (g [5] [j 29 81,o 5 (.alloc [.ah,.ah]),s 2 5 29]) (S (S (g [6] [K 6 0]) (T 2 (M Z8))) (S (g [11] [L 121 5 2,c 122 66 121,o 11 (.alloc [.ah,.ah]),s 2 11 122]) (S (A [124] [L 123 11 2,c 124 62 123] 124 (F [3] [o 125 (.build [.z [.ah],.z [.ah]]),s 2 2 125,K 3 5]) W) (F [3] [L 126 11 2,s 2 2 126,K 3 0]))))))))
def Z9:=g [26] [m 18 1,i 19 .lss 18 1,m 20 19,mF 21 1 20,fF 22 3 0 20,lF 23 22 20,nF 24 23 20,zF 25 .gtr 21 24 20,Y 26 20 25]
def f56:=h0 27 3 [0,1,2,3,6,8,16,26] [.tmp 6] (S (g [3,6] [b 3 0,K 6 0]) (S (S (g [8] [L 10 3 4,m 11 2,C 12 53 10 11,m 9 12,x 13 9 0,x 14 9 1,m 7 13,m 8 14]) (A [16] [m 15 8,i 16 .neq 15 0] 16 (F [6] [m 17 8,m 6 17]) W)) (S (S Z9 (I 26 (F [6] [K 6 7]) W)) (F [6] [K 6 0]))))
def δ:=g [34] [m 35 12,m 36 35,fT 37 11 1 36,lT 38 37 36,iT 39 .eql 38 0 36,y 40 36 39,m 34 40]
def ε:=g [50] [f 51 11 1,l 52 51,i 53 .eql 52 0,m 54 53,LT 55 11 4 54,cT 56 83 55 54,y 57 54 56,m 58 57,mT 59 2 58,mT 60 10 58,CT 61 84 59 60 58,NT 62 61 58,y 63 58 62,m 50 63]
def ζ:=S (g [23] [z 23 .lss 22 21]) (S (I 23 W (X 0)) (S (T 1 (S (g [11,10] [m 24 22,a 25 20 22 4,L 26 25 4,o 11 (.alloc [.int .i64 0,.int .i64 0,.int .u8 0,.int .i64 0]),m 10 24,s 4 11 26]) (S (A [30] [f 27 11 0,l 28 27,m 29 1,z 30 .neq 28 29] 30 (X 1) W) (S (g [12] [f 31 11 2,l 32 31,o 33 (.bin false .neq (.t 32) (.k (.int .u8 3))),m 12 33]) (S (T 2 (S δ (I 34 (S (g [] [m 41 9,m 42 10,m 43 6,n 44 43,e (.mup ⟨false,[0]⟩ (.t 41) (.t 42) (.t 44))]) (S (g [6] [m 45 6,m 46 10,o 47 (.bsl 1 [.t 46]),q 48 1 47,p 49 1 5864062014805 45 48,m 6 49]) (X 1))) (S ε (I 50 (X 1) W))))) (S (g [] [m 64 9,m 65 10,m 66 9,m 67 7,m 68 10,a 69 67 68 1,l 70 69,o 71 (.lkp ⟨false,[0]⟩ (.t 66) (.t 70) (.int .i64 0) false),e (.mup ⟨false,[0]⟩ (.t 64) (.t 65) (.t 71))]) (d [] [r 4 (m 76 6),r 5 (m 77 9),r 6 (m 78 10),w 7 (o 79 (.lkp ⟨false,[0]⟩ (.t 77) (.t 78) (.int .i64 0) false)) 0 0,r 8 (a 80 76 79 1),w 9 (l 81 80) 0 0,r 10 (m 82 10),r 11 (q 83 1 82),u 12 (p 84 1 17592186044416 81 83),r 0 (m 72 6),r 1 (m 73 9),r 2 (m 74 10),w 3 (o 75 (.lkp ⟨false,[0]⟩ (.t 73) (.t 74) (.int .i64 0) false)) 0 1] [a 85 72 75 1,s 1 85 84]))))))) (g [22] [i 86 .add 22 1,m 22 86])))
def f47:=h0 88 3 [0,1,2,3,6,7,9,10,11,12,20,21,22,23,30,34,50] [.tmp 6] (S (g [3,6] [b 3 0,Q 6]) (S (g [7] [L 14 3 4,m 15 2,C 16 82 14 15,m 13 16,x 17 13 0,x 18 13 1,m 7 17,m 8 18]) (S (g [9] [o 19 .mkm,m 9 19]) (S (S (g [20,21,22] [m 20 2,n 21 20,K 22 0]) (T 0 (M ζ))) (F [6] [m 87 6,m 6 87])))))
def η:=S (g [10] [z 10 .lss 9 8]) (S (I 10 W (X 0)) (S (T 1 (S (g [6] [a 11 7 9 1,l 12 11,m 6 12]) (g [4] [m 13 4,m 14 1,m 15 6,a 16 14 15 4,L 17 16 4,c 18 85 17,q 19 4 18,p 20 4 4398046511104 13 19,m 4 20]))) (g [9] [i 21 .add 9 1,m 9 21])))
def f49:=h0 23 2 [0,1,4,6,7,8,9,10] [.tmp 4] (S (g [4] [Q 4]) (S (S (g [7,8,9] [m 7 0,n 8 7,K 9 0]) (T 0 (M η))) (F [4] [m 22 4,m 4 22])))
def f44:=h0 36 1 [0,1,2,3,4,5,10,21,25,29] [.tmp 2] (S (g [1,2] [b 1 0,K 2 0]) (S (S (g [3] [f 6 1 0,L 7 6 4,c 8 86 7,m 3 8]) (A [10] [m 9 3,i 10 .neq 9 0] 10 (F [2] [m 11 3,m 2 11]) W)) (S (g [4,5] [f 13 1 0,L 14 13 4,f 15 1 4,l 16 15,C 17 87 14 16,m 12 17,x 18 12 0,x 19 12 1,o 4 (.alloc [.ah,.bool false,.int .i64 0,.bool false]),s 4 4 18,m 5 19]) (S (A [21] [m 20 5,i 21 .eql 20 0] 21 (g [5] [f 22 1 5,L 23 22 6,c 24 54 23,m 5 24]) W) (S (T 0 (A [25] [m 26 5,i 27 .neq 26 0,m 25 27] 25 (F [2] [m 28 5,m 2 28]) (A [29] [L 30 4 4,f 31 1 5,f 32 31 0,L 33 32 4,C 34 75 30 33,N 35 34,m 29 35] 29 (F [2] [K 2 11]) W))) (F [2] [K 2 0]))))))
def T4:=S (A [14] [m 8 7,m 9 1,o 10 (.len 1 (.t 9)),z 11 .add 8 10,m 12 0,o 13 (.len 1 (.t 12)),z 14 .leq 11 13] 14 W (X 0)) (S (T 1 (A [25] [m 17 0,m 18 7,m 19 7,m 20 1,o 21 (.len 1 (.t 20)),z 22 .add 19 21,o 23 (.sls (.t 17) (some (.t 18)) (some (.t 22))),m 24 1,z 25 .eql 23 24] 25 (S (g [5] [m 26 5,m 27 0,m 28 6,m 29 7,o 30 (.sls (.t 27) (some (.t 28)) (some (.t 29))),q 31 1 30,p 32 1 8796093022208 26 31,m 5 32]) (g [6,7] [m 33 7,m 34 1,o 35 (.len 1 (.t 34)),z 36 .add 33 35,m 37 7,m 38 1,o 39 (.len 1 (.t 38)),z 40 .add 37 39,i 41 .sub 40 1,m 6 36,m 7 41])) W)) (t 7 15 16))
def ag9:=h0 48 2 [0,1,4,5,6,7,14,25] [.tmp 4] (S (g [4] [Q 4]) (S (g [5] [Q 5]) (S (g [6] [K 6 0]) (S (S (g [7] [K 7 0]) (T 0 (M T4))) (F [4] [m 42 5,m 43 0,m 44 6,o 45 (.sls (.t 43) (some (.t 44)) none),q 46 1 45,p 47 1 8796093022208 42 46,m 4 47])))))
def T5:=g [28] [m 21 5,o 22 (.len 1 (.t 21)),i 23 .gtr 22 0,m 24 23,mT 25 5 24,G 26 (.idx (.t 25) (.k (.int .i64 0))) 24 true,G 27 (.bin false .eql (.t 26) (.k (.int .u8 46))) 24 true,y 28 24 27]
def T6:=g [76] [m 70 9,i 71 .neq 70 0,m 72 71,mF 73 8 72,mF 74 0 72,zF 75 .neq 73 74 72,Y 76 72 75]
def aha:=h0 79 1 [0,2,3,4,5,6,7,8,9,28,42,45,46,49,52,63,76] [.cell 2 (some 4),.tmp 3] (S (g [2,3] [o 2 (.alloc [.int .i64 0,.int .i64 0,.int .u8 0,.int .i64 0]),K 3 0]) (S (g [4] [o 4 (.alloc [.int .i64 0,.int .i64 0,.int .u8 0,.int .i64 0])]) (S (g [5] [m 10 0,m 5 10]) (S (g [6,7] [m 12 5,c 13 98 12,m 11 13,x 14 11 0,x 15 11 1,m 6 14,m 7 15]) (S (d [5] [r 0 (m 16 6),r 4 (f 20 4 0),u 5 (s 1 20 16),r 1 (m 17 5),r 2 (m 18 7),r 3 (o 19 (.sls (.t 17) (some (.t 18)) none))] [m 5 19]) (S (S T5 (I 28 (S (g [6,7] [m 30 5,o 31 (.sls (.t 30) (some (.k (.int .i64 1))) none),c 32 98 31,m 29 32,x 33 29 0,x 34 29 1,m 6 33,m 7 34]) (d [5] [r 0 (m 35 6),r 5 (f 40 4 1),u 6 (s 1 40 35),r 1 (m 36 5),r 2 (m 37 7),r 3 (o 38 (.bin false .add (.k (.int .i64 1)) (.t 37))),r 4 (o 39 (.sls (.t 36) (some (.t 38)) none))] [m 5 39])) W)) (S (A [42] [m 41 5,o 42 (.bin false .eql (.t 41) (.k (.str [])))] 42 (F [3] [o 43 (.build [.z [.int .i64 0],.z [.int .i64 0],.z [.int .u8 0],.z [.int .i64 0]]),s 4 2 43,K 3 4]) W) (S (S (g [45] [m 44 5,o 45 (.idx (.t 44) (.k (.int .i64 0)))]) (T 0 (A [46] [o 47 (.bin false .eql (.t 45) (.k (.int .u8 63))),m 46 47] 46 (g [] [f 48 4 2,e (.st 1 (.t 48) (.k (.int .u8 1)))]) (A [49] [o 50 (.bin false .eql (.t 45) (.k (.int .u8 61))),m 49 50] 49 (g [] [f 51 4 2,e (.st 1 (.t 51) (.k (.int .u8 2)))]) (A [52] [o 53 (.bin false .eql (.t 45) (.k (.int .u8 33))),m 52 53] 52 (g [] [f 54 4 2,e (.st 1 (.t 54) (.k (.int .u8 3)))]) W))))) (S (g [] [m 56 5,o 57 (.sls (.t 56) (some (.k (.int .i64 1))) none),c 58 98 57,m 55 58,x 59 55 0,x 60 55 1,f 61 4 3,s 1 61 59]) (S (A [63] [m 62 5,o 63 (.bin false .eql (.t 62) (.k (.str [33,42])))] 63 (g [] [f 64 4 3,e (.st 1 (.t 64) (.k (.int .i64 (-1))))]) W) (S (S (g [8,9] [L 66 4 4,c 67 99 66,m 65 67,x 68 65 0,x 69 65 1,m 8 68,m 9 69]) (S T6 (I 76 (F [3] [o 77 (.build [.z [.int .i64 0],.z [.int .i64 0],.z [.int .u8 0],.z [.int .i64 0]]),s 4 2 77,K 3 4]) W))) (F [3] [L 78 4 4,s 4 2 78,K 3 0]))))))))))))
def θ:=g [4] [f 6 2 1,L 7 6 2,f 8 3 1,L 9 8 2,o 10 (.eqs ⟨true,[1,0]⟩ false (.t 7) (.t 9)),m 11 10,fT 12 2 3 11,lT 13 12 11,fT 14 3 3 11,lT 15 14 11,G 16 (.bin true .eql (.t 13) (.t 15)) 11 true,y 17 11 16,m 18 17,fT 19 2 0 18,lT 20 19 18,fT 21 3 0 18,lT 22 21 18,mT 23 5 18,G 24 (.call 102 [.t 20,.t 22,.t 23]) 18 true,y 25 18 24,m 4 25]
def f85:=h0 26 2 [0,1,2,3,4,5] [.tmp 4] (S (g [2,3,4] [b 2 0,b 3 1,Z 4]) (S (g [5] [o 5 (.mv (.k (.fn 100 [] [])))]) (S θ R)))
def f97:=h0 6 3 [0,1,2,3,4] [.tmp 4] (S (g [3,4] [o 3 (.box (.t 0)),o 4 (.mv (.k .gG))]) (F [4] [o 5 (.mkf 77 [] [.t 1,.t 3,.t 2]),m 4 5]))
def ι:=S (g [17] [z 17 .lss 16 15]) (S (I 17 W (X 0)) (S (T 1 (S (g [6] [a 18 14 16 5,L 19 18 5,o 6 (.alloc [.int .i64 0,.int .i64 0,.int .u8 0,.int .i64 0,.int .i64 0]),s 5 6 19]) (S (d [7] [w 2 (L 22 3 2) 0 0,r 3 (f 23 2 1),w 4 (l 24 23) 0 0,r 5 (f 25 6 0),w 6 (L 26 25 4) 0 0,u 7 (J 27 55 22 24 26),r 0 (f 20 6 4),w 1 (l 21 20) 0 1] [o 28 (.build [.x (.t 21) 1,.x (.t 27) 1]),o 29 (.box (.t 28)),m 7 29]) (S (A [34] [m 30 7,k 31 30,f 32 31 1,l 33 32,i 34 .eql 33 (-1)] 34 (g [7] [V 7]) W) (A [40] [m 35 0,f 36 6 0,L 37 36 4,m 38 7,o 39 (.dyn (.t 35) [.t 37,.t 38]),N 40 39] 40 R W))))) (g [16] [i 41 .add 16 1,m 16 41])))
def f98:=h0 42 4 [0,1,2,3,6,7,14,15,16,17,34,40] [] (S (g [14,15,16] [f 8 1 0,f 9 8 0,l 10 9,f 11 2 0,l 12 11,a 13 10 12 1,l 14 13,n 15 14,K 16 0]) (T 0 (M ι)))
def f99:=h0 9 1 [0,1,2] [.tmp 2] (S (g [1,2] [b 1 0,o 2 (.mv (.k (.str [])))]) (F [2] [f 3 1 0,l 4 3,f 5 1 1,l 6 5,o 7 (.bsl 1 [.t 4,.t 6]),c 8 79 7,m 2 8]))
def T8:=S (A [13] [m 12 5,i 13 .gtr 12 0] 13 W (X 2)) (S (T 3 (g [] [m 16 5,i 17 .rem 16 2,o 18 (.bin false .add (.k (.int .i64 48)) (.t 17)),o 19 (.cnv .u8 (.t 18)),C 20 103 3 19])) (g [5] [m 14 5,i 15 .quo 14 2,m 5 15]))
def T9:=S (g [9] [z 9 .lss 8 7]) (S (I 9 W (X 0)) (S (T 1 (S (g [5] [a 10 6 8 1,l 11 10,m 5 11]) (S (T 2 (M T8)) (g [] [o 21 (.call 103 [.t 3,.k (.int .u8 44)])])))) (g [8] [i 22 .add 8 1,m 8 22])))
def ahb:=h0 24 1 [0,2,3,5,6,7,8,9,13] [.tmp 2] (S (g [2] [o 2 (.mv (.k (.str [])))]) (S (g [3] [o 3 (.alb 188 [.dO,.ah])]) (S (S (g [6,7,8] [m 6 0,n 7 6,K 8 0]) (T 0 (M T9))) (F [2] [c 23 104 3,m 2 23]))))
def Ua:=g [90] [f 81 1 4,l 82 81,i 83 .gtr 82 0,m 84 83,lT 85 5 84,G 86 (.len 2 (.t 85)) 84 true,fT 87 1 4 84,lT 88 87 84,zT 89 .gtr 86 88 84,y 90 84 89]
def Ub:=S (A [23] [l 21 6,n 22 21,i 23 .gtr 22 0] 23 W (X 0)) (S (T 1 (S (d [32] [r 0 (f 26 1 3),w 1 (l 27 26) 0 0,w 2 (l 28 6) 0 0,r 3 (o 29 (.ia (.t 28) (.k (.int .i64 0)) 3)),r 4 (f 30 29 0),w 5 (L 31 30 2) 0 0] [o 32 (.dyn (.t 27) [.t 31])]) (T 2 (.rf (.t 32) [33,34] (S (g [7] [o 7 (.alloc [.int .i64 0,.int .i64 0,.int .u8 0,.int .i64 0]),s 4 7 33]) (g [8] [m 8 34])) (T 3 (S (d [9] [w 0 (l 35 6) 0 0,r 1 (o 36 (.ia (.t 35) (.k (.int .i64 0)) 3)),r 2 (f 37 36 2),w 3 (l 38 37) 0 0,u 4 (c 39 105 38),w 5 (L 40 7 4) 0 1,r 6 (q 41 4 40)] [p 42 4 4398046511104 39 41,m 9 42]) (S (T 4 (A [43] [m 44 8,o 45 (.niq 3 false (.t 44)),m 43 45] 43 (S (d [54] [w 0 (l 46 3) 0 0,r 1 (N 47 46),r 2 (m 48 47),w 3 (LT 49 7 4 48) 0 0,u 4 (cT 50 30 49 48),r 5 (fT 51 1 5 48),w 6 (lT 52 51 48) 0 1] [G 53 (.bin true .eql (.t 50) (.t 52)) 48 true,y 54 48 53]) (I 54 (g [] [m 55 9,s 1 2 55,e (.st 1 (.t 3) (.k (.bool true)))]) W)) (S (d [56] [r 1 (f 58 1 2),w 2 (l 59 58) 0 0,r 3 (m 60 8),r 4 (k 61 60),w 5 (L 62 61 2) 0 0,u 6 (o 63 (.dyn (.t 59) [.t 62])),w 0 (l 57 5) 0 1] [o 64 (.lkp ⟨false,[2]⟩ (.t 57) (.t 63) (.bool false) false),N 65 64,m 56 65]) (I 56 (S (d [] [r 1 (f 67 1 2),w 2 (l 68 67) 0 0,r 3 (m 69 8),r 4 (k 70 69),w 5 (L 71 70 2) 0 0,u 6 (o 72 (.dyn (.t 68) [.t 71])),w 0 (l 66 5) 0 1] [e (.mup ⟨false,[2]⟩ (.t 66) (.t 72) (.k (.bool true)))]) (d [] [w 0 (l 73 6) 0 0,r 1 (m 74 8),r 2 (k 75 74),w 3 (L 76 75 2) 0 0,r 4 (m 77 9),r 5 (o 78 (.build [.x (.t 76) 2,.x (.t 77) 1])),r 6 (q 79 3 78)] [p 80 3 3518437208883 73 79,s 1 6 80])) W)))) (S Ua (I 90 (F [] [e (.st 1 (.t 2) (.k .ah)),e (.st 1 (.t 3) (.k (.bool false))),e (.st 1 (.t 4) (.k (.int .i64 5)))]) W))))))))) (S (S (g [91] [l 91 6]) (g [6] [o 6 (.alloc [.ah]),s 1 6 91])) (g [] [l 24 6,o 25 (.slc (.t 24) (some (.k (.int .i64 1))) none none 3),s 1 6 25])))
def ahc:=h0 94 1 [0,1,2,3,4,5,6,7,8,9,23,32,33,34,43,54,56,90,91] [.cell 2 none,.cell 3 none,.cell 4 none] (S (g [1,2,3,4] [b 1 0,o 2 (.alloc [.ah]),o 3 (.alloc [.bool false]),o 4 (.alloc [.int .i64 0])]) (S (g [5] [o 10 .mkm,f 11 1 2,l 12 11,f 13 1 0,L 14 13 2,o 15 (.dyn (.t 12) [.t 14]),e (.mup ⟨false,[2]⟩ (.t 10) (.t 15) (.k (.bool true))),m 16 10,o 5 (.alloc [.fK]),s 1 5 16]) (S (S (g [6] [f 17 1 0,L 18 17 2,o 19 (.build [.x (.t 18) 2,.z [.ah]]),o 20 (.bsl 3 [.t 19]),o 6 (.alloc [.ah]),s 1 6 20]) (T 0 (M Ub))) (S (d [] [w 0 (l 92 2) 0 0,u 2 (s 1 2 92),w 1 (l 93 3) 0 1] [s 1 3 93,e (.st 1 (.t 4) (.k (.int .i64 0)))]) R))))
def f87:=h0 11 2 [0,1,2,4,5] [.tmp 4,.tmp 5] (S (g [2,4,5] [b 2 0,Q 4,K 5 0]) (F [4,5] [L 6 2 4,m 7 1,o 8 (.call 106 [.t 6,.t 7,.k (.fn 107 [] [])]),x 9 8 0,x 10 8 1,m 4 9,m 5 10]))
def κ:=g [2] [f 3 1 2,l 4 3,o 5 (.bin false .eql (.t 4) (.k (.int .u8 3))),m 6 5,fT 7 1 3 6,lT 8 7 6,iT 9 .eql 8 (-1) 6,y 10 6 9,m 2 10]
def f88:=h0 11 1 [0,1,2] [.tmp 2] (S (g [1,2] [b 1 0,Z 2]) (S κ R))
def μ:=g [4] [m 5 1,i 6 .gtr 5 0,m 7 6,mT 8 0 7,mT 9 1 7,iT 10 .sub 9 1 7,aT 11 8 10 4 7,LT 12 11 4 7,cT 13 83 12 7,y 14 7 13,m 15 14,mT 16 0 15,mT 17 1 15,iT 18 .sub 17 1 15,aT 19 16 18 4 15,fT 20 19 1 15,lT 21 20 15,iT 22 .gtr 21 0 15,y 23 15 22,m 4 23]
def f89:=h0 24 2 [0,1,4] [.tmp 4] (S (g [4] [Z 4]) (S μ R))
def f91:=h0 8 1 [0,1,2] [.cell 2 (some 4)] (S (g [1,2] [o 1 (.box (.t 0)),o 2 (.alloc [.int .i64 0,.int .i64 0,.int .u8 0,.int .i64 0])]) (S (g [] [f 3 1 1,l 4 3,f 5 1 0,s 1 5 4,f 6 1 1,e (.st 1 (.t 6) (.k (.int .i64 0)))]) (F [] [L 7 1 4,s 4 2 7])))
def ν:=g [30] [m 25 9,N 26 25,m 27 26,mF 28 1 27,iF 29 .eql 28 0 27,Y 30 27 29]
def f83:=h0 46 2 [0,1,2,4,5,6,7,8,9,16,30] [.cell 4 (some 4),.tmp 5] (S (g [2,4,5] [b 2 0,o 4 (.alloc [.ah,.bool false,.int .i64 0,.bool false]),K 5 0]) (S (g [6,7] [L 11 2 4,c 12 113 11,m 10 12,x 13 10 0,x 14 10 1,o 6 (.alloc [.ah,.bool false,.int .i64 0,.bool false]),s 4 6 13,m 7 14]) (S (A [16] [m 15 7,i 16 .neq 15 0] 16 (F [5] [o 17 (.build [.z [.ah],.z [.bool false,.int .i64 0],.z [.bool false]]),m 18 7,s 4 4 17,m 5 18]) W) (S (g [8,9] [L 20 6 4,m 21 1,o 22 (.call 114 [.t 20,.t 21,.k (.int .i64 0)]),m 19 22,x 23 19 0,x 24 19 1,o 8 (.alloc [.int .i64 0,.int .i64 0,.bool false,.int .i64 0,.bool false]),s 5 8 23,m 9 24]) (S (S ν (I 30 (F [5] [o 31 (.build [.z [.ah],.z [.bool false,.int .i64 0],.z [.bool false]]),s 4 4 31,K 5 7]) W)) (S (d [5] [r 0 (f 32 6 0),r 1 (f 33 32 0),w 2 (l 34 33) 0 0,r 3 (m 35 1),r 4 (i 36 .sub 35 1),r 5 (a 37 34 36 3),r 6 (f 38 37 0),w 7 (l 39 38) 0 0,u 8 (o 40 (.call 115 [.t 39,.k (.fn 116 [] [])])),r 9 (f 41 8 2),w 10 (L 42 41 2) 0 1,r 11 (f 43 8 4),w 12 (l 44 43) 0 1] [o 45 (.build [.x (.t 40) 1,.x (.t 42) 2,.x (.t 44) 1]),s 4 4 45,K 5 0]) R))))))
def Uc:=g [25] [m 6 5,m 7 0,o 8 (.len 1 (.t 7)),z 9 .lss 6 8,m 10 9,mT 11 5 10,iT 12 .lss 11 19 10,y 13 10 12,m 14 13,mT 15 0 14,mT 16 5 14,G 17 (.idx (.t 15) (.t 16)) 14 true,G 18 (.bin false .geq (.t 17) (.k (.int .u8 48))) 14 true,y 19 14 18,m 20 19,mT 21 0 20,mT 22 5 20,G 23 (.idx (.t 21) (.t 22)) 20 true,G 24 (.bin false .leq (.t 23) (.k (.int .u8 57))) 20 true,y 25 20 24]
def Ud:=S (S Uc (I 25 W (X 0))) (T 1 (S (g [4] [m 26 4,o 27 (.bin false .mul (.k (.int .i64 10)) (.t 26)),m 28 0,m 29 5,o 30 (.idx (.t 28) (.t 29)),o 31 (.bin false .sub (.t 30) (.k (.int .u8 48))),o 32 (.cnv .i64 (.t 31)),z 33 .add 27 32,m 4 33]) (t 5 34 35)))
def ahd:=h0 38 1 [0,2,3,4,5,25] [.tmp 2,.tmp 3] (S (g [2,3] [K 2 0,K 3 0]) (S (g [4,5] [K 4 0,K 5 0]) (S (T 0 (M Ud)) (F [2,3] [m 36 4,m 37 5,m 2 36,m 3 37]))))
def Ue:=g [4] [f 5 1 0,l 6 5,i 7 .geq 6 0,m 8 7,fT 9 1 1 8,lT 10 9 8,iT 11 .geq 10 0 8,y 12 8 11,m 4 12]
def Uf:=g [4] [m 17 4,m 18 17,fT 19 1 3 18,lT 20 19 18,iT 21 .eql 20 0 18,y 22 18 21,m 4 22]
def Ug:=g [4] [m 25 4,m 26 25,fT 27 1 3 26,lT 28 27 26,iT 29 .geq 28 0 26,y 30 26 29,m 4 30]
def Uh:=g [4] [m 33 4,m 34 33,fT 35 1 3 34,lT 36 35 34,iT 37 .geq 36 (-1) 34,y 38 34 37,m 4 38]
def ahe:=h0 43 1 [0,1,2,3,4,14,15,23,31,40] [.tmp 2,.tmp 3] (S (g [1,2,3] [b 1 0,o 2 (.mv (.k (.str []))),K 3 0]) (S Ue (S (S (g [14] [f 13 1 2,l 14 13]) (T 0 (A [15] [o 16 (.bin false .eql (.t 14) (.k (.int .u8 1))),m 15 16] 15 Uf (A [23] [o 24 (.bin false .eql (.t 14) (.k (.int .u8 2))),m 23 24] 23 Ug (A [31] [o 32 (.bin false .eql (.t 14) (.k (.int .u8 3))),m 31 32] 31 Uh (g [4] [Z 4])))))) (S (A [40] [m 39 4,N 40 39] 40 (F [2,3] [o 2 (.mv (.k (.str []))),K 3 4]) W) (F [2,3] [L 41 1 4,c 42 125 41,m 2 42,K 3 0])))))
def Ui:=g [4] [f 5 2 1,L 6 5 2,f 7 3 1,L 8 7 2,o 9 (.eqs ⟨true,[1,0]⟩ false (.t 6) (.t 8)),m 10 9,fT 11 2 0 10,lT 12 11 10,fT 13 3 0 10,lT 14 13 10,CT 15 101 12 14 10,y 16 10 15,m 4 16]
def ahf:=h0 17 2 [0,1,2,3,4] [.tmp 4] (S (g [2,3,4] [b 2 0,b 3 1,Z 4]) (S Ui R))
def Uj:=S (g [14] [z 14 .lss 13 12]) (S (I 14 W (X 0)) (S (T 1 (S (g [5] [m 15 13,m 5 15]) (S (d [24] [r 0 (m 16 0),r 1 (m 17 5),r 2 (a 18 16 17 2),w 3 (L 19 18 2) 0 0,r 4 (m 20 1),r 5 (m 21 5),r 6 (a 22 20 21 2),w 7 (L 23 22 2) 0 0] [o 24 (.eqs ⟨true,[1,0]⟩ true (.t 19) (.t 23))]) (I 24 (F [4] [Z 4]) W)))) (g [13] [i 25 .add 13 1,m 13 25])))
def ahg:=h0 26 2 [0,1,4,5,10,12,13,14,24] [.tmp 4] (S (g [4] [Z 4]) (S (A [10] [m 6 0,n 7 6,m 8 1,n 9 8,z 10 .neq 7 9] 10 (F [4] [Z 4]) W) (S (S (g [12,13] [m 11 0,n 12 11,K 13 0]) (T 0 (M Uj))) (F [4] [O 4]))))
def Uk:=S (g [18] [z 18 .lss 17 16]) (S (I 18 W (X 0)) (S (T 1 (S (g [8,7] [m 19 17,a 20 15 17 3,L 21 20 3,o 8 (.alloc [.ah,.bool false,.int .i64 0]),m 7 19,s 3 8 21]) (S (g [9] [m 22 1,m 23 7,a 24 22 23 3,L 25 24 3,o 9 (.alloc [.ah,.bool false,.int .i64 0]),s 3 9 25]) (A [30] [m 26 2,L 27 8 3,L 28 9 3,o 29 (.dyn (.t 26) [.t 27,.t 28]),N 30 29] 30 (F [6] [Z 6]) W)))) (g [17] [i 31 .add 17 1,m 17 31])))
def ahh:=h0 32 3 [0,1,2,6,7,8,9,14,15,16,17,18,30] [.tmp 6] (S (g [6] [Z 6]) (S (A [14] [m 10 0,n 11 10,m 12 1,n 13 12,z 14 .neq 11 13] 14 (F [6] [Z 6]) W) (S (S (g [15,16,17] [m 15 0,n 16 15,K 17 0]) (T 0 (M Uk))) (F [6] [O 6]))))
def ahi:=h0 8 1 [0,2,4] [.tmp 2] (S (g [2] [Q 2]) (S (A [4] [m 3 0,o 4 (.niq 0 false (.t 3))] 4 (F [2] [Q 2]) W) (F [2] [o 5 (.bsl 4 []),m 6 0,p 7 4 4398046511104 5 6,m 2 7])))
def f126:=h0 42 3 [0,1,2,3,6,7,8,9,16,21,38] [.tmp 6,.tmp 7] (S (g [3,6,7] [b 3 0,Q 6,K 7 0]) (S (g [8,7] [L 11 3 4,m 12 1,C 13 88 11 12,m 10 13,x 14 10 0,x 15 10 1,m 8 14,m 7 15]) (S (T 0 (A [16] [m 17 7,i 18 .neq 17 0,m 16 18] 16 (F [6,7] [m 19 6,m 20 7,m 6 19,m 7 20]) (A [21] [m 22 8,k 23 22,f 24 23 4,l 25 24,n 26 25,m 27 1,n 28 27,z 29 .lss 26 28,m 21 29] 21 (F [6,7] [m 30 6,m 6 30,K 7 13]) W))) (S (S (g [6,7] [m 32 2,m 33 8,o 34 (.dyn (.t 32) [.t 33]),m 31 34,x 35 31 0,x 36 31 1,m 6 35,m 7 36]) (A [38] [m 37 7,i 38 .neq 37 0] 38 (S (g [9] [Q 9]) (F [6,7] [m 39 9,m 40 7,m 6 39,m 7 40])) W)) (F [6,7] [m 41 6,m 6 41,K 7 0])))))
def ahj:=h0 8 1 [0,2,3] [.tmp 2,.tmp 3] (S (g [2,3] [Q 2,K 3 0]) (F [2,3] [m 4 0,k 5 4,f 6 5 6,l 7 6,m 2 7,K 3 0]))
def Ul:=S (g [10] [z 10 .lss 9 8]) (S (I 10 W (X 0)) (S (T 1 (S (g [6] [a 11 7 9 2,L 12 11 2,o 6 (.alloc [.bool false,.int .i64 0]),s 2 6 12]) (g [4] [m 13 4,m 14 1,L 15 6 2,o 16 (.dyn (.t 14) [.t 15]),q 17 3 16,p 18 3 3518437208883 13 17,m 4 18]))) (g [9] [i 19 .add 9 1,m 9 19])))
def ahk:=h0 21 2 [0,1,4,6,7,8,9,10] [.tmp 4] (S (g [4] [Q 4]) (S (S (g [7,8,9] [m 7 0,n 8 7,K 9 0]) (T 0 (M Ul))) (F [4] [m 20 4,m 4 20])))
def ahl:=h0 5 1 [0,1,2] [.cell 2 (some 3)] (S (g [1,2] [b 1 0,o 2 (.alloc [.ah,.bool false,.int .i64 0])]) (F [] [L 3 1 2,o 4 (.build [.z [.ah],.x (.t 3) 2]),s 3 2 4]))
def ahm:=h0 44 1 [0,1,2,3,9,16,22,32] [.tmp 2] (S (g [1,2] [b 1 0,o 2 (.mv (.k (.str [])))]) (S (g [3] [f 4 1 0,l 5 4,c 6 147 5,m 3 6]) (S (A [9] [f 7 1 1,l 8 7,i 9 .gtr 8 0] 9 (g [3] [m 10 3,f 11 1 1,l 12 11,c 13 147 12,o 14 (.bin false .add (.k (.str [46])) (.t 13)),z 15 .add 10 14,m 3 15]) W) (S (T 0 (A [16] [f 17 1 2,l 18 17,o 19 (.bin false .eql (.t 18) (.k (.int .u8 1))),m 16 19] 16 (F [2] [m 20 3,o 21 (.bin false .add (.t 20) (.k (.str [63]))),m 2 21]) (A [22] [f 23 1 2,l 24 23,o 25 (.bin false .eql (.t 24) (.k (.int .u8 2))),m 22 25] 22 (F [2] [m 26 3,o 27 (.bin false .add (.t 26) (.k (.str [61]))),f 28 1 3,l 29 28,c 30 147 29,z 31 .add 27 30,m 2 31]) (A [32] [f 33 1 3,l 34 33,i 35 .eql 34 (-1),m 32 35] 32 (F [2] [m 36 3,o 37 (.bin false .add (.t 36) (.k (.str [33,42]))),m 2 37]) W)))) (F [2] [m 38 3,o 39 (.bin false .add (.t 38) (.k (.str [33]))),f 40 1 3,l 41 40,c 42 147 41,z 43 .add 39 42,m 2 43])))))
def ahn:=h0 30 1 [0,2,3,4,8,15,24] [.tmp 2] (S (g [2] [o 2 (.mv (.k (.str [])))]) (S (g [3] [m 5 0,i 6 .rem 5 10,m 3 6]) (S (A [8] [m 7 3,i 8 .lss 7 0] 8 (g [3] [m 9 3,o 10 (.un .neg (.t 9)),m 3 10]) W) (S (g [4] [m 11 3,o 12 (.bin false .add (.k (.int .i64 48)) (.t 11)),o 13 (.cnv .i32 (.t 12)),o 14 (.cis (.t 13)),m 4 14]) (S (T 0 (A [15] [m 16 0,i 17 .quo 16 10,i 18 .neq 17 0,m 15 18] 15 (F [2] [m 19 0,i 20 .quo 19 10,c 21 147 20,m 22 4,z 23 .add 21 22,m 2 23]) (A [24] [m 25 0,i 26 .lss 25 0,m 24 26] 24 (F [2] [m 27 4,o 28 (.bin false .add (.k (.str [45])) (.t 27)),m 2 28]) W))) (F [2] [m 29 4,m 2 29]))))))
end Go.Proofs.YtepamfbheocmhaaGreatDoor.K.Hm.U
namespace Go.Proofs.YtepamfbheocmhaaGreatDoor.K.Hm.P
open Go Hm U
def CQ:Tr HF:=B (B (B (E f12 (B H (E f81 (D ahb) H)) (E f19 H (B (D f83) H))) (B (E f41 (B H (D ahe)) (B (E f88 (D ahn) H) (D ahk))) (B (B (D f85) (D ahj)) H))) (B (B (B H (D f47)) (E f13 (B (D ag9) (D ahi)) H)) (B (E f42 (B H (D ahg)) (B (D f91) H)) (B (E f70 (D f98) H) (B H (D ahm)))))) (B (B (B (B H (E f56 (D ahc) H)) (D f26)) (B (E f33 (B H (D ahf)) (E f44 (D f89) (D ahl))) (B (E f80 (D f97) H) H))) (B (B (E f40 (B H (D ahd)) (E f49 (D f87) H)) (B (B (D aha) (D f126)) H)) (B (E f43 (B H (D ahh)) H) (B (E f71 (D f99) H) H))))
def prog(k:Nat):Option HF:=fE CQ k
end Go.Proofs.YtepamfbheocmhaaGreatDoor.K.Hm.P
