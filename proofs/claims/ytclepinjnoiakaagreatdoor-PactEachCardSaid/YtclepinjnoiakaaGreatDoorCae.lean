/- PactEach returns true, part 5. -/
import Derived.Test.YtclepinjnoiakaaGreatDoorCad
import Derived.Test.YtclepinjnoiakaaGreatDoorCac
import Derived.KernelRfl
import Derived.Test.YtclepinjnoiakaaGreatDoorCaa
set_option linter.all false
open List renaming nil_append->bD,set_cons_zero->aS,set_cons_succ->cb,length_cons->aA,length_nil->aE,cons_append->bB,getElem_cons_zero->yL,foldl_cons->nO,findIdx_append->T5,getElem?_cons_zero->yM,take_zero->T6,take_succ_cons->T8,tail_cons->T9,getElem?_cons_succ->Ga,find?_cons->ue,count_cons->Ub,count_eq_countP->Uc,countP_map->Ud,length_singleton->dM,idxOf_le_length->Ug,getElem_idxOf->Ui,sum_cons->Gj,length_flatMap->Ux,countP_pos_iff->Uz
open Function renaming comp_def->tS
open Int renaming toNat_natCast->jy,ofNat_eq_natCast->nM
open Option renaming getD_some->iY,map_some->ml
open Nat renaming add_zero->fR,mul_assoc->Uo,mul_le_mul_left->Uq,mul_le_mul->Uw,min_le_right->Uy
set_option maxRecDepth 10000
noncomputable section
namespace Go.Proofs.YtclepinjnoiakaaGreatDoor.K.Hm.S
open Go
def O0(l:Bool):∃aw,aI (HS.mk (.nd (some (.cells (cR [.ai,.bool false,.bool false,.bool false]) 0 4 .e)) (.nd (some (.cells (cR [.ai,.bool l,.bool false,.bool true]) 0 4 (.z .e))) .lf .lf) (.nd (some (.cells (cR []) 0 0 (.o .e))) .lf .lf)) (.z (.z .e)) (.nd (some [.e]) (.nd (some [.z .e]) .lf .lf) (.nd (some [.o .e]) .lf .lf)) .lf) aw
  [(.sl (.o .e) 0 0 4,4,[])] [(.z .e,[.ai,.bool l,.bool false,.bool true]),(.e,[.ai,.bool false,.bool false,.bool false])]:=by
 have q:∀(k:Ky) (i:Nat),(if k=Ky.o .e then some 0 else none)=some i->k.toNat<3/\i=0:=λk i r=>by
  by_cases h:k=.o .e
  .subst h;rw[ar rfl]at r;cases r;exact⟨by decide,rfl⟩
  rw[aq h]at r;cases r
 refine⟨λk=>if k=.o .e then some 0 else none,⟨λk i r=>(q k i r).1,λk i r=>by rw[(q k i r).2];decide,λi v B u t=>?_⟩,λa o c p=>?_,λa b o c d p q=>?_⟩
 .match i,t with
  |0,t=>
   cases t;refine⟨Sz.nil,λk r=>(q k _ r).1,.inr ⟨.o .e,_,_,.o .e,[],rfl,rfl,by decide,λj w=>?_,rfl,by simp,λm A=>?_,ar rfl⟩⟩
   .simp at w
   rw[dE.1 A];exact ar rfl
  |n+1,t=>simp at t
 .match a,p with
  |0,p=>cases p;exact⟨⟨rfl,rfl,by show Ky.toNat (.z .e)<Ky.toNat (.z (.z .e));decide⟩,rfl⟩
  |1,p=>cases p;exact⟨⟨rfl,rfl,by show Ky.toNat .e<Ky.toNat (.z (.z .e));decide⟩,rfl⟩
  |n+2,p=>simp at p
 match a,b,p,q with
 |0,0,_,_=>rfl
 |1,1,_,_=>rfl
 |0,1,p,q=>cases p;cases q
 |1,0,p,q=>cases p;cases q
 |n+2,_,p,_=>simp at p
 |0,n+2,_,q=>simp at q
 |1,n+2,_,q=>simp at q
def aI.add{s:HS}{aw:bc}{K:dV}{v:HV}{sz:Nat}{au:aR}(h:aI s aw [(v,sz,au)] K){new:aR}(d:Sz sz new){bx:Nat}(j:au.length+new.length<=bx):
  ∃c s' b,mW sz bx none (some v) (some (.psl new)) s=.v c s'/\aI s' b [(c,sz,au++new)] K:=by
 by_cases h0:new=[]
 .subst h0;exact⟨v,s,aw,qn (h.mem.own 0 _ _ _ rfl).iS,by rw[Co];exact h⟩
 obtain⟨c,s',b,k,_,p⟩:=h.append 0 rfl d h0 j;exact⟨c,s',b,k,p⟩
def hZ(x:Mn)(m:Mv):Mn:=
 if cz m then⟨x.op++[m],x.lost,false,true⟩
 else⟨x.op.dropLast,x.lost||(bQ m&&decide (0<m.id)&&decide (m.arg=0)&& !x.forced),bQ m&&decide (0<m.arg),true⟩
section
variable{m:Mv}{e:En}{s s':HS}{o:Ky}
def T1(j:look e 3=some (.ax m.c))(k:look e 5=some (.ptr o 0))(b:qj 1 (some (.ptr o 2)) (some (.bool (bQ m&&decide (0<m.arg)))) s=.v .undef s'):bK R U.Fi e s=.code .normal e s':=by
 have d:=Tq m;simp only[Mv.c]at j d;cases p:bQ m
 .rw[p]at d b;simp at b;simp[j,k,d,b]
 rw[p]at d b;simp at b;simp[j,k,d,b]
def T2{x:Mn}(p:look e 2=some (.ax x.c))(r:look e 3=some (.ax m.c))(t:look e 5=some (.ptr o 0))(d:qj 1 (some (.ptr o 1)) (some (.bool (x.lost||(bQ m&&decide (0<m.id)&&decide (m.arg=0)&& !x.forced)))) s=.v .undef s'):bK R U.Fj e s=.code .normal e s':=by
 have j:=Tq m;obtain⟨op,l,f,b⟩:=x;simp only[Mv.c,Mn.c]at p r j d;cases l
 .cases u:bQ m
  .rw[u]at j d;simp at d;simp-implicitDefEqProofs[p,r,t,j,d]
  rw[u]at j d;by_cases q:0<m.id
  .by_cases k:m.arg=0
   .simp[q,k]at d;simp only[k]at j;simp[p,r,t,j,d,q,k]
   simp[q,k]at d;simp[p,r,t,j,d,q,k]
  simp[q]at d;simp[p,r,t,j,d,q]
 simp at d;simp[p,t,d]
end
def ZG(x:Mn)(F:x.op.length<=400)(m:Mv)(h0:cz m=false->x.op≠ [])(s:HS):R (.call 133 [.agg x.c,.agg m.c] s)=.val (.agg (hZ x m).c) s:=by
 refine aeO ?_;obtain⟨op,l,f,b⟩:=x;have q:=YV m;have H:=Tq m;simp only[Mv.c]at q H;unfold hZ;cases I:cz m
 .rw[I]at q;have J:op≠ []:=h0 I;obtain⟨n,V⟩:∃n,op.length=n+1:=⟨op.length-1,by have:=yB.2 J;omega⟩;have F:op.length<=400:=F;have M:n<=op.length:=by omega
  have hw:bR .i64 ((op.length:Int)-1)=n:=by rw[V];simp;exact bM (by omega) (by omega)
  show _=some (HV.agg (Mn.c ⟨op.dropLast,l||(bQ m&&decide (0<m.id)&&decide (m.arg=0)&& !f),bQ m&&decide (0<m.arg),true⟩));obtain⟨aw,N⟩:=O0 l;have d:∀l:aP,Sz 4 (l.map Mv.c):=λl=>Sz.map (f:=Mv.c) (λx=>rfl) l
  have u:=ql (d op);have O:(op.map Mv.c).dropLast=(op.take n).map Mv.c:=by rw[KY,bH,V,EK];rfl
  obtain⟨w,s2,A,B,j⟩:=N.add (d (op.take n)) (bx:=4398046511104) (by simp;omega);rw[bD]at j;obtain⟨s3,P,k⟩:=j.y6 (a:=0) rfl 0 (by simp) (j.mem.own 0 _ _ _ rfl).one;simp only[aS]at k;obtain⟨W,G,p⟩:=k.y6 (a:=0) rfl 2 (by simp) (x:=.bool (bQ m&&decide (0<m.arg))) rfl;simp only[aS,cb]at p;obtain⟨s5,b5,r⟩:=p.y6 (a:=0) rfl 1 (by simp) (x:=.bool (l||(bQ m&&decide (0<m.id)&&decide (m.arg=0)&& !f))) rfl
  simp only[aS,cb]at r;have C:=(r.bz 0 _ _ rfl).1.1;generalize Q:(l||(bQ m&&decide (0<m.id)&&decide (m.arg=0)&& !f))=X at*;generalize T:(bQ m&&decide (0<m.arg))=Y at*;obtain⟨s6,b6,t⟩:=r.put (a:=1) rfl (v:=.agg [w,.bool X,.bool Y,.bool true]) (new:=[w,.bool X,.bool Y,.bool true]) (by simp) rfl;simp only[cb,aS]at t;have D:=(t.bz 1 _ _ rfl).1.1;simp only[aA,aE,bw,Nat.reduceAdd]at b6 D C;rw[EK]at B;simp-implicitDefEqProofs[-U.Fi,-U.Fj,U.Q9,q,s0,ah,an,hw,M,u,B,P];rw[O,T1 (m:=m) (o:=.z .e) (s':=W) (by simp) (by simp) (by rw[T];exact G)];simp only[kF,Nh];rw[T2 (m:=m) (x:=⟨op,l,f,b⟩) (o:=.z .e) (s':=s5) (by simp) (by simp) (by simp) (by show qj 1 _ (some (.bool (l||(bQ m&&decide (0<m.id)&&decide (m.arg=0)&& !f)))) _=_;rw[Q];exact b5)];simp[aj,C,b6,D];refine aC (.agg (.cons ?_ (.data (by simp))));have h:=(t.mem.own 0 _ _ _ rfl).vw (n:=13) (cq (λx=>by simp) _);simpa using h
 rw[I]at q;show _=some (HV.agg (Mn.c ⟨op++[m],l,false,true⟩));obtain⟨aw,N⟩:=O0 l;have d:∀l:aP,Sz 4 (l.map Mv.c):=λl=>Sz.map (f:=Mv.c) (λx=>rfl) l
 have F:op.length<=400:=F;obtain⟨v1,s1,Z,a1,E⟩:=N.add (d op) (bx:=4398046511104) (by simp;omega);rw[bD]at E;obtain⟨w,s2,A,B,j⟩:=E.add (d [m]) (bx:=4398046511104) (by simp;omega);rw[<-List.map_append]at j;obtain⟨s3,P,k⟩:=j.y6 (a:=0) rfl 0 (by simp) (j.mem.own 0 _ _ _ rfl).one;simp only[aS]at k;have C:=(k.bz 0 _ _ rfl).1.1;obtain⟨W,G,p⟩:=k.put (a:=1) rfl (v:=.agg [w,.bool l,.bool false,.bool true]) (new:=[w,.bool l,.bool false,.bool true]) (by simp) rfl;simp only[cb,aS]at p;have D:=(p.bz 1 _ _ rfl).1.1;simp only[aA,aE,bw,Nat.reduceAdd]at G D C;simp only[cL,qX,Mv.c]at B;simp-implicitDefEqProofs[U.Q9,q,s0,ah,an,aj,a1,B,P,G,C,D];refine aC (.agg (.cons ?_ (.data (by simp))));have h:=(p.mem.own 0 _ _ _ rfl).vw (n:=13) (cq (λx=>by simp) _);simpa using h
section
variable{s:HS}{aw:bc}{L:cS}{K:dV}
def aI.join{s':HS}(h:aI s aw L K)(d:di (λ_=>False) s s'){v:HV}{sz:Nat}{F:cg}{au:aR}(q:bY s' v sz F au)(j:∀k,F k->s.nx.toNat<=k.toNat):∃b,aI s' b (L++[(v,sz,au)]) K:=by
 classical
 refine⟨_,h.mem.join d q j,λa o c r=>?_,h.nd⟩;obtain⟨p,t⟩:=h.bz a o c r;refine⟨p.frame d (λh=>h),?_⟩;have:¬F o:=λu=>by have:=j o u;have:=p.2.2;omega
 simp only[this,bp];exact t
def aI.KZ(h:aI s aw L K)(sz:Nat):∃b,aI {h:=av (some (.cells (cR []) 0 0 s.nx)) s.nx s.h,nx:=s.nx.succ,gr:=av (some [s.nx]) s.nx s.gr,ty:=s.ty} b (L++[(.sl s.nx 0 0 sz,sz,[])]) K:=by
 have d:=Ky.ba s.nx;refine h.join (di.alloc _ _) (F:=λk=>k=s.nx) ⟨Sz.nil,λk c=>by subst c;simp only;omega,.inr ⟨s.nx,cR [],0,s.nx,[],rfl,?_,by simp,λj p=>by simp at p,?_,by simp,by simp,rfl⟩⟩ (λk c=>by subst c;exact aY _)
 .simp only;rw[af,ar rfl]
 simp only;rw[af,ar rfl]
def aI.cY(h:aI s aw L K)(c:ak):aI {h:=av (some (.cells (cR c) 0 c.length s.nx)) s.nx s.h,nx:=s.nx.succ,gr:=av (some [s.nx]) s.nx s.gr,ty:=s.ty} aw L ((s.nx,c)::K):=by
 have r:=Ky.ba s.nx;have k:aw s.nx=none:=by cases t:aw s.nx with|none=>rfl|some i=>have:=h.mem.bd _ _ t;omega
 have q:=h.frame (di.alloc (s:=s) (.cells (cR c) 0 c.length s.nx) [s.nx]);refine⟨q.mem,λa o d j=>?_,λa b o d u j p=>?_⟩
 .cases a with
  |zero=>cases j;exact⟨⟨by simp only;rw[af,ar rfl],by simp only;rw[af,ar rfl],by simp only;omega⟩,k⟩
  |succ a=>exact q.bz a o d j
 have key:∀(a:Nat) (d:ak),K[a]?=some (s.nx,d)->False:=λa d j=>by have:=(h.bz a _ _ j).1.2.2;omega
 cases a with
 |zero=>
  cases b with
  |zero=>rfl
  |succ b=>cases j;exact(key b _ p).elim
 |succ a=>
  cases b with
  |zero=>cases p;exact(key a _ j).elim
  |succ b=>rw[h.nd a b o d u j p]
def aI.wC(h:aI s aw L K)(i:Nat){v:HV}{sz:Nat}{au:aR}(c:L[i]?=some (v,sz,au)){new:aR}(j:Sz sz new){bx:Nat}(k:au.length+new.length<=bx):
  ∃d s' b,mW sz bx none (some v) (some (.psl new)) s=.v d s'/\cellsOf d=some [d]/\aI s' b (L.set i (d,sz,au++new)) K:=by
 by_cases h0:new=[]
 .subst h0;obtain⟨q,p⟩:=aV.1 c;refine⟨v,s,aw,qn (h.mem.own i _ _ _ c).iS,(h.mem.own i _ _ _ c).one,?_⟩;rw[Co,<-p,y8];exact h
 exact h.append i c j h0 k
end
def ag6{x:Ax}(H:my x){e:En}{s:HS}{o:Out}{o2 o3:Ky}{vF:HV}{aw:bc}
  (b:bO e [(1,.ax x.c),(2,.ptr o2 0),(3,.ptr o3 0),(4,iV 0)])
  (q:aI s aw [(vF,1,x.fi.map bC),(.ai,1,[])] [(o3,[.ai,vF]),(o2,[.ai,.ai])])(M:bK R (.loop U.Dx) e s=o):
  ∃(e':En) (s':HS) (aw:bc) (vN:HV) (az:cS),o=.code (.exit 0) e' s'/\bO e' [(2,.ptr o2 0),(3,.ptr o3 0)]/\
   aI s' aw ((vF,1,x.fi.map bC)::(vN,1,az.map fY)::az) [(o3,[vN,vF]),(o2,[.ai,.ai])]/\az.map (·.2)=x.nx.map (λes=>(5,es.map Ei.c)):=by
 have Y:=H.n;refine aX M x.nx.length
  (λi e s=>∃(aw:bc) (vN:HV) (az:cS),bO e [(1,.ax x.c),(2,.ptr o2 0),(3,.ptr o3 0),(4,iV i)]/\
   aI s aw ((vF,1,x.fi.map bC)::(vN,1,az.map fY)::az) [(o3,[vN,vF]),(o2,[.ai,.ai])]/\az.map (·.2)=(x.nx.take i).map (λes=>(5,es.map Ei.c))/\az.length=i)
  (λo=>∃(e':En) (s':HS) (aw:bc) (vN:HV) (az:cS),o=.code (.exit 0) e' s'/\bO e' [(2,.ptr o2 0),(3,.ptr o3 0)]/\
   aI s' aw ((vF,1,x.fi.map bC)::(vN,1,az.map fY)::az) [(o3,[vN,vF]),(o2,[.ai,.ai])]/\az.map (·.2)=x.nx.map (λes=>(5,es.map Ei.c)))
  0 (by omega) ⟨aw,.ai,[],b,q,rfl,rfl⟩
  (λi e s r D ⟨aw,vN,az,b,q,C,u⟩ v=>by
   have E:(i:Int)<x.nx.length:=by omega
   have N:=bj (n:=400) (show i<400 by omega) (by omega);have O:=H.row (aO D);obtain⟨I,d⟩:=q.KZ 5;have j:=(d.bz 0 o3 _ rfl).1.1;simp only[bB]at d;generalize F:HS.mk _ _ _ _=Z at d j;have P:((vF,1,x.fi.map bC)::(vN,1,az.map fY)::(az++[(HV.sl s.nx 0 0 5,5,([]:aR))]))[az.length+2]?=some (HV.sl s.nx 0 0 5,5,[]):=by simp
   obtain⟨t,s2,J,Q,T,k⟩:=d.wC (az.length+2) P (new:=x.nx[i].map Ei.c) (Sz.map (f:=Ei.c) (λx=>rfl) _) (bx:=3518437208883) (by simp;omega);rw[show((vF,1,x.fi.map bC)::(vN,1,az.map fY)::(az++[(HV.sl s.nx 0 0 5,5,([]:aR))])).set (az.length+2) (t,5,[]++x.nx[i].map Ei.c)=(vF,1,x.fi.map bC)::(vN,1,az.map fY)::(az++[(t,5,x.nx[i].map Ei.c)]) by simp]at k;have w:=(k.bz 0 o3 _ rfl).1.1;obtain⟨G,s3,z,V,W,A⟩:=k.append 1 rfl (new:=[[t]]) (Sz.cons rfl Sz.nil) (by simp) (bx:=5864062014805) (by simp;omega);simp only[cb,aS]at A;obtain⟨s4,X,p⟩:=A.y6 (a:=0) rfl 0 (by simp) W;simp only[aS]at p;rw[show az.map fY++[[t]]=(az++[(t,5,x.nx[i].map Ei.c)]).map fY by simp]at p;have B:=(q.bz 0 o3 _ rfl).1.1;simp only[aA,aE,bw,Nat.reduceAdd]at B j w;simp only[ab,ae]at b;simp[U.Dx,b,D,E,F,B,j,w,Q,T,V,X,N]at v;subst v;refine .inl ⟨_,_,rfl,z,G,az++[(t,5,x.nx[i].map Ei.c)],by simp[b],p,?_,by simp[u]⟩;rw[eW D,eD,eD,C];rfl)
  (λe s r ⟨aw,vN,az,b,q,C,u⟩ v=>by
   simp only[ab,ae]at b;simp[U.Dx,b]at v;subst v;rw[j0]at C;exact⟨by simp,_,_,aw,vN,az,rfl,by simp[b],q,C⟩)
def w69(x:Ax)(D:my x)(s:HS):R (.call 69 [.agg x.c] s)=.val (.agg x.c) s:=by
 refine q69 ?_;have hf:=D.f;have h0:aI s0 (λ_=>none) [] []:=⟨dT.start (by simp),by simp,by simp⟩;obtain⟨aw,j⟩:=(h0.cY [.ai,.ai]).KZ 1;have j:aI (HS.mk (.nd (some (.cells (cR [.ai,.ai]) 0 2 .e)) (.nd (some (.cells (cR []) 0 0 (.z .e))) .lf .lf) .lf) (.o .e) (.nd (some [.e]) (.nd (some [.z .e]) .lf .lf) .lf) .lf) aw [(.sl (.z .e) 0 0 1,1,[])] [(.e,[.ai,.ai])]:=j;obtain⟨q,X,J,Y,Z,t⟩:=j.wC 0 rfl (new:=x.fi.map bC) (Sz.map (f:=bC) (λx=>rfl) _) (bx:=140737488355328) (by simp;omega);simp only[aS,bD]at t;have r:=t.cY [.ai,.ai];have F:=(r.bz 0 _ _ rfl).1.1;generalize u:HS.mk _ _ _ _=S2 at r F;obtain⟨s3,M,w⟩:=r.put (a:=0) rfl (v:=.agg [.ai,q]) (new:=[.ai,q]) (by simp) rfl;simp only[aS]at w;simp only[aA,aE,bw,Nat.reduceAdd]at M u;simp[U.b69,s0,Y,Z,u,M];generalize N:bK R (.loop U.Dx) _ _=o;obtain⟨e1,s4,O,E,az,rfl,A,d,G⟩:=ag6 (o2:=.e) (o3:=X.nx) (vF:=q) D (by simp) (w.push 1) N;clear N;have cN:cellsOf E=some [E]:=(d.mem.own 1 _ _ _ rfl).one;have cF:cellsOf q=some [q]:=(d.mem.own 0 _ _ _ rfl).one;have P:=(d.bz 0 _ _ rfl).1.1;obtain⟨s5,Q,b⟩:=d.put (a:=1) rfl (v:=.agg [E,q]) (new:=[E,q]) (by simp) rfl;simp only[cb,aS]at b;have T:=(b.bz 1 _ _ rfl).1.1;simp only[aA,aE,bw,Nat.reduceAdd]at Q T P;simp only[ab,ae]at A;simp[A,P,aj,Q,T];refine aC (.agg (.cons ?_ (.cons ?_ .nil)))
 .have H:=((b.mem.own 1 _ _ _ rfl).YE (f:=λe:tR=>e.1) (g:=λe:tR=>HV.psl e.2.2) (n:=14) (λx D=>?_))
  .have:az.map (λx=>[HV.psl x.2.2])=x.nx.map zy:=by
    have h:=ct (List.map λ(p:Nat×List ak)=>[HV.psl p.2]) G;have B:zy=λx:fH=>[HV.psl (List.map Ei.c x)]:=rfl
    rw[B];simpa[tS]using h
   rw[<-this];exact H
  obtain⟨k,V,rfl⟩:=eH.1 D;have j:=ct (λl=>l[k]?) G;simp[V]at j;have hlen:az.length=x.nx.length:=by have:=ct List.length G;simpa using this
  have I:k<x.nx.length:=by omega
  have W:az[k].2=(5,(x.nx[k]).map Ei.c):=by simp[I]at j;exact j.symm▸rfl
  have C:=b.mem.own (k+2) az[k].1 5 ((x.nx[k]).map Ei.c) (by simp[V];rw[<-W]);rw[W];exact C.vw (by simp)
 exact(b.mem.own 0 _ _ _ rfl).vw (by simp)
structure Sx where
 a:Ar
 x:Ax
 deriving DecidableEq,Inhabited
@[simp]def Sx.c(s:Sx):ak:=[.psl (s.a.ids.map Ty.c),.bool s.a.root.cell,.int .i64 s.a.root.n,.bool s.a.jumps,.psl (s.x.nx.map zy),.psl (s.x.fi.map bC)]
def w32(t:Sx)(j:t.a.ids.length<=9)(k:∀y∈t.a.ids,y.ps.length<=6)(p:my t.x)(s:HS):R (.call 32 [.agg t.c] s)=.val (.agg t.c) s:=by refine q32 ?_;have b:=w18 t.a j k;have d:=w69 t.x p;simp only[Ar.c,Ax.c]at b d;simp[U.b32,b,d,s0,ah,an,aj,aa]
open Classical in
def w66(t:Sx)(ok:dj t.a)(r:my t.x)(v:HV)(b:Bool)(k:aB t.a=0->F6 t.x->∀s,R (.call 96 [.agg t.a.c,.agg t.x.c] s)=.val (.bN [v,.bool b]) s)(s:HS):
  R (.call 66 [.agg t.c] s)=.val (iV (if aB t.a=0 then if F6 t.x then if b then 0 else 13 else 4 else aB t.a)) s:=by
 refine q66 ?_;have d:=VH t.a ok;have j:=w76 t.x r;simp only[Ar.c,Ax.c]at d j k;by_cases p:aB t.a=0
 .rw[p]at d;by_cases q:F6 t.x
  .have k:=k p q;simp only[q,bf]at j;cases b<;>simp[U.b66,d,j,k,p,q,aa]
  simp only[q,bp]at j;simp[U.b66,d,j,p,q,aa]
 simp[U.b66,d,p,aa]
def pW(a b:Int):Int:=if a<b then-1 else if b<a then 1 else 0
def y9{a b:Int}:pW a b=0↔a=b:=by
 unfold pW
 split
 .omega
 split<;>omega
def qv(a:Int):pW a a=0:=y9.2 rfl
def Cp{a b:Int}:pW a b<0↔a<b:=by
 unfold pW
 split
 .omega
 split<;>omega
def ag7(a:Int)(s:HS):R (.call 224 [iV a] s)=.val (.bool false) s:=by refine af8 ?_;simp[U.XL,aa]
def ag8(a:Int)(s:HS):R (.call 225 [.int .u8 a] s)=.val (.bool false) s:=by refine af9 ?_;simp[U.XM,aa]
def ag9(a b:Int)(s:HS):R (.call 213 [iV a,iV b] s)=.val (iV (pW a b)) s:=by
 refine af0 ?_;have h:=ag7;simp only[iV]at h;unfold pW;by_cases c:a<b
 .simp[U.SM,h,c,aa]
 by_cases d:b<a<;>simp[U.SM,h,c,d,aa]
def aha(a b:Int)(s:HS):R (.call 214 [.int .u8 a,.int .u8 b] s)=.val (iV (pW a b)) s:=by
 refine af1 ?_;have h:=ag8;unfold pW;by_cases c:a<b
 .simp[U.SN,h,c,aa]
 by_cases d:b<a<;>simp[U.SN,h,c,d,aa]
def IT:aQ->Int
 |[]=>0
 |a::r=>if a=0 then IT r else a
def K0:∀{l:aQ} {i:Nat} (b:i<l.length),(∀j,(h:j<i)->l[j]'(by omega)=0)->l[i]≠0->IT l=l[i]
 |[],i,b,_,_=>by simp at b
 |a::r,0,_,_,h=>by simp at h;simp[IT,h]
 |a::r,i+1,b,c,d=>by have h0:=c 0 (by omega);simp only[yL]at h0;have k:=K0 (l:=r) (i:=i) (by simpa using b) (λj h=>by have:=c (j+1) (by omega);simpa using this) (by simpa using d);simp[IT,h0,k]
def K3{l:aQ}(h:∀i,(b:i<l.length)->l[i]=0):IT l=0:=by induction l with|nil=>rfl|cons a r c=>have h0:=h 0 (by simp);simp only[yL]at h0;rw[IT,ar h0];exact c λi b=>by have:=h (i+1) (by simpa using b);simpa using this
def ahb(l:aQ)(C:l.length<=400)(s:HS):R (.call 212 [.psl (l.map iC)] s)=.val (iV (IT l)) s:=by
 refine afZ ?_;simp[U.XH];generalize v:bK R (.loop U.ye) _ _=o;have w:=jh v l.length (λi=>∀h:i<l.length,l[i]=0) (λi=>[(3,iV 0),(6,.psl (l.map iC)),(7,iV l.length),(8,iV i)]) [(3,iV 0)] 0 (λi o=>∃h:i<l.length,∃q,o=.code .ret q s0/\look q 2=some (iV l[i])) (by simp)
  (λi e r b c d=>by
   have k:(i:Int)<l.length:=by omega
   simp only[ab,ae]at c;by_cases t:l[i]=0
   .simp[U.ye,c,b,k,t,bj (n:=400) (show i<400 by omega) (by omega)]at d;subst d;exact .inl ⟨λ_=>t,_,rfl,by simp[c]⟩
   simp[U.ye,c,b,k,t]at d;subst d;exact .inr ⟨λh=>t (h b),by simp,b,_,rfl,by simp⟩)
  (λe r c d=>by
   simp only[ab,ae]at c;simp[U.ye,c]at d;subst d;exact⟨_,rfl,by simp[c]⟩)
 clear v;rcases w with⟨i,b,z,A,_,q,rfl,u⟩|⟨p,q,rfl,u⟩
 .rw[K0 b (λj B=>z j B (by omega)) (λh=>A λ_=>h)];simp[u,aa]
 rw[K3 (λi b=>p i b b)];simp only[ab,ae]at u;simp[u,aa]
def ahc(a b:Mv)(s:HS):R (.call 186 [.agg a.c,.agg b.c] s)=.val (.bool (fz a b)) s:=by
 refine afw ?_;have d:=ag9;have j:=aha;have k:=ahb [pW a.id b.id,pW a.arg b.arg,pW a.kind b.kind,pW a.n b.n] (by simp);simp only[iV,cL,qX,iC]at d j k;have q:decide (IT [pW a.id b.id,pW a.arg b.arg,pW a.kind b.kind,pW a.n b.n]<0)=fz a b:=by
  unfold fz;by_cases p:a.id=b.id
  .by_cases r:a.arg=b.arg
   .by_cases t:a.kind=b.kind
    .by_cases u:a.n=b.n
     .simp[IT,p,r,t,u,qv]
     have:=mt y9.1 u;simp[IT,p,r,t,qv,this,Cp]
    have:=mt y9.1 t;simp[IT,p,r,t,qv,this,Cp]
   have:=mt y9.1 r;simp[IT,p,r,qv,this,Cp]
  have:=mt y9.1 p;simp[IT,p,this,Cp]
 simp[U.XA,d,j,k,q,aa]
def rH(l:fH):Prop:=∀k,(h:k+1<l.length)->fz l[k].m l[k+1].m=true
open Classical in
def ahd(l:fH)(M:l.length<=6000)(s:HS):R (.call 161 [.psl (l.map Ei.c)] s)=.val (.bool (decide (rH l))) s:=by
 refine afa ?_;have z:bR .i64 ((l.length:Int)-1)=(l.length:Int)-1:=bM (by omega) (by omega);simp[U.Xq,z];generalize C:bK R (.loop U.xR) _ _=o;have E:=jh C (l.length-1) (λi=>∀h:i+1<l.length,fz l[i].m l[i+1].m=true) (λi=>[(0,.psl (l.map Ei.c)),(6,iV ((l.length:Int)-1)),(7,iV i)]) [] 0 (λ_ o=>∃v,o=.code .ret v s0/\look v 2=some (.bool false)) (by simp)
  (λi e r F d p=>by
   have h0:i<l.length:=by omega
   have G:(i:Int)<l.length:=by omega
   obtain⟨j,A⟩:∃j,j=i+1:=⟨_,rfl⟩;have q:j<l.length:=by omega
   have H:(j:Int)<l.length:=by omega
   have w:(i:Int)<(l.length:Int)-1:=by omega
   have D:bR .i64 ((i:Int)+1)=(j:Int):=by rw[A];exact bj (n:=6000) (show i<6000 by omega) (by omega)
   have b:=ahc l[i].m l[j].m;simp only[Mv.c]at b;simp only[ab,ae]at d;cases t:fz l[i].m l[j].m
   .rw[t]at b;simp[U.xR,d,h0,q,w,D,b]at p;subst p;subst A;exact .inr ⟨λh=>(by rw[h q]at t;cases t),by simp,_,rfl,by simp⟩
   rw[t]at b;simp[U.xR,d,h0,q,w,D,b]at p;subst p;subst A;exact .inl ⟨λ_=>t,_,rfl,by simp[d]⟩)
  (λe r d p=>by
   simp only[ab,ae]at d;have w:¬((l.length-1:Nat):Int)<(l.length:Int)-1:=by omega
   simp[U.xR,d,w]at p;subst p;exact⟨_,rfl,by simp⟩)
 clear C;rcases E with⟨i,F,_,B,v,rfl,I⟩|⟨u,v,rfl,_⟩
 .have h0:¬rH l:=λh=>B (λq=>h i q)
  simp[I,aa,h0]
 have h0:rH l:=λk J=>u k (by omega) J
 simp[aa,h0]
def nm(n:Nat)(e:Ei):Bool:=decide (e.to<0)||decide ((n:Int)<=e.to)
def ahe(x:Ax)(e:Ei)(s:HS):R (.call 188 [.agg e.c,.ax x.c] s)=.val (.bool (nm x.nx.length e)) s:=by
 refine afy ?_;unfold nm;by_cases b:e.to<0
 .simp[U.Sj,b,aa]
 by_cases d:(x.nx.length:Int)<=e.to<;>simp[U.Sj,b,d,aa]
def z7{α:Type}(p:α->Bool)(l:List α):Int:=if l.any p then(l.findIdx p:Int)else-1
def wk{α:Type}{p:α->Bool}{l:List α}{i:Nat}(b:i<l.length)(d:∀j,(h:j<i)->p (l[j]'(by omega))=false)(c:p l[i]=true):z7 p l=i:=by unfold z7;rw[ar (mO.2 ⟨_,bX b,c⟩),rG b d c]
def nq{α:Type}{p:α->Bool}{l:List α}(h:∀i,(b:i<l.length)->p l[i]=false):z7 p l= -1:=by unfold z7;rw[aq];simp only[Cq,rA];intro a c;obtain⟨i,b,rfl⟩:=eH.1 c;simp[h i b]
def za{α:Type}(p:α->Bool)(l:List α):decide (0<=z7 p l)=l.any p:=by unfold z7;cases l.any p<;>simp
def ahf(x:Ax)(l:fH)(F:l.length<=6000)(s:HS):R (.call 215 [.psl (l.map Ei.c),.fn 188 [] [.ax x.c]] s)=.val (iV (z7 (nm x.nx.length) l)) s:=by
 refine YP ?_ rfl (by simp[eh]);simp[U.SO];generalize w:bK R (.loop U.n6) _ _=o;have z:=jh w l.length (λi=>∀h:i<l.length,nm x.nx.length l[i]=false) (λi=>[(0,.psl (l.map Ei.c)),(1,.fn 188 [] [.ax x.c]),(7,iV l.length),(8,iV i)]) [] 0 (λi o=>∃v,o=.code .ret v s0/\look v 4=some (iV i)) (by simp)
  (λi e r d k p=>by
   have q:(i:Int)<l.length:=by omega
   have b:=ahe x l[i];simp only[Ei.c,Ax.c]at b;simp only[ab,ae]at k;cases t:nm x.nx.length l[i]
   .rw[t]at b;simp[U.n6,k,d,q,b,bj (n:=6000) (show i<6000 by omega) (by omega)]at p;subst p;exact .inl ⟨λ_=>t,_,rfl,by simp[k]⟩
   rw[t]at b;simp[U.n6,k,d,q,b]at p;subst p;exact .inr ⟨λh=>(by rw[h d]at t;cases t),by simp,_,rfl,by simp⟩)
  (λe r k p=>by
   simp only[ab,ae]at k;simp[U.n6,k]at p;subst p;exact⟨_,rfl,by simp⟩)
 clear w;rcases z with⟨i,d,A,B,v,rfl,C⟩|⟨u,v,rfl,_⟩
 .have D:nm x.nx.length l[i]=true:=by
   cases h:nm x.nx.length l[i]
   .exact absurd (λ_=>h) B
   rfl
  rw[wk d (λj E=>A j E (by omega)) D];simp[C,aa]
 rw[nq (λi d=>u i d d)];simp[aa]
def ahg(x:Ax)(l:fH)(b:l.length<=6000)(s:HS):R (.call 190 [.psl (l.map Ei.c),.fn 188 [] [.ax x.c]] s)=.val (.bool (l.any (nm x.nx.length))) s:=by refine afA ?_ rfl (by simp[eh]);have h:=ahf x l b;simp only[Ax.c,iV]at h;rw[<-za];simp[U.XD,h,aa]
def ahh(x:Ax)(l:fH)(b:l.length<=6000)(s:HS):R (.call 189 [.psl (l.map Ei.c),.ax [.fn 188 [] [.ax x.c]]] s)=.val (.bool (l.any (nm x.nx.length))) s:=by refine afz ?_ rfl (by simp[eh]);have h:=ahg x l b;simp only[Ax.c]at h;simp[U.XC,h,aa]
def ahi(x:Ax)(z:my x)(s:HS):R (.call 191 [.psl (x.nx.map zy),.fn 189 [] [.ax [.fn 188 [] [.ax x.c]]]] s)=.val (iV (z7 (λl:fH=>l.any (nm x.nx.length)) x.nx)) s:=by
 refine YM ?_ rfl (by simp[eh]);have H:=z.n;simp[U.Sk];generalize A:bK R (.loop U.n5) _ _=o;have B:=jh A x.nx.length (λi=>∀h:i<x.nx.length,x.nx[i].any (nm x.nx.length)=false) (λi=>[(0,.psl (x.nx.map zy)),(1,.fn 189 [] [.ax [.fn 188 [] [.ax x.c]]]),(7,iV x.nx.length),(8,iV i)]) [] 0 (λi o=>∃w,o=.code .ret w s0/\look w 4=some (iV i)) (by simp)
  (λi e r d k q=>by
   have t:(i:Int)<x.nx.length:=by omega
   have b:=ahh x x.nx[i] (z.row (aO d));simp only[Ax.c]at b;simp only[ab,ae]at k;cases u:x.nx[i].any (nm x.nx.length)
   .rw[u]at b;simp[U.n5,k,d,t,b,bj (n:=6000) (show i<6000 by omega) (by omega)]at q;subst q;exact .inl ⟨λ_=>u,_,rfl,by simp[k]⟩
   rw[u]at b;simp[U.n5,k,d,t,b]at q;subst q;exact .inr ⟨λh=>(by rw[h d]at u;cases u),by simp,_,rfl,by simp⟩)
  (λe r k q=>by
   simp only[ab,ae]at k;simp[U.n5,k]at q;subst q;exact⟨_,rfl,by simp⟩)
 clear A;rcases B with⟨i,d,C,D,w,rfl,E⟩|⟨v,w,rfl,_⟩
 .have F:x.nx[i].any (nm x.nx.length)=true:=by
   cases h:x.nx[i].any (nm x.nx.length)
   .exact absurd (λ_=>h) D
   rfl
  rw[wk (p:=λl:fH=>l.any (nm x.nx.length)) d (λj G=>C j G (by omega)) F];simp[E,aa]
 rw[nq (p:=λl:fH=>l.any (nm x.nx.length)) (λi d=>v i d d)];simp[aa]
def ahj(x:Ax)(b:my x)(s:HS):R (.call 164 [.psl (x.nx.map zy),.fn 189 [] [.ax [.fn 188 [] [.ax x.c]]]] s)=.val (.bool (x.nx.any λl=>l.any (nm x.nx.length))) s:=by refine YL ?_ rfl (by simp[eh]);have h:=ahi x b;simp only[Ax.c,iV]at h;rw[<-za];simp[U.RH,h,aa]
def K4(x:Ax):mz x=(decide (0<x.nx.length)&&decide (x.nx.length=x.fi.length)&& !(x.nx.any λl=>l.any (nm x.nx.length))):=by
 unfold mz;rw[qI];simp only[bL,aL,uB,rA,nm,mJ,Cq,and_assoc];constructor
 .rintro⟨b,c,d⟩
  refine⟨b,c,λl j=>?_⟩;intro e k;have:=d l j e k;omega
 rintro⟨b,c,d⟩
 refine⟨b,c,λl j e k=>?_⟩;have:=d l j e k;omega
def ahk(x:Ax)(u:my x)(s:HS):R (.call 163 [.agg x.c] s)=.val (.bool (mz x)) s:=by
 refine afc ?_;have b:=ahj x u;rw[K4];have v:∀(S:HS) (o k:Ky),ao S.h o=some (.cells (cR [.fn 188 [] [.ptr k 0]]) 0 1 o)->ao S.h k=some (.cells (cR x.c) 0 2 k)->R (.call 164 [.psl (x.nx.map zy),.fn 189 [] [.ptr o 0]] S)=.val (.bool (x.nx.any λl=>l.any (nm x.nx.length))) S:=λS o k w p=>by refine afd (by simp[cC,cr]) (.cons (.data (by simp)) (.cons (Vw.fn .nil (.cons (Vw.ptr w rfl (.cons (Vw.fn .nil (.cons (Vw.ptr p rfl (.data (by simp[eh]))) .nil)) .nil)) .nil)) .nil)) (by simp[eh]) rfl b
 have d:=λS=>v S (.z .e) .e
 simp only[Ax.c]at d;by_cases r:0<x.nx.length
 .have q:0<(x.nx.length:Int):=by omega
  by_cases t:x.nx.length=x.fi.length
  .have j:(x.nx.length:Int)=x.fi.length:=by omega
   have A:0<x.fi.length:=by omega
   have B:0<(x.fi.length:Int):=by omega
   simp-implicitDefEqProofs[U.MS,t,A,d,s0,ah,an,aa]
  have j:¬(x.nx.length:Int)=x.fi.length:=by omega
  simp[U.MS,r,t,j,s0,ah,an,aa]
 have q:¬0<(x.nx.length:Int):=by omega
 simp[U.MS,r,s0,ah,an,aa]
def ahl(x:Ax)(p:my x)(s:HS):R (.call 187 [.agg x.c] s)=.val (iV (x.nx.map List.length).sum) s:=by
 refine afx ?_;have w:=p.n;have q:∀r∈x.nx,r.length<=70368744177664:=λr d=>by obtain⟨i,j⟩:=uK.1 d;have:=p.row j;omega
 simp[U.XB];generalize t:bK R (.loop U.B4) _ _=o;have u:=jh t x.nx.length (λ_=>True) (λi=>[(6,.psl (x.nx.map zy)),(2,iV (pS x.nx i)),(7,iV x.nx.length),(8,iV i)]) [(2,iV (pS x.nx x.nx.length))] 0 (λ_ _=>True) (by simp[pS])
  (λi e r j b d=>by
   have k:(i:Int)<x.nx.length:=by omega
   have:=Ce q i (by omega);have:=q _ (bX j);have v:bR .i64 ((pS x.nx i:Int)+(x.nx[i].length:Int))=(pS x.nx (i+1):Nat):=by rw[tU j,bM (by omega) (by omega)];simp
   simp only[ab,ae]at b;simp[U.B4,b,j,k,v,bj (n:=400) (show i<400 by omega) (by omega)]at d;subst d;exact .inl ⟨trivial,_,rfl,by simp[b]⟩)
  (λe r b d=>by
   simp only[ab,ae]at b;simp[U.B4,b]at d;subst d;exact⟨_,rfl,by simp[b]⟩)
 clear t;rcases u with⟨i,_,_,h,_⟩|⟨_,z,rfl,b⟩
 .exact absurd trivial h
 rw[DN]at b;simp only[ab,ae]at b;simp[b,aa]
def ahm(x:Ax)(d:my x)(s:HS):R (.call 162 [.agg x.c] s)=.val (.bool false) s:=by
 refine afb ?_;have b:=ahl x d;have p:(x.nx.length:Int)<=400:=by have:=d.n;omega
 have q:(x.fi.length:Int)<=400:=by have:=d.f;omega
 have r:(((x.nx.map List.length).sum:Nat):Int)<=6000:=by have:=d.e;omega
 have j:¬(6000:Int)<((x.nx.map List.length).sum:Nat):=by omega
 simp only[Ax.c]at b;have k:¬(400:Int)<max (x.nx.length:Int) x.fi.length:=by omega
 simp[U.Xr,k,b,j,aa]
def T3(a b:Ei):qB ⟨true,[0,0,0,0,0]⟩ (.agg a.c) (.agg b.c)=some (decide (a=b)):=by rw[so _ _ _ rfl rfl];simp only[Ei.c];rw[dQ _ _ _ _ _ _ (fm ..) (dQ _ _ _ _ _ _ (fm ..) (dQ _ _ _ _ _ _ (fm ..) (dQ _ _ _ _ _ _ (fm ..) (dQ _ _ _ _ _ _ (fm ..) sn))))];obtain⟨⟨d,j,k,p⟩,q⟩:=a;obtain⟨⟨r,t,u,v⟩,w⟩:=b;simp[FE]
def ahn(l l':ck)(F:l.length<=6000)(s:HS):R (.call 192 [.psl (l.map bC),.psl (l'.map bC)] s)=.val (.bool (decide (l=l'))) s:=by
 refine afB ?_;by_cases k:l.length=l'.length
 case neg=>
  have u:¬(l.length:Int)=l'.length:=by omega
  have h0:¬l=l':=λh=>k (by rw[h])
  rw[cu h0];simp[U.Sl,u,aa]
 simp[U.Sl,k];generalize w:bK R (.loop U.xV) _ _=o;have B:=jh w l.length (λi=>∀h:i<l.length,l[i]=l'[i]'(by omega)) (λi=>[(0,.psl (l.map bC)),(1,.psl (l'.map bC)),(12,iV l'.length),(13,iV i)]) [] 0 (λ_ o=>∃p,o=.code .ret p s0/\look p 4=some (.bool false)) (by simp)
  (λi e r q b c=>by
   have C:(i:Int)<l.length:=by omega
   have z:i<l'.length:=by omega
   have d:(i:Int)<l'.length:=by omega
   have D:=bj (n:=6000) (show i<6000 by omega) (by omega);simp only[ab,ae]at b;by_cases t:l[i]=l'[i]
   .simp[U.xV,b,q,z,d,t,D]at c;subst c;exact .inl ⟨λ_=>t,_,rfl,by simp[b]⟩
   simp[U.xV,b,q,z,d,t]at c;subst c;exact .inr ⟨λh=>t (h q),by simp,_,rfl,by simp⟩)
  (λe r b c=>by
   simp only[ab,ae]at b;simp[U.xV,b,k]at c;subst c;exact⟨_,rfl,by simp⟩)
 clear w;rcases B with⟨i,q,_,v,p,rfl,E⟩|⟨j,p,rfl,_⟩
 .have h0:¬l=l':=λh=>v (λ_=>by subst h;rfl)
  simp[E,aa,h0]
 have h0:l=l':=qM k λi A G=>j i A A
 simp[aa,h0]
def aho(l l':fH)(H:l.length<=6000)(s:HS):R (.call 194 [.psl (l.map Ei.c),.psl (l'.map Ei.c)] s)=.val (.bool (decide (l=l'))) s:=by
 refine afD ?_;by_cases q:l.length=l'.length
 case neg=>
  have w:¬(l.length:Int)=l'.length:=by omega
  have h0:¬l=l':=λh=>q (by rw[h])
  rw[cu h0];simp[U.So,w,aa]
 simp[U.So,q];generalize A:bK R (.loop U.xX) _ _=o;have D:=jh A l.length (λi=>∀h:i<l.length,l[i]=l'[i]'(by omega)) (λi=>[(0,.psl (l.map Ei.c)),(1,.psl (l'.map Ei.c)),(12,iV l'.length),(13,iV i)]) [] 0 (λ_ o=>∃t,o=.code .ret t s0/\look t 4=some (.bool false)) (by simp)
  (λi e r u b d=>by
   have E:(i:Int)<l.length:=by omega
   have B:i<l'.length:=by omega
   have j:(i:Int)<l'.length:=by omega
   have F:=bj (n:=6000) (show i<6000 by omega) (by omega);have k:=T3 l[i] l'[i];simp only[Ei.c]at k;simp only[ab,ae]at b;by_cases v:l[i]=l'[i]
   .rw[cV v]at k;simp[U.xX,b,u,B,j,k,F]at d;subst d;exact .inl ⟨λ_=>v,_,rfl,by simp[b]⟩
   rw[cu v]at k;simp[U.xX,b,u,B,j,k]at d;subst d;exact .inr ⟨λh=>v (h u),by simp,_,rfl,by simp⟩)
  (λe r b d=>by
   simp only[ab,ae]at b;simp[U.xX,b,q]at d;subst d;exact⟨_,rfl,by simp⟩)
 clear A;rcases D with⟨i,u,_,z,t,rfl,G⟩|⟨p,t,rfl,_⟩
 .have h0:¬l=l':=λh=>z (λ_=>by subst h;rfl)
  simp[G,aa,h0]
 have h0:l=l':=qM q λi C I=>p i C C
 simp[aa,h0]
def ahp(l l':List fH)(H:l.length<=6000)(C:∀r∈l,r.length<=6000)(s:HS):R (.call 193 [.psl (l.map zy),.psl (l'.map zy),.fn 194 [] []] s)=.val (.bool (decide (l=l'))) s:=by
 refine afC ?_ rfl (by simp[eh]);by_cases p:l.length=l'.length
 case neg=>
  have v:¬(l.length:Int)=l'.length:=by omega
  have h0:¬l=l':=λh=>p (by rw[h])
  rw[cu h0];simp[U.Sm,v,aa]
 simp[U.Sm,p];generalize z:bK R (.loop U.xW) _ _=o;have D:=jh z l.length (λi=>∀h:i<l.length,l[i]=l'[i]'(by omega)) (λi=>[(1,.psl (l'.map zy)),(2,.fn 194 [] []),(15,.psl (l.map zy)),(16,iV l'.length),(17,iV i)]) [] 0 (λ_ o=>∃q,o=.code .ret q s0/\look q 6=some (.bool false)) (by simp)
  (λi e r d c b=>by
   have E:(i:Int)<l.length:=by omega
   have A:i<l'.length:=by omega
   have j:(i:Int)<l'.length:=by omega
   have F:=bj (n:=6000) (show i<6000 by omega) (by omega);have t:=aho l[i] l'[i] (C _ (bX d));simp only[ab,ae]at c;by_cases u:l[i]=l'[i]
   .rw[cV u]at t;simp[U.xW,c,d,A,j,t,F]at b;subst b;exact .inl ⟨λ_=>u,_,rfl,by simp[c]⟩
   rw[cu u]at t;simp[U.xW,c,d,A,j,t]at b;subst b;exact .inr ⟨λh=>u (h d),by simp,_,rfl,by simp⟩)
  (λe r c b=>by
   simp only[ab,ae]at c;simp[U.xW,c,p]at b;subst b;exact⟨_,rfl,by simp⟩)
 clear z;rcases D with⟨i,d,_,w,q,rfl,G⟩|⟨k,q,rfl,_⟩
 .have h0:¬l=l':=λh=>w (λ_=>by subst h;rfl)
  simp[G,aa,h0]
 have h0:l=l':=qM p λi B I=>k i B B
 simp[aa,h0]
def ahq(x y:Ax)(j:my x)(s:HS):R (.call 165 [.agg x.c,.agg y.c] s)=.val (.bool (decide (x=y))) s:=by
 refine afe ?_;have b:=ahn x.fi y.fi (by have:=j.f;omega);have d:=ahp x.nx y.nx (by have:=j.n;omega) (λr p=>by obtain⟨i,q⟩:=uK.1 p;exact j.row q);obtain⟨v,t⟩:=x;obtain⟨w,u⟩:=y;by_cases k:t=u
 .subst k;simp[U.RJ,b,d,aa]
 simp only[k,lb]at b;simp[U.RJ,b,k,aa]
def AZ{a b:Mv}:fz a b=true↔a.id<b.id∨(a.id=b.id/\(a.arg<b.arg∨(a.arg=b.arg/\(a.kind<b.kind∨(a.kind=b.kind/\a.n<b.n))))):=by
 unfold fz;by_cases c:a.id=b.id
 .by_cases d:a.arg=b.arg
  .by_cases j:a.kind=b.kind<;>simp[c,d,j]
  simp[c,d]
 simp[c]
def D1{a b c:Mv}(d:fz a b=true)(j:fz b c=true):fz a c=true:=by rw[AZ]at*;omega
def A0(a:Mv):fz a a=false:=by
 cases h:fz a a
 .rfl
 rw[AZ]at h;omega
def vC.lt{l:bA}(h:vC l)(i:Nat):∀j,(c:j<l.length)->(b:i<j)->fz l[i].m l[j].m=true
 |0,_,b=>by omega
 |j+1,c,b=>by
  have d:=h j c;by_cases k:i=j
  .subst k;exact d
  exact D1 (vC.lt h i j (by omega) (by omega)) d
def vC.uniq{l:bA}(h:vC l){e e':Eg}(k:e∈l)(c:e'∈l)(d:e.m=e'.m):e=e':=by
 obtain⟨i,p,rfl⟩:=eH.1 k;obtain⟨j,q,rfl⟩:=eH.1 c;rcases EH i j with b|b|b
 .have:=h.lt i j q b;rw[d,A0]at this;cases this
 .subst b;rfl
 have:=h.lt j i p b;rw[d,A0]at this;cases this
def A1:∀(l:aP) (m:Mv),(∀x∈l,fz x m=true)->kP l m=l++[m]
 |[],m,_=>rfl
 |a::r,m,h=>by rw[kP,ar (h a (by simp)),A1 r m (λx b=>h x (by simp[b]))];rfl
def Hd{l:bA}(h:vC l):∀k,k<=l.length->pV (l.take k)=(l.take k).map (·.m)
 |0,_=>by simp[pV]
 |k+1,p=>by
  have b:k<l.length:=by omega
  rw[eW b,sv,Hd h k (by omega),A1,eD]
  .rfl
  intro m c;obtain⟨e,d,rfl⟩:=dA.1 c;obtain⟨i,j,rfl⟩:=eH.1 d;rw[List.getElem_take];simp at j;exact h.lt i k b (by omega)
def He(aZ:ck)(m:Mv):∀(row:bA) (t:Int),(0<=t∨∃e∈row,hX aZ m e=true)->0<=row.foldl (λt e=>if hX aZ m e then(e.to:Int)else t) t
 |[],t,h=>by
  rcases h with h|⟨_,h,_⟩
  .exact h
  cases h
 |a::r,t,h=>by
  rw[nO];refine He aZ m r _ ?_;by_cases b:hX aZ m a=true
  .rw[ar b];exact .inl (by omega)
  rw[aq b];rcases h with h|⟨e,c,h⟩
  .exact .inl h
  rcases bm.1 c with rfl|c
  .exact(b h).elim
  exact .inr ⟨e,c,h⟩
def T4{row:bA}(h:vC row){aZ:ck}{e:Eg}(c:e∈row)(j:aZ.getD e.to false=true):Hb row aZ e.m=(e.to:Int):=by
 have h0:0<=Hb row aZ e.m:=He aZ e.m row (-1) (.inr ⟨e,c,by unfold hX;rw[j];simp⟩);rcases qu row aZ e.m with p|⟨q,b,d,k⟩
 .omega
 simp only[hX,aL,bL]at d;rw[k,h.uniq b c d.1]
def zb{n:Nat}{of:aQ}{aZ:ck}{row:bA}(d:∀e∈row,e.to<n):∀(ms:aP) (P:ay) (b:bA),∃t,(ms.foldl (zz of aZ row) (P,b)).1=P++t/\
  (∀j∈t,aZ.getD j false=true)/\(hY n of P->hY n of (ms.foldl (zz of aZ row) (P,b)).1)
 |[],P,b=>⟨[],by simp,by simp,id⟩
 |m::ms,P,b=>by
  rw[nO];have q:∃t c,zz of aZ row (P,b) m=(P++t,c)/\(∀j∈t,aZ.getD j false=true)/\(hY n of P->hY n of (P++t)):=by
   unfold zz;simp only;by_cases h0:Hb row aZ m<0
   .rw[ar h0];exact⟨[],b,by simp⟩
   rw[aq h0];rcases qu row aZ m with w|⟨e,z,p,r⟩
   .omega
   rw[r,jy];by_cases u:nB of P e.to=P.length
   .rw[ar u];simp only[hX,aL]at p;exact⟨[e.to],_,rfl,λj k=>by rw[dE.1 k];exact p.2,λv=>v.snoc (d e z) u⟩
   rw[aq u];exact⟨[],_,by simp;rfl,by simp⟩
  obtain⟨t,c,w,p,r⟩:=q;rw[w];obtain⟨A,B,C,D⟩:=zb d ms (P++t) c;refine⟨t++A,by rw[B];simp,λj k=>?_,λv=>D (r v)⟩;rcases cG.1 k with k|k
  .exact p j k
  exact C j k
def A2(c:Nat)(e:Eg):Nat:=if e.to=c then c+1 else c
def gm(c:Nat)(es:bA):Nat:=es.foldl A2 c
def ui(c:Nat)(es:bA)(e:Eg):gm c (es++[e])=A2 (gm c es) e:=by simp[gm]
structure F9(x:Fa):Prop where
 live:∀i,i<x.nx.length->Lv x i
 inj:∀B,Bis x (List.replicate x.nx.length true) B->∀a b,B a b->a=b
 bfs:∃c:Nat->Nat,c 0=1/\c x.nx.length=x.nx.length/\∀i,i<x.nx.length->i<c i/\c i<=x.nx.length/\c (i+1)=gm (c i) (x.nx.getD i [])/\∀k e,(x.nx.getD i [])[k]?=some e->e.to<=gm (c i) ((x.nx.getD i []).take k)
section
variable{x:Fa}{of:aQ}{aZ:ck}
def sC{i:Nat}(h:i<(cK x of aZ i).1.length):cK x of aZ (i+1)=((nk of aZ (x.nx.getD ((cK x of aZ i).1.getD i 0) []) (cK x of aZ i).1 (pV (x.nx.getD ((cK x of aZ i).1.getD i 0) []))).1,
  (cK x of aZ i).2.1++[(nk of aZ (x.nx.getD ((cK x of aZ i).1.getD i 0) []) (cK x of aZ i).1 (pV (x.nx.getD ((cK x of aZ i).1.getD i 0) []))).2],(cK x of aZ i).2.2++[x.fi.getD ((cK x of aZ i).1.getD i 0) false]):=by
 rw[cK];simp only[ar h]
def jJ(d:cJ x)(p:Nat):∀e∈x.nx.getD p [],e.to<x.nx.length:=by
 intro e b;by_cases c:p<x.nx.length
 .rw[getD_at c]at b;exact d.to _ (bX c) e b
 rw[dF,Av (by omega)]at b;simp at b
def Cr(c:cJ x)(h0:aZ.getD 0 false=true):∀i,hY x.nx.length of (cK x of aZ i).1/\(∀j∈(cK x of aZ i).1,aZ.getD j false=true)/\(cK x of aZ i).1[0]?=some 0/\(cK x of aZ i).2.1.length=(cK x of aZ i).2.2.length
 |0=>by refine⟨⟨by intro j b;simp[cK]at b;have:=c.pos;omega,by simp[cK]⟩,by intro j b;simp[cK]at b;subst b;exact h0,by simp[cK]⟩
 |i+1=>by
  obtain⟨d,k,p,q⟩:=Cr c h0 i;by_cases u:i<(cK x of aZ i).1.length
  .rw[sC u];obtain⟨t,r,v,w⟩:=zb (of:=of) (aZ:=aZ) (jJ c ((cK x of aZ i).1.getD i 0)) (pV (x.nx.getD ((cK x of aZ i).1.getD i 0) [])) (cK x of aZ i).1 [];refine⟨w d,?_,?_,by simp[q]⟩
   .show∀j∈(nk _ _ _ _ _).1,_;unfold nk;rw[r];intro j b;rcases cG.1 b with b|b
    .exact k j b
    exact v j b
   show(nk _ _ _ _ _).1[0]?=_;unfold nk;rw[r,ek (by omega)];exact p
  rw[sB (by omega) 1];exact⟨d,k,p,q⟩
def Hf(b:cJ x)(i:Nat):∀d,(cK x of aZ i).1<+:(cK x of aZ (i+d)).1/\(cK x of aZ i).2.1<+:(cK x of aZ (i+d)).2.1/\(cK x of aZ i).2.2<+:(cK x of aZ (i+d)).2.2
 |0=>⟨uh _,uh _,uh _⟩
 |d+1=>by
  obtain⟨c,j,k⟩:=Hf b i d;rw[show i+(d+1)=i+d+1 by omega];by_cases p:i+d<(cK x of aZ (i+d)).1.length
  .rw[sC p];obtain⟨t,q,_⟩:=zb (of:=of) (aZ:=aZ) (jJ b ((cK x of aZ (i+d)).1.getD (i+d) 0)) (pV (x.nx.getD ((cK x of aZ (i+d)).1.getD (i+d) 0) [])) (cK x of aZ (i+d)).1 [];refine⟨c.trans ?_,j.trans (yV _ _),k.trans (yV _ _)⟩;show _<+:(nk _ _ _ _ _).1;unfold nk;rw[q];exact yV _ _
  rw[sB (by omega) 1];exact⟨c,j,k⟩
def D2{M:ay}{row:bA}:∀(es:bA) (P:ay) (b:bA),(∀e∈es,Hb row aZ e.m=(e.to:Int))->((es.map (·.m)).foldl (zz of aZ row) (P,b)).1<+:M->
  ((es.map (·.m)).foldl (zz of aZ row) (P,b)).2=b++es.map (λe=>⟨e.m,nB of M e.to⟩)/\∃c:bA->Nat,c []=P.length/\c es=((es.map (·.m)).foldl (zz of aZ row) (P,b)).1.length/\
   ∀k e,es[k]?=some e->(nB of M e.to<=c (es.take k))/\c (es.take (k+1))=if nB of M e.to=c (es.take k)then c (es.take k)+1 else c (es.take k)
 |[],P,b,_,_=>⟨by simp,λ_=>P.length,rfl,rfl,λk e h=>by simp at h⟩
 |e::es,P,b,N,w=>by
  rw[cL,nO]at w ⊢;have h0:=N e (by simp);have z:zz of aZ row (P,b) e.m=(if nB of P e.to=P.length then P++[e.to]else P,b++[⟨e.m,nB of P e.to⟩]):=by unfold zz;simp only[h0,aq (show¬(e.to:Int)<0 by omega),jy]
  rw[z]at w ⊢;generalize d:(if nB of P e.to=P.length then P++[e.to]else P)=v at w ⊢;obtain⟨t,A⟩:∃t,((es.map (·.m)).foldl (zz of aZ row) (v,b++[⟨e.m,nB of P e.to⟩])).1=v++t:=by
   clear w z d;generalize b++[(⟨e.m,nB of P e.to⟩:Eg)]=q;generalize es.map (·.m)=O
   induction O generalizing v q with
   |nil=>exact⟨[],by simp⟩
   |cons m O Q=>
    rw[nO];obtain⟨E,B⟩:∃E B,zz of aZ row (v,q) m=(v++E,B):=by
     unfold zz;simp only
     split
     .exact⟨[],q,by simp⟩
     split
     .exact⟨_,_,rfl⟩
     exact⟨[],_,by simp;rfl⟩
    obtain⟨B,T⟩:=B;rw[T];obtain⟨t,h⟩:=Q (v++E) B;exact⟨E++t,by rw[h];simp⟩
  have C:v<+:M:=by refine KP ?_ w;rw[A];exact yV _ _
  have u:nB of P e.to=nB of M e.to:=by
   obtain⟨r,V⟩:=C;unfold nB at d ⊢;rw[<-V];by_cases G:(P.findIdx λj=>decide (of.getD j 0=of.getD e.to 0))=P.length
   .rw[ar G]at d;rw[<-d,G,yG,T5,aq (by omega)];simp[List.findIdx_cons]
   rw[aq G]at d;have H:(P.findIdx λj=>decide (of.getD j 0=of.getD e.to 0))<P.length:=by have:=List.findIdx_le_length (xs:=P) (p:=λj=>decide (of.getD j 0=of.getD e.to 0));omega
   rw[<-d,T5,ar H]
  obtain⟨W,c,X,Y,Z⟩:=D2 es v (b++[⟨e.m,nB of P e.to⟩]) (λI J=>N I (by simp[J])) w;refine⟨by rw[W,u];simp,λl=>if l=[]then P.length else c l.tail,by simp,by simpa using Y,λk I F=>?_⟩;have D:v.length=if nB of M e.to=P.length then P.length+1 else P.length:=by
   rw[<-d,u]
   split<;>simp
  cases k with|zero=>simp only[yM,bT]at F;subst F;simp only[T6,bf,T8,T9,X,D,reduceCtorEq,bp];exact⟨by rw[<-u];exact TY,trivial⟩|succ k=>simp only[Ga]at F;simp only[T8,T9,reduceCtorEq,bp];exact Z k I F
end
def sD{α β:Type}{p:β->Bool}{q:α->Bool}{f:α->β}:∀{l:List α},(∀e∈l,p (f e)=q e)->(l.map f).find? p=(l.find? q).map f
 |[],_=>rfl
 |a::l,h=>by
  have b:=h a (by simp);have c:=sD (l:=l) (λe d=>h e (by simp[d]));rw[cL,ue,ue,b];cases q a
  .simpa using c
  rfl
def Cs{α:Type}{l l':List α}(h:l<+:l'){i:Nat}{v:α}(b:l[i]?=some v):l'[i]?=some v:=by obtain⟨t,rfl⟩:=h;rw[ek (aV.1 b).1];exact b
def hY.inj{n:Nat}{of:aQ}{c:ay}(h:hY n of c){a b:Nat}(t:a∈c)(u:b∈c)(p:of.getD a 0=of.getD b 0):a=b:=by
 obtain⟨i,q,rfl⟩:=eH.1 t;obtain⟨j,r,rfl⟩:=eH.1 u;have k:=List.pairwise_iff_getElem.1 h.nd;simp only[bH,Ch]at k;rcases EH i j with d|d|d
 .exact(k i j q r d p).elim
 .subst d;rfl
 exact(k j i r q d p.symm).elim
def hY.nodup{n:Nat}{of:aQ}{c:ay}(h:hY n of c):c.Nodup:=List.Pairwise.of_map _ (λa b (d:of.getD a 0≠of.getD b 0) e=>d (by rw[e])) h.nd
def hY.at{n:Nat}{of:aQ}{b:ay}(h:hY n of b){t:Nat}(d:t∈b):b[nB of b t]?=some t:=by have c:nB of b t<b.length:=List.findIdx_lt_length_of_exists ⟨t,d,by simp⟩;have j:decide (of.getD b[nB of b t] 0=of.getD t 0)=true:=List.findIdx_getElem (w:=c);rw[aO c,h.inj (bX c) d (by simpa using j)]
def ZH{x:Fa}(E:cJ x)(ha:tV x)(hl:gW x=x):x=mY∨F9 x:=by
 obtain⟨⟨u,hu,h0,h1⟩,_,_⟩:=uW E;rw[hl]at h0 h1;cases J:u[0]?with
 |none=>have:=F5.1 J;have:=hu.1;have:=E.pos;omega
 |some b=>
 cases b
 .exact .inl (h0 J)
 right;obtain⟨of,hs,hq⟩:=h1 J;clear h0 h1;have ho:=E.pos;have hy:=E.nf;have W:u.getD 0 false=true:=by rw[dF,J];rfl
 have hN:(cK x of u x.nx.length).2.1=x.nx:=(ct Fa.nx hq).symm;have hF:(cK x of u x.nx.length).2.2=x.fi:=(ct Fa.fi hq).symm;generalize O:x.nx.length=n at*;have F:∀i,i<n->i<(cK x of u i).1.length:=by intro i A;apply Df;intro X;have d:=sB (x:=x) (of:=of) (aZ:=u) (i:=i) (by omega) (n-i);rw[show i+(n-i)=n by omega]at d;have v:=(Hc E of u i).1;rw[<-d,hN,O]at v;omega
 have hlen:∀i,i<=n->(cK x of u i).2.1.length=i:=by
  intro i
  induction i with|zero=>intro _;rfl|succ i ih=>intro A;rw[sC (F i (by omega))];simp[ih (by omega)]
 obtain⟨G,Y,_,_⟩:=Cr (of:=of) E W n;rw[O]at G;have C:∀i,i<=n->(cK x of u i).1<+:(cK x of u n).1/\(cK x of u i).2.1<+:(cK x of u n).2.1/\(cK x of u i).2.2<+:(cK x of u n).2.2:=by intro i A;have:=Hf (of:=of) (aZ:=u) E i (n-i);rwa[show i+(n-i)=n by omega]at this
 generalize Z:(cK x of u n).1=r at*;have T:r.length=n:=by have d:=G.len;have v:=F (n-1) (by omega);have I:=(C (n-1) (by omega)).1.length_le;omega
 have w:∀j,j<n->j∈r:=by
  intro j hj;apply Df;intro X;have:=y7 n (j::r) (mN.2 ⟨X,G.nodup⟩) (λk P=>by
   rcases bm.1 P with rfl|P
   .exact hj
   exact G.lt k P)
  simp at this;omega
 have N:∀j,j<n->u.getD j false=true:=λj hj=>Y j (w j hj)
 have D:∀j,j<n->u[j]?=some true:=by
  intro j hj;have d:=N j hj;rw[dF]at d;cases v:u[j]?with
  |none=>rw[v]at d;cases d
  |some b=>rw[v]at d;simpa using d
 have H:∀i p,i<n->r[i]?=some p->x.nx.getD i []=(x.nx.getD p []).map (λe=>⟨e.m,nB of r e.to⟩)/\x.fi[i]?=x.fi[p]?/\
   ∃c:bA->Nat,c []=(cK x of u i).1.length/\c (x.nx.getD p [])=(cK x of u (i+1)).1.length/\∀k e,(x.nx.getD p [])[k]?=some e->(nB of r e.to<=c ((x.nx.getD p []).take k))/\
    c ((x.nx.getD p []).take (k+1))=if nB of r e.to=c ((x.nx.getD p []).take k)then c ((x.nx.getD p []).take k)+1 else c ((x.nx.getD p []).take k):=by
  intro i p A hp;have hd:=G.lt p (cH hp);have hf:(cK x of u i).1.getD i 0=p:=by have d:=aO (F i A);have v:=Cs (C i (by omega)).1 d;rw[hp]at v;rw[dF,d];simp only[iY];exact(kH v).symm
  have V:=sC (of:=of) (aZ:=u) (F i A);rw[hf]at V;have Q:vC (x.nx.getD p []):=by rw[getD_at (by rw[O];exact hd)];exact ha _ (bX _)
  have h6:pV (x.nx.getD p [])=(x.nx.getD p []).map (·.m):=by have:=Hd Q _ (aY _);rwa[j0]at this
  have z:=jJ E p;rw[O]at z;obtain⟨g1,g2,g3⟩:=C (i+1) (by omega);rw[V]at g1 g2 g3;unfold nk at g1 g2;rw[h6]at g1 g2;obtain⟨k1,c,k2,k3,k4⟩:=D2 (M:=r) (x.nx.getD p []) (cK x of u i).1 [] (λe he=>T4 Q he (N _ (z e he))) g1;refine⟨?_,?_,c,k2,?_,k4⟩
  .have d:=Cs g2 (i:=i) (by rw[gu (by rw[hlen i (by omega)];exact aY _),hlen i (by omega),lg];rfl);rw[hN,k1]at d;rw[dF,d];simp
  .have h7:(cK x of u i).2.2.length=i:=by rw[<-(Cr (of:=of) E W i).2.2.2,hlen i (by omega)]
   have d:=Cs g3 (i:=i) (by rw[gu (by rw[h7];exact aY _),h7,lg];rfl);rw[hF]at d;rw[d,aO (by omega),getD_at (by omega)]
  rw[k3,V];unfold nk;rw[h6]
 have hid:∀i,i<n->r[i]?=some i:=by
  have hB:Bis x u λa b=>a<n/\r[a]?=some b:=by
   refine⟨λa b ⟨d,v⟩=>?_,λa b ⟨d,v⟩ m=>?_⟩
   .have hb:=G.lt b (cH v);exact⟨by omega,by omega,(H a b d v).2.1,by rw[D a d,D b hb]⟩
   have z:=jJ E b;rw[O]at z;rw[(H a b d v).1,sD (q:=hX u m) (λe he=>by
    simp only[hX];have I:=G.at (w _ (z e he));rw[N _ (z e he),N _ (by have:=(aV.1 I).1;omega)])]
   cases h5:(x.nx.getD b []).find? (hX u m)with|none=>trivial|some e=>have I:=G.at (w _ (z e (FQ h5)));exact⟨by have:=(aV.1 I).1;rw[T]at this;exact this,I⟩
  intro i A;have d:=aO (show i<r.length by omega);have v:=hs.cls.coarse _ hB i _ ⟨A,d⟩;have I:=G.inj (w i A) (bX (show i<r.length by omega)) (l9 v 0);rw[d,<-I]
 have h8:∀t,t<n->nB of r t=t:=by intro t ht;have d:=G.at (w t ht);have v:=hid (nB of r t) (by have:=(aV.1 d).1;omega);rw[d]at v;exact(kH v).symm
 refine⟨λi A=>(hu.2 i).1 (D i (by omega)),λB hB a b h9=>?_,λi=>(cK x of u i).1.length,by simp[cK],by rw[O];simp only[Z,T],λi A=>?_⟩
 .have hg:List.replicate x.nx.length true=u:=by
   have hz:=hu.1;refine qM (by simp;omega) λk d v=>?_
   have I:=D k (by omega);rw[aO v]at I;simp only[List.getElem_replicate];exact(kH I).symm
  rw[hg]at hB;obtain⟨d,v,_⟩:=hB.fi a b h9;exact G.inj (w a (by omega)) (w b (by omega)) (l9 (hs.cls.coarse B hB a b h9) 0)
 rw[O]at A ⊢;obtain⟨_,_,c,k2,k3,k4⟩:=H i i A (hid i A);have z:=jJ E i;rw[O]at z;have X:∀k,k<=(x.nx.getD i []).length->c ((x.nx.getD i []).take k)=gm (cK x of u i).1.length ((x.nx.getD i []).take k):=by
  intro k
  induction k with|zero=>intro _;simp[gm,k2]|succ k ih=>intro P;have d:=aO (show k<(x.nx.getD i []).length by omega);have v:=(k4 k _ d).2;rw[h8 _ (z _ (bX _))]at v;rw[v,eW (show k<(x.nx.getD i []).length by omega),ui,<-ih (by omega)];rfl
 refine⟨F i A,by have:=(C i (by omega)).1.length_le;rw[T]at this;exact this,?_,λk e P=>?_⟩
 .have:=X _ (aY _);rw[j0,k3]at this;exact this
 have hr:=(aV.1 P).1;have d:=(k4 k e P).1;rw[h8 _ (z e (cH P)),X k (by omega)]at d;exact d
def VQ(b:List Rs)(o:Out):Bool:=match o with
 |.code (.exit _) _ _=>false
 |.code _ e s=>(match oH (dY e s b) s with|.val v s'=>vH s' 16 v|_=>false)
 |_=>false
def sE(F:HF)(ih:Task->Out)(args:ak):gq F ih args=VQ F.rs (bK ih F.c (bn args 0) s0):=by
 unfold gq;cases bK ih F.c (bn args 0) s0 with
 |val=>rfl
 |bad=>rfl
 |code x e s=>
  cases x with
  |exit=>rfl
  |normal=>show(match leave F e s with|.val v s'=>vH s' 16 v|_=>false)=(match oH (dY e s F.rs) s with|.val v s'=>vH s' 16 v|_=>false);rw[jY]
  |ret=>show(match leave F e s with|.val v s'=>vH s' 16 v|_=>false)=(match oH (dY e s F.rs) s with|.val v s'=>vH s' 16 v|_=>false);rw[jY]
def wm{b:List Rs}{e:En}{s s':HS}{v:HV}(h:oH (dY e s b) s=.val v s')(c:vH s' 16 v=true):VQ b (.code .ret e s)=true:=by show(match oH (dY e s b) s with|.val v s'=>vH s' 16 v|_=>false)=true;rw[h];exact c
def sF{f:HV->Bool}:∀{l:ak},(∀v∈l,f v=true)->vn f l=true
 |[],_=>rfl
 |a::r,h=>by rw[vn,h a (by simp),sF λv b=>h v (by simp[b])];rfl
section
variable{s:HS}{n:Nat}
def D3{v:HV}(h:fg v=true):vH s (n+1) v=true:=by show(bif fg v then true else _)=true;rw[h];rfl
def NP{l:ak}(h:∀v∈l,vH s n v=true):vH s (n+1) (.bN l)=true:=sF h
def NQ{l:ak}(h:∀v∈l,vH s n v=true):vH s (n+1) (.agg l)=true:=sF h
def A3{v:HV}{sz:Nat}{F:cg}{au:aR}(h:bY s v sz F au)(d:∀c∈aD au,vH s n c=true):vH s (n+1) v=true:=by
 have j:=h;rcases h.2.2 with⟨rfl,_⟩|⟨o,t,k,g,b,rfl,_⟩
 .rfl
 show(bif Nat.beq au.length 0 then true else(match s.bE o 0 (au.length*sz)with|some l=>vn (vH s n) l|none=>false))=true;rw[iv,j.cells.2];cases Nat.beq au.length 0
 .exact sF d
 rfl
def sG{v:HV}{sz:Nat}{F:cg}{au:aR}(h:bY s v sz F au)(b:∀c∈aD au,fg c=true):vH s (n+2) v=true:=A3 h λc d=>D3 (b c d)
def Hg(l:aQ):∀c∈aD (l.map iC),fg c=true:=by
 induction l with
 |nil=>intro c b;cases b
 |cons a l d=>
  intro c b;rw[cL,dw]at b;rcases cG.1 b with h|h
  .rw[dE.1 h];rfl
  exact d c h
def Hh(l:ck):∀c∈aD (l.map bC),fg c=true:=by
 induction l with
 |nil=>intro c b;cases b
 |cons a l d=>
  intro c b;rw[cL,dw]at b;rcases cG.1 b with h|h
  .rw[dE.1 h];rfl
  exact d c h
def K5(l:bA):∀c∈aD (l.map Eg.c),fg c=true:=by
 induction l with
 |nil=>intro c b;cases b
 |cons a l d=>
  intro c b;rw[cL,dw]at b;rcases cG.1 b with h|h
  .simp only[Eg.c,bm,K6,or_false]at h;rcases h with rfl|rfl|rfl|rfl|rfl<;>rfl
  exact d c h
end
@[simp]def ZI{s:HS}{neg:Bool}{r:ak}{l:aR}:DH 0 neg (some (.psl (r::l))) s=.v (.bool (false != neg)) s:=rfl
@[simp]def ZJ{s:HS}{neg:Bool}:DH 0 neg (some .ai) s=.v (.bool (true != neg)) s:=rfl
@[simp]def ahr{s:HS}{neg:Bool}{o:Ky}{a b c:Nat}:DH 0 neg (some (.sl o a b c)) s=.v (.bool (false != neg)) s:=rfl
section
variable{s:HS}{aw:bc}{L:cS}{K:dV}
def aI.cut(h:aI s aw L K)(i:Nat){v:HV}{sz:Nat}{au:aR}(t:L[i]?=some (v,sz,au))(n:Nat)(u:n<=au.length)(h0:au≠ []):∃p,v=.sl p 0 au.length sz/\aI s aw (L.set i (.sl p 0 n sz,sz,au.take n)) K:=by
 obtain⟨p,z,A⟩:=(h.mem.own i v sz au t).cut n u h0;have q:=(aV.1 t).1;refine⟨p,z,⟨h.mem.bd,λk j B=>by rw[iM];exact h.mem.top k j B,λj w r b c=>?_⟩,h.bz,h.nd⟩;rw[gS]at c;by_cases d:i=j
 .subst d;rw[ar rfl,ar q]at c;cases c;exact A
 rw[aq d]at c;exact h.mem.own j w r b c
def ZK(h:aI s aw L K)(b:Bool)(t:ck)(F:t.length<=100000):∃v s' c,R (.call 202 [.psl ([.bool b]::t.map bC)] s)=.val v s'/\cellsOf v=some [v]/\aI s' c (L++[(v,1,(b::t).map bC)]) K:=by
 obtain⟨w,z⟩:=h.KZ 1;generalize k:HS.mk _ _ _ _=G at z;have C:(L++[(HV.sl s.nx 0 0 1,1,([]:aR))])[L.length]?=some (.sl s.nx 0 0 1,1,[]):=by simp
 obtain⟨v,s2,d,p,D,A⟩:=z.wC L.length C (new:=(b::t).map bC) (Sz.map (f:=bC) (λx=>rfl) _) (bx:=140737488355328) (by simp;omega);have j:(L++[(HV.sl s.nx 0 0 1,1,([]:aR))]).set L.length (v,1,[]++(b::t).map bC)=L++[(v,1,(b::t).map bC)]:=by simp
 rw[j]at A;rw[cL]at p;have q:∃u,ev R U.J3 (bn [.psl ([.bool b]::t.map bC)] 0) s=.code .ret u s2/\look u 2=some v:=by generalize B:ev R U.J3 (bn [.psl ([.bool b]::t.map bC)] 0) s=r;simp only[bC]at p;simp[U.J3,k,p]at B;subst B;exact⟨_,rfl,by simp⟩
 obtain⟨u,q,E⟩:=q;exact⟨v,s2,d,afP ⟨.ret,_,s2,q,.inr rfl,by simp[E]⟩,D,A⟩
end
def ahs(l:fH)(q:l.length<=100000)(s:HS):R (.call 203 [.psl (l.map Ei.c)] s)=.val (.psl (l.map Ei.c)) s:=by cases l with|nil=>exact afQ|cons a t=>refine afR (by simp[eh]) ?_;have h0:aI s0 (λ_=>none) [] []:=⟨dT.start (by simp),by simp,by simp⟩;obtain⟨aw,d⟩:=h0.KZ 5;simp only[bD]at d;generalize j:HS.mk _ _ _ _=u at d;obtain⟨v,w,p,k,z,b⟩:=d.wC 0 rfl (new:=(a::t).map Ei.c) (Sz.map (f:=Ei.c) (λx=>rfl) _) (bx:=3518437208883) (by simp at q ⊢;omega);simp only[aS,bD]at b;have r:=(b.mem.own 0 _ _ _ rfl).vw (n:=14) (by exact cq (λx=>by simp[eh]) _);rw[cL]at k;simp only[Ei.c]at k;simp[U.Sv,j,k];have:=aC r;simpa using this
structure Ct(x:Fa)(i k:Nat)(fr:dH):Prop where
 len:fr.length=x.nx.length
 sz:∀l∈fr,l.length<=i*6000+k
 snd:∀(q:Nat) (l:ay),fr[q]?=some l->∀p∈l,∃es,x.nx[p]?=some es/\∃e∈es,e.to=q
 cmp:∀(i' k':Nat),(i'<i∨i'=i/\k'<k)->∀l,x.nx[i']?=some l->∀e:Eg,l[k']?=some e->∃l',fr[e.to]?=some l'/\i'∈l'
def Ct.start(x:Fa):Ct x 0 0 (List.replicate x.nx.length []):=by
 refine⟨by simp,λl c=>by rw[AX c];simp,λq l b p d=>?_,λj k h=>by omega⟩;rw[zc]at b
 split at b
 .cases b;cases d
 cases b
def Ct.step{x:Fa}{i k:Nat}{fr:dH}(h:Ct x i k fr){l:bA}{e:Eg}(z:x.nx[i]?=some l)(A:l[k]?=some e){l':ay}(c:fr[e.to]?=some l'):Ct x i (k+1) (fr.set e.to (l'++[i])):=by
 obtain⟨j,_⟩:=aV.1 c;refine⟨by simp[h.len],λv d=>?_,λq v w p B=>?_,λC D H v d E r=>?_⟩
 .rcases qL d with t|t
  .have:=h.sz v t;omega
  have:=h.sz l' (cH c);rw[t];simp;omega
 .rw[gS]at w;by_cases b:e.to=q
  .rw[ar b,ar j]at w;cases w;rcases cG.1 B with t|t
   .exact h.snd q l' (b▸c) p t
   rw[dE.1 t];exact⟨l,z,e,cH A,b⟩
  rw[aq b]at w;exact h.snd q v w p B
 rw[gS];by_cases u:C=i/\D=k
 .obtain⟨rfl,rfl⟩:=u;rw[z]at d;cases d;rw[A]at r;cases r;rw[ar rfl,ar j];exact⟨_,rfl,by simp⟩
 obtain⟨I,F,G⟩:=h.cmp C D (by omega) v d E r;by_cases b:e.to=E.to
 .rw[ar b,ar j];rw[b,F]at c;cases c;exact⟨_,rfl,by simp[G]⟩
 rw[aq b];exact⟨I,F,G⟩
def Ct.row{x:Fa}{i:Nat}{fr:dH}{l:bA}(p:x.nx[i]?=some l)(q:l.length<=6000)(h:Ct x i l.length fr):Ct x (i+1) 0 fr:=by
 have j:∀c∈fr,c.length<=(i+1)*6000+0:=λc b=>by rw[fR,jV];exact fh (h.sz c b) (K7 q _)
 refine⟨h.len,j,h.snd,λk r t c b u d=>h.cmp k r ?_ c b u d⟩;by_cases v:k=i
 .subst v;rw[p]at b;cases b;exact .inr ⟨rfl,(aV.1 d).1⟩
 omega
def IU(l:ay):Nat×List ak:=(1,l.map nC)
section
variable{x:Fa}
def ZL(M:cJ x){i:Nat}(N:i<x.nx.length){e:En}{s:HS}{o:Out}{o3:Ky}{v20 v21 v22:HV}{aw:bc}{az:cS}{fr:dH}
  (j:bO e [(1,.ax x.c),(3,.sl o3 0 x.nx.length 1),(4,iV i),(20,v20),(21,v21),(22,v22),(27,.psl (x.nx[i].map Eg.c)),(28,iV x.nx[i].length),(29,iV 0)])
  (C:aI s aw ((.sl o3 0 x.nx.length 1,1,az.map fY)::az) [])(t:az.map (·.2)=fr.map IU)(q:Ct x i 0 fr)(ho:bK R (.loop U.xY) e s=o):
  ∃(e':En) (s':HS) (aw:bc) (az:cS) (fr:dH),o=.code (.exit 2) e' s'/\bO e' [(1,.ax x.c),(3,.sl o3 0 x.nx.length 1),(20,v20),(21,v21),(22,v22)]/\
   aI s' aw ((.sl o3 0 x.nx.length 1,1,az.map fY)::az) []/\az.map (·.2)=fr.map IU/\Ct x (i+1) 0 fr:=by
 have hn:=M.n;have D:=aO N;have O:=M.row N;refine aX ho x.nx[i].length
  (λk e s=>∃(aw:bc) (az:cS) (fr:dH),bO e [(1,.ax x.c),(3,.sl o3 0 x.nx.length 1),(4,iV i),(20,v20),(21,v21),(22,v22),(27,.psl (x.nx[i].map Eg.c)),(28,iV x.nx[i].length),(29,iV k)]/\
   aI s aw ((.sl o3 0 x.nx.length 1,1,az.map fY)::az) []/\az.map (·.2)=fr.map IU/\Ct x i k fr)
  (λo=>∃(e':En) (s':HS) (aw:bc) (az:cS) (fr:dH),o=.code (.exit 2) e' s'/\bO e' [(1,.ax x.c),(3,.sl o3 0 x.nx.length 1),(20,v20),(21,v21),(22,v22)]/\
   aI s' aw ((.sl o3 0 x.nx.length 1,1,az.map fY)::az) []/\az.map (·.2)=fr.map IU/\Ct x (i+1) 0 fr)
  0 (by omega) ⟨aw,az,fr,j,C,t,q⟩
  (λk e s r P ⟨aw,az,fr,j,C,t,q⟩ E=>by
   have Q:(k:Int)<x.nx[i].length:=by omega
   have F:=aO P;have u:=M.to _ (bX N) _ (bX P);generalize he:x.nx[i][k]=b at*;have h3:az.length=x.nx.length:=by have:=ct List.length t;simp only[bH]at this;rw[this,q.len]
   have d:az[b.to]?=some (az[b.to]'(by omega)):=aO (by omega);obtain⟨B,v⟩:∃B,fr[b.to]?=some B:=⟨_,aO (by rw[q.len];exact u)⟩;obtain⟨w,W⟩:∃w,az[b.to]'(by omega)=(w,IU B):=by have X:=ct (λl=>l[b.to]?) t;simp only[fW,d,v,ml,bT]at X;exact⟨_,Prod.ext rfl X⟩
   have p:=C.cY b.c;have z:=(p.bz 0 _ _ rfl).1.1;generalize G:HS.mk _ _ _ _=S1 at p z;have g6:eN (ao S1.h o3) b.to=some w:=by rw[(p.mem.own 0 _ _ _ rfl).cell b.to (by simp;omega)];simp[W,fY]
   rw[W]at d;obtain⟨v',s2,H,Y,c2,A⟩:=p.append (b.to+1) (by rw[Ga];exact d) (new:=[[iV i]]) (Sz.cons rfl Sz.nil) (by simp) (bx:=17592186044416) (by have:=q.sz B (cH v);simp;omega);simp only[cb]at A;have I:=(A.bz 0 _ _ rfl).1.1;obtain⟨o1,s3,Z,b2,J⟩:=A.jg 0 rfl b.to (by simp;omega) c2;simp[u]at Z;obtain rfl:=Z;simp only[aS,hU]at J b2;have h2:(b.to:Int)<x.nx.length:=by omega
   have T:=bj (n:=6000) (show k<6000 by omega) (by omega);simp only[ab,ae]at j;simp only[Eg.c,aA,aE,bw,Nat.reduceAdd,iV]at z I G Y;have V:(x.nx[i].map Eg.c)[k]?=some b.c:=by rw[fW,F];rfl
   simp only[Eg.c]at V;simp[U.xY,j,P,Q,he,G,z,I,ah,an,g6,Y,b2,u,T]at E;subst E;refine .inl ⟨_,_,rfl,H,az.set b.to (v',1,B.map nC++[[iV i]]),fr.set b.to (B++[i]),by simp[j],?_,?_,q.step D F v⟩
   .rw[kI];have:=J;exact⟨this.mem,by simp,by simp⟩
   rw[kI,kI,t];simp[IU,nC])
  (λe s r ⟨aw,az,fr,j,C,t,q⟩ E=>by
   simp only[ab,ae]at j;simp[U.xY,j]at E;subst E;exact⟨by simp,_,_,aw,az,fr,rfl,by simp[j],C,t,q.row D O⟩)
end
def ZM{α:Type}(A:List α)(a b:α):(A++[a,b])[A.length]?=some a:=by simp
def Ua{α:Type}(A:List α)(a b:α):(A++[a,b])[A.length+1]?=some b:=by simp
def aht{α:Type}(A:List α)(a b c:α):(A++[a,b]).set A.length c=A++[c,b]:=by simp
def NR{α:Type}(A:List α)(a b c:α):(A++[a,b]).set (A.length+1) c=A++[a,c]:=by simp
def uX:∀(u:ck) (q:Nat),u[q]?=some false->(u.set q true).count false+1=u.count false
 |[],q,h=>by simp at h
 |b::u,0,h=>by simp only[yM,bT]at h;subst h;simp
 |b::u,q+1,h=>by have:=uX u q (by simpa using h);rw[cb,Ub,Ub];omega
structure Cu(x:Fa)(u:ck)(td:ay)(w:aG):Prop where
 len:u.length=x.nx.length
 snd:∀i:Nat,u[i]?=some true->Lv x i
 fin:∀i:Nat,x.fi[i]?=some true->u[i]?=some true
 tu:∀p∈td,u[p]?=some true
 cls:∀(i:Nat) l,x.nx[i]?=some l->∀e∈l,u[e.to]?=some true->e.to∈td∨u[i]?=some true∨w i
def Cu.done{x:Fa}{u:ck}(h:Cu x u [] λ_=>False):ng x u:=by
 refine⟨h.len,λi=>⟨h.snd i,λc=>?_⟩⟩
 induction c with
 |fin d=>exact h.fin _ d
 |KC j k _ p=>
  rcases h.cls _ _ j _ k p with b|b|b
  .cases b
  .exact b
  exact b.elim
def Cu.pop{x:Fa}{u:ck}{r:ay}{p:Nat}(h:Cu x u (r++[p]) λ_=>False){fr:dH}(w:Ct x x.nx.length 0 fr){l':ay}(z:fr[p]?=some l'):Cu x u r λi=>∃j,0<=j/\l'[j]?=some i:=by
 refine⟨h.len,h.snd,h.fin,λq A=>h.tu q (by simp[A]),λi l c e t B=>?_⟩;rcases h.cls i l c e t B with b|b|b
 .rcases cG.1 b with d|d
  .exact .inl d
  obtain⟨k,C⟩:=uK.1 t;obtain⟨F,v,D⟩:=w.cmp i k (.inl (aV.1 c).1) l c e C;rw[dE.1 d,z]at v;cases v;obtain⟨j,E⟩:=uK.1 D;exact .inr (.inr ⟨j,fD _,E⟩)
 .exact .inr (.inl b)
 exact b.elim
def Cu.old{x:Fa}{u:ck}{p:ay}{l':ay}{j q:Nat}(h:Cu x u p λi=>∃b,j<=b/\l'[b]?=some i)(r:l'[j]?=some q)(t:u[q]?=some true):Cu x u p λi=>∃b,j+1<=b/\l'[b]?=some i:=by
 refine⟨h.len,h.snd,h.fin,h.tu,λi l v e w z=>?_⟩;rcases h.cls i l v e w z with c|c|⟨b,c,d⟩
 .exact .inl c
 .exact .inr (.inl c)
 by_cases k:b=j
 .subst k;rw[r]at d;cases d;exact .inr (.inl t)
 exact .inr (.inr ⟨b,by omega,d⟩)
def Cu.new{x:Fa}{u:ck}{B:ay}{l':ay}{j q:Nat}(h:Cu x u B λi=>∃d,j<=d/\l'[d]?=some i)(C:l'[j]?=some q)(D:u[q]?=some false)(v:Lv x q):Cu x (u.set q true) (B++[q]) λi=>∃d,j+1<=d/\l'[d]?=some i:=by
 obtain⟨w,_⟩:=aV.1 D;have b:∀i:Nat,(u.set q true)[i]?=some true↔i=q∨u[i]?=some true:=by
  intro i;rw[gS];by_cases k:q=i
  .subst k;simp[w]
  rw[aq k];exact⟨.inr,λh=>h.resolve_left (λh=>k h.symm)⟩
 refine⟨by simp[h.len],λi r=>?_,λi r=>(b i).2 (.inr (h.fin i r)),λp E=>?_,λi l r e F G=>?_⟩
 .rcases(b i).1 r with rfl|c
  .exact v
  exact h.snd i c
 .rcases cG.1 E with c|c
  .exact(b p).2 (.inr (h.tu p c))
  exact(b p).2 (.inl (dE.1 c))
 rcases(b _).1 G with c|c
 .exact .inl (by simp[c])
 rcases h.cls i l r e F c with t|t|⟨d,t,z⟩
 .exact .inl (by simp[t])
 .exact .inr (.inl ((b i).2 (.inr t)))
 by_cases A:d=j
 .subst A;rw[C]at z;cases z;exact .inr (.inl ((b _).2 (.inl rfl)))
 exact .inr (.inr ⟨d,by omega,z⟩)
section
variable{x:Fa}
def ZN(D:cJ x){e:En}{s:HS}{o:Out}{o3:Ky}{aw:bc}{az:cS}{fr:dH}
  (b:bO e [(1,.ax x.c),(3,.sl o3 0 x.nx.length 1),(20,.psl (x.nx.map oM)),(21,iV x.nx.length),(22,iV 0)])
  (p:aI s aw ((.sl o3 0 x.nx.length 1,1,az.map fY)::az) [])(q:az.map (·.2)=fr.map IU)(t:Ct x 0 0 fr)(v:bK R (.loop U.xZ) e s=o):
  ∃(e':En) (s':HS) (aw:bc) (az:cS) (fr:dH),o=.code (.exit 0) e' s'/\bO e' [(1,.ax x.c),(3,.sl o3 0 x.nx.length 1)]/\
   aI s' aw ((.sl o3 0 x.nx.length 1,1,az.map fY)::az) []/\az.map (·.2)=fr.map IU/\Ct x x.nx.length 0 fr:=by
 have F:=D.n;refine aX v x.nx.length
  (λi e s=>∃(aw:bc) (az:cS) (fr:dH),bO e [(1,.ax x.c),(3,.sl o3 0 x.nx.length 1),(20,.psl (x.nx.map oM)),(21,iV x.nx.length),(22,iV i)]/\
   aI s aw ((.sl o3 0 x.nx.length 1,1,az.map fY)::az) []/\az.map (·.2)=fr.map IU/\Ct x i 0 fr)
  (λo=>∃(e':En) (s':HS) (aw:bc) (az:cS) (fr:dH),o=.code (.exit 0) e' s'/\bO e' [(1,.ax x.c),(3,.sl o3 0 x.nx.length 1)]/\
   aI s' aw ((.sl o3 0 x.nx.length 1,1,az.map fY)::az) []/\az.map (·.2)=fr.map IU/\Ct x x.nx.length 0 fr)
  0 (by omega) ⟨aw,az,fr,b,p,q,t⟩
  (λi e s r E ⟨aw,az,fr,b,p,q,t⟩ j=>by
   have w:(i:Int)<x.nx.length:=by omega
   simp only[ab,ae]at b;simp[U.xZ,b,E,w]at j;generalize v:bK R (.loop U.xY) _ _=o at j;obtain⟨e',s',u,d,z,rfl,k,A,B,C⟩:=ZL D E (v20:=.psl (x.nx.map oM)) (v21:=iV x.nx.length) (v22:=iV i) (by simp[b]) p q t v;clear v;simp only[ab,ae]at k;simp[k,bj (n:=400) (show i<400 by omega) (by omega)]at j;subst j;exact .inl ⟨_,_,rfl,u,d,z,by simp[k],A,B,C⟩)
  (λe s r ⟨aw,az,fr,b,p,q,t⟩ j=>by
   simp only[ab,ae]at b;simp[U.xZ,b]at j;subst j;exact⟨by simp,_,_,aw,az,fr,rfl,by simp[b],p,q,t⟩)
def ZO{A:cS}{u:ck}(F:u.length<=400){e:En}{s:HS}{o:Out}{v3:HV}{o8:Ky}{aw:bc}
  (c:bO e [(3,v3),(8,.sl o8 0 u.length 1),(9,.ai),(50,.sl o8 0 u.length 1),(51,iV u.length),(52,iV 0)])
  (d:aI s aw (A++[(.sl o8 0 u.length 1,1,u.map bC),(.ai,1,[])]) [])(B:bK R (.loop U.tL) e s=o):
  ∃(e':En) (s':HS) (aw:bc) (v9:HV),o=.code (.exit 4) e' s'/\bO e' [(3,v3),(8,.sl o8 0 u.length 1),(9,v9)]/\
   aI s' aw (A++[(.sl o8 0 u.length 1,1,u.map bC),(v9,1,(((List.range u.length).filter λi=>u.getD i false)).map nC)]) []:=by
 refine aX B u.length
  (λi e s=>∃(aw:bc) (v9:HV),bO e [(3,v3),(8,.sl o8 0 u.length 1),(9,v9),(50,.sl o8 0 u.length 1),(51,iV u.length),(52,iV i)]/\
   aI s aw (A++[(.sl o8 0 u.length 1,1,u.map bC),(v9,1,(((List.range i).filter λi=>u.getD i false)).map nC)]) [])
  (λo=>∃(e':En) (s':HS) (aw:bc) (v9:HV),o=.code (.exit 4) e' s'/\bO e' [(3,v3),(8,.sl o8 0 u.length 1),(9,v9)]/\
   aI s' aw (A++[(.sl o8 0 u.length 1,1,u.map bC),(v9,1,(((List.range u.length).filter λi=>u.getD i false)).map nC)]) [])
  0 (by omega) ⟨aw,.ai,c,d⟩
  (λi e s r t ⟨aw,v9,c,d⟩ j=>by
   have k:(i:Int)<u.length:=by omega
   have w:=bj (n:=400) (show i<400 by omega) (by omega);have v:=lD (d.mem.own A.length _ _ _ (ZM _ _ _)) (aO t);simp only[ab,ae]at c;have b:((List.range (i+1)).filter λi=>u.getD i false)=((List.range i).filter λi=>u.getD i false)++(if u[i]then [i]else []):=by rw[FI,List.filter_append,List.filter_cons,getD_at t];cases u[i]<;>rfl
   cases z:u[i]
   .rw[z]at v b;simp[U.tL,c,t,k,v,w]at j;subst j;refine .inl ⟨_,_,rfl,aw,v9,by simp[c],?_⟩;rw[b];simpa using d
   rw[z]at v b;have C:((List.range i).filter λi=>u.getD i false).length<=i:=by have:=K8 (λi=>u.getD i false) (List.range i);simpa using this
   obtain⟨D,s2,p,E,G,q⟩:=d.append (A.length+1) (Ua _ _ _) (new:=[[iV i]]) (Sz.cons rfl Sz.nil) (by simp) (bx:=17592186044416) (by simp only[bH,aA,aE];omega);rw[NR]at q;simp[U.tL,c,t,k,v,w,E]at j;subst j;refine .inl ⟨_,_,rfl,p,D,by simp[c],?_⟩;rw[b];simpa[nC]using q)
  (λe s r ⟨aw,v9,c,d⟩ j=>by
   simp only[ab,ae]at c;simp[U.tL,c]at j;subst j;exact⟨by simp,_,_,aw,v9,rfl,by simp[c],d⟩)
def ZP(hx:cJ x){A:cS}{a:Nat}{J:HV}{l':ay}(X:A[a]?=some (J,1,l'.map nC))(h3:l'.length<=2400000)(Q:∀q∈l',q<x.nx.length)(T:∀q∈l',Lv x q){u:ck}{b:ay}{N:Nat}(B:b.length+u.count false=N)(h4:N<=400)
  {e:En}{s:HS}{o:Out}{v3 v9:HV}{o8:Ky}{aw:bc}(d:Cu x u b λi=>∃z,0<=z/\l'[z]?=some i)
  (c:bO e [(3,v3),(8,.sl o8 0 x.nx.length 1),(9,v9),(80,J),(81,iV l'.length),(82,iV 0)])
  (p:aI s aw (A++[(.sl o8 0 x.nx.length 1,1,u.map bC),(v9,1,b.map nC)]) [])(ho:bK R (.loop U.tM) e s=o):
  ∃(e':En) (s':HS) (aw:bc) (v9:HV) (u:ck) (b:ay),o=.code (.exit 8) e' s'/\bO e' [(3,v3),(8,.sl o8 0 x.nx.length 1),(9,v9)]/\b.length+u.count false=N/\(Cu x u b λ_=>False)/\
   aI s' aw (A++[(.sl o8 0 x.nx.length 1,1,u.map bC),(v9,1,b.map nC)]) []:=by
 have hn:=hx.n;have V:=(aV.1 X).1;refine aX ho l'.length
  (λj e s=>∃(aw:bc) (v9:HV) (u:ck) (b:ay),bO e [(3,v3),(8,.sl o8 0 x.nx.length 1),(9,v9),(80,J),(81,iV l'.length),(82,iV j)]/\b.length+u.count false=N/\(Cu x u b λi=>∃z,j<=z/\l'[z]?=some i)/\
   aI s aw (A++[(.sl o8 0 x.nx.length 1,1,u.map bC),(v9,1,b.map nC)]) [])
  (λo=>∃(e':En) (s':HS) (aw:bc) (v9:HV) (u:ck) (b:ay),o=.code (.exit 8) e' s'/\bO e' [(3,v3),(8,.sl o8 0 x.nx.length 1),(9,v9)]/\b.length+u.count false=N/\(Cu x u b λ_=>False)/\
   aI s' aw (A++[(.sl o8 0 x.nx.length 1,1,u.map bC),(v9,1,b.map nC)]) [])
  0 (by omega) ⟨aw,v9,u,b,c,B,d,p⟩
  (λj e s r t ⟨aw,v9,u,b,c,B,d,p⟩ v=>by
   have C:(j:Int)<l'.length:=by omega
   have D:=aO t;have Y:=bj (n:=2400000) (show j<2400000 by omega) (by omega);have W:=Q _ (bX t);have E:=T _ (bX t);have w:=p.mem.own a J 1 (l'.map nC) (by rw[ek V];exact X);obtain⟨o9,rfl⟩:=w.fY (by intro h;rw[Gb]at h;rw[h]at t;simp at t);rw[bH]at c w;have Z:=ik w t;generalize l'[j]=q at*;have h5:=d.len;have k:q<u.length:=by omega
   have h6:(q:Int)<x.nx.length:=by omega
   have M:=lD (p.mem.own A.length _ _ _ (ZM _ _ _)) (aO k);simp only[ab,ae]at c;cases O:u[q]
   .rw[O]at M;obtain⟨o1,s1,b1,b2,F⟩:=p.jg A.length (ZM _ _ _) q (by simpa using k) (x:=.bool true) rfl;simp[W]at b1;obtain rfl:=b1;rw[aht]at F;simp only[hU]at b2;obtain⟨v',s2,G,a2,c2,H⟩:=F.append (A.length+1) (Ua _ _ _) (new:=[[iV q]]) (Sz.cons rfl Sz.nil) (by simp) (bx:=17592186044416) (by simp only[bH,aA,aE];omega);rw[NR]at H;have I:u[q]?=some false:=by rw[aO k,O]
    simp[U.tM,c,t,C,Z,M,W,b2,a2,Y]at v;subst v;refine .inl ⟨_,_,rfl,G,v',u.set q true,b++[q],by simp[c],?_,d.new D I E,?_⟩
    .have:=uX u q I;simp only[cE,aA,aE];omega
    rw[kI,eD];exact H
   rw[O]at M;simp[U.tM,c,t,C,Z,M,W,Y]at v;subst v;exact .inl ⟨_,_,rfl,aw,v9,u,b,by simp[c],B,d.old D (by rw[aO k,O]),p⟩)
  (λe s r ⟨aw,v9,u,b,c,B,d,p⟩ v=>by
   simp only[ab,ae]at c;simp[U.tM,c]at v;subst v;refine⟨by simp,_,_,aw,v9,u,b,rfl,by simp[c],B,⟨d.len,d.snd,d.fin,d.tu,λi l hi e he hu=>?_⟩,p⟩;rcases d.cls i l hi e he hu with P|P|⟨z,P,h2⟩
   .exact .inl P
   .exact .inr (.inl P)
   have:=(aV.1 h2).1;omega)
def ZQ(hx:cJ x){A:cS}{o3:Ky}{az:cS}{fr:dH}(O:A[0]?=some (.sl o3 0 x.nx.length 1,1,az.map fY))(h4:∀q:Nat,A[q+1]?=az[q]?)(hI:az.map (·.2)=fr.map IU)(J:Ct x x.nx.length 0 fr)
  {u:ck}{M:ay}(hN:M.length+u.count false<=400){e:En}{s:HS}{o:Out}{v9:HV}{o8:Ky}{aw:bc}(j:Cu x u M λ_=>False)
  (c:bO e [(3,.sl o3 0 x.nx.length 1),(8,.sl o8 0 x.nx.length 1),(9,v9)])
  (d:aI s aw (A++[(.sl o8 0 x.nx.length 1,1,u.map bC),(v9,1,M.map nC)]) [])(Z:bK R (.loop U.tN) e s=o):
  ∃(e':En) (s':HS) (aw:bc) (v9:HV) (u:ck),o=.code (.exit 6) e' s'/\bO e' [(8,.sl o8 0 x.nx.length 1)]/\ng x u/\
   aI s' aw (A++[(.sl o8 0 x.nx.length 1,1,u.map bC),(v9,1,[])]) []:=by
 have hn:=hx.n;have hf:az.length=x.nx.length:=by have:=ct List.length hI;simp only[bH]at this;rw[this,J.len]
 have k:∀(e:En) (s:HS) (r:Out) (aw:bc) (v9:HV) (u:ck),bO e [(3,.sl o3 0 x.nx.length 1),(8,.sl o8 0 x.nx.length 1),(9,v9)]->(Cu x u [] λ_=>False)->
   aI s aw (A++[(.sl o8 0 x.nx.length 1,1,u.map bC),(v9,1,[])]) []->bK R U.tN e s=r->gC r/\∃(e':En) (s':HS) (aw:bc) (v9:HV) (u:ck),r=.code (.exit 6) e' s'/\bO e' [(8,.sl o8 0 x.nx.length 1)]/\ng x u/\
   aI s' aw (A++[(.sl o8 0 x.nx.length 1,1,u.map bC),(v9,1,[])]) []:=by
  intro e s r aw v9 u c j d z;have hlen:=d.mem.len (A.length+1) (Ua _ _ _) s;simp only[ab,ae]at c;simp only[aE]at hlen;simp[U.tN,c,hlen]at z;subst z;exact⟨by simp,_,_,aw,v9,u,rfl,by simp[c],j.done,d⟩
 refine aX Z (M.length+u.count false)
  (λi e s=>∃(aw:bc) (v9:HV) (C:ck) (b:ay),bO e [(3,.sl o3 0 x.nx.length 1),(8,.sl o8 0 x.nx.length 1),(9,v9)]/\b.length+C.count false+i=M.length+u.count false/\(Cu x C b λ_=>False)/\
   aI s aw (A++[(.sl o8 0 x.nx.length 1,1,C.map bC),(v9,1,b.map nC)]) [])
  (λo=>∃(e':En) (s':HS) (aw:bc) (v9:HV) (u:ck),o=.code (.exit 6) e' s'/\bO e' [(8,.sl o8 0 x.nx.length 1)]/\ng x u/\
   aI s' aw (A++[(.sl o8 0 x.nx.length 1,1,u.map bC),(v9,1,[])]) [])
  0 (by omega) ⟨aw,v9,u,M,c,by omega,j,d⟩
  (λi e s r hi ⟨aw,v9,C,b,c,B,j,d⟩ z=>by
   rcases ly b with h0|⟨t,p,h0⟩
   .subst h0;exact .inr (k e s r aw v9 C c j d z)
   rw[yD]at h0;subst h0;have P:=j.tu p (by simp);have Q:p<x.nx.length:=by have:=(aV.1 P).1;have:=j.len;omega
   have hd:(p:Int)<x.nx.length:=by omega
   have hlen:=d.mem.len (A.length+1) (Ua _ _ _) s;have F:=d.mem.own (A.length+1) _ _ _ (Ua _ _ _);obtain⟨o9,rfl⟩:=F.fY (by simp);rw[bH]at c F;have g9:=ik F (i:=t.length) (by simp);obtain⟨hg,h9,G⟩:=d.cut (A.length+1) (Ua _ _ _) t.length (by simp) (by simp);rw[NR]at G;simp at h9;obtain rfl:=h9;rw[show((t++[p]).map nC).take t.length=t.map nC by simp]at G;obtain⟨H,v⟩:∃H,fr[p]?=some H:=⟨_,aO (by rw[J.len];exact Q)⟩;have D:az[p]?=some (az[p]'(by omega)):=aO (by omega);obtain⟨w,hw⟩:∃w,az[p]'(by omega)=(w,IU H):=by have E:=ct (λl=>l[p]?) hI;simp only[fW,D,v,ml,bT]at E;exact⟨_,Prod.ext rfl E⟩
   have I:A[p+1]?=some (w,1,H.map nC):=by rw[h4,D,hw];rfl
   have g6:eN (ao s.h o3) p=some w:=by have E:=d.mem.own 0 _ _ _ (by rw[ek (by have:=(aV.1 O).1;omega)];exact O);rw[E.cell p (by simp;omega)];simp[hw,fY]
   have T:=d.mem.len (p+1) (by rw[ek (by have:=(aV.1 I).1;omega)];exact I) s;simp only[bH,cE,aA,aE]at hlen T c g9;have V:bR .i64 (t.length:Int)=t.length:=bM (by omega) (by simp at B;omega);have W:(0:Int)<(t.length:Int)+1:=by omega
   have h5:(t++[p])[t.length]'(by simp)=p:=by simp
   rw[h5]at g9;simp only[ab,ae]at c;have e1:((t.length+(0+1):Nat):Int)=(t.length:Int)+1:=by omega
   simp only[e1]at hlen;simp[U.tN,c,hlen,W,V,g9,Q,g6,T]at z;generalize Z:bK R (.loop U.tM) _ _=o at z;have h6:=j.pop J v;obtain⟨e',s',X,h7,u2,h8,rfl,Y,hj,ha,hb⟩:=ZP hx (v3:=.sl o3 0 x.nx.length 1) I (by
     have:=J.sz H (cH v);exact fh this (by rw[fR];exact fh (jU _ hn) (by decide)))
    (λq hq=>by obtain⟨es,E,_⟩:=J.snd p H v q hq;exact(aV.1 E).1)
    (λq hq=>by obtain⟨es,E,e1,h2,h3⟩:=J.snd p H v q hq;exact .KC E h2 (h3▸j.snd p P)) (N:=t.length+C.count false) rfl (by simp at B;omega) h6 (by simp[c]) G Z
   clear Z;simp only[ab,ae]at Y;simp at z;subst z;exact .inl ⟨_,_,rfl,X,h7,u2,h8,by simp[Y],by simp at B;omega,ha,hb⟩)
  (λe s r ⟨aw,v9,C,b,c,B,j,d⟩ z=>by
   have h0:b=[]:=iJ (by omega);subst h0;exact k e s r aw v9 C c j d z)
def ahu(x:Fa)(E:cJ x):∃u,ng x u/\gq U.f195 R [.agg x.c]=true/\∀s,R (.call 195 [.agg x.c] s)=.val (.psl (u.map bC)) s:=by
 have hn:=E.n;have d:=E.nf;have h8:=E.pos;generalize w:bK R U.Sq (bn [.agg x.c] 0) s0=r
 suffices h:∃u,ng x u/\pN [.tmp 2] r=some (.psl (u.map bC))/\VQ [.tmp 2] r=true by obtain⟨u,O,h,P⟩:=h;rw[<-w]at h P;exact⟨u,O,by rw[sE];exact P,λs=>afE h⟩
 have h0:aI s0 (λ_=>none) [] []:=⟨dT.start (by simp),by simp,by simp⟩;obtain⟨T,m1,V,W⟩:=mc (s:=s0) (n:=x.nx.length) (bx:=5864062014805) (by omega) .ai;obtain⟨X,Y⟩:=h0.join W V (λk hk=>by subst hk;exact aY _);have F:aI T X ((.sl s0.nx 0 x.nx.length 1,1,(List.replicate x.nx.length ((.ai,1,[]):tR)).map fY)::List.replicate x.nx.length (.ai,1,[])) []:=by
  rw[List.map_replicate];have key:∀(n:Nat) (L:cS),aI T X L []->aI T X (L++List.replicate n (.ai,1,[])) []:=by
   intro n
   induction n with|zero=>intro L h;simpa using h|succ n ih=>intro L h;have:=ih _ (h.push 1);rwa[yG]at this
  exact key x.nx.length _ Y
 simp[U.Sq,m1]at w;generalize z:bK R (.loop U.xZ) _ _=o at w;obtain⟨e2,s2,c2,az,fr,rfl,B,Z,hI,hF⟩:=ZN E (o3:=s0.nx) (by simp) F (by simp[IU]) (Ct.start x) z;clear z;have ha:az.length=x.nx.length:=by have:=ct List.length hI;simp only[bH]at this;rw[this,hF.len]
 obtain⟨b,t,C⟩:∃b t,x.fi=b::t:=by cases P:x.fi with|nil=>have h9:=ct List.length P;simp only[aE]at h9;omega|cons b t=>exact⟨b,t,rfl⟩
 obtain⟨v8,s3,c3,a3,k3,j⟩:=ZK Z b t (by rw[C]at d;simp at d;omega);have j:=j.push 1;rw[<-C]at j;have G:x.fi.map bC=[.bool b]::t.map bC:=by rw[C];rfl
 simp only[ab,ae]at B;obtain⟨o8,rfl⟩:=(j.mem.own (az.length+1) v8 1 (x.fi.map bC) (by simp)).fY (by rw[G];simp);rw[bH,<-d]at j a3;simp[B,G,a3]at w;generalize z:bK R (.loop U.tL) _ _=o at w;obtain⟨e4,s4,c4,v9,rfl,D,H⟩:=ZO (A:=(.sl s0.nx 0 x.nx.length 1,1,az.map fY)::az) (u:=x.fi) (v3:=.sl s0.nx 0 x.nx.length 1) (o8:=o8) (by omega) (by rw[<-d];simp[B]) (by rw[<-d];simpa using j) z;clear z;rw[<-d]at D H;simp only[ab,ae]at D;simp at w;generalize z:bK R (.loop U.tN) _ _=o at w;have I:((List.range x.nx.length).filter λi=>x.fi.getD i false).length+x.fi.count false<=400:=by
  have O:=K8 (λi=>x.fi.getD i false) (List.range x.nx.length);have h2:∀(l:ck),((List.range l.length).filter λi=>l.getD i false).length+l.count false<=l.length:=by
   intro l;have h3:((List.range l.length).filter λi=>l.getD i false).length=l.count true:=by
    have h4:l=(List.range l.length).map λi=>l.getD i false:=qM (by simp) λi h5 h6=>by simp[h5]
    conv=>rhs;rw[h4]
    rw[Uc,Ud,Ue]
    congr 1
    refine List.filter_congr λi _=>?_
    show l.getD i false=(l.getD i false==true);cases l.getD i false<;>rfl
   have h4:∀l:ck,l.count true+l.count false=l.length:=by
    intro l
    induction l with
    |nil=>rfl
    |cons b l ih=>cases b<;>simp<;>omega
   rw[h3,h4];exact aY _
  have:=h2 x.fi;rw[<-d]at this;omega
 have hJ:Cu x x.fi ((List.range x.nx.length).filter λi=>x.fi.getD i false) λ_=>False:=by
  refine⟨d.symm,λi Q=>.fin Q,λi Q=>Q,λp hp=>?_,λi l Q e he hu=>?_⟩
  .rw[tp,gy]at hp;rw[aO (by omega),<-hp.2,getD_at (by omega)]
  left;obtain⟨O,h2⟩:=aV.1 hu;rw[tp,gy];exact⟨by omega,by rw[getD_at O];exact h2⟩
 obtain⟨e5,s5,c5,hb,u,rfl,J,h7,M⟩:=ZQ E (A:=(.sl s0.nx 0 x.nx.length 1,1,az.map fY)::az) (o3:=s0.nx) (az:=az) rfl (λq=>rfl) hI hF I hJ (by simp[D]) H z;clear z;simp only[ab,ae]at J;have N:=M.mem.own _ _ _ _ (ZM _ _ _);have hv:=(M.mem.own _ _ _ _ (ZM _ _ _)).vw (n:=14) (by exact cq (λx=>by simp[eh]) _);simp[J]at w;subst w;refine⟨u,h7,?_,wm (v:=.sl o8 0 x.nx.length 1) (s':=s5) (by simp) (sG N (Hh u))⟩;simp;exact aC hv
end
def ahv(s:HS):R (.call 196 [] s)=.val (.agg mY.c) s:=by refine afG ?_;simp[U.XE,s0,ah,an,aj];exact aC (Vw.agg (.cons (Vw.sl (l:=[.ai]) (l':=[.psl []]) rfl (.cons .ai .nil) (λ_=>rfl) (λh=>by cases h)) (.cons (Vw.sl (l:=[.bool false]) (l':=[.bool false]) rfl (.data (by simp)) (λ_=>rfl) (λh=>by cases h)) .nil)))
def ahw(u:ck)(e:Eg)(h:e.to<u.length)(s:HS):R (.call 198 [.agg e.c,.ax [.psl (u.map bC)]] s)=.val (.bool (!u.getD e.to false)) s:=by
 refine afI ?_;have b:(e.to:Int)<u.length:=by omega
 rw[getD_at h];simp[U.XF,aa,h]
def ZR(u:ck)(l:bA)(H:l.length<=6000)(A:∀e∈l,e.to<u.length)(s:HS):R (.call 215 [.psl (l.map Eg.c),.fn 198 [] [.ax [.psl (u.map bC)]]] s)=.val (iV (z7 (λe:Eg=> !u.getD e.to false) l)) s:=by
 refine YP ?_ rfl (by simp[eh]);simp[U.SO];generalize z:bK R (.loop U.n6) _ _=o;have B:=jh z l.length (λi=>∀h:i<l.length,(!u.getD l[i].to false)=false) (λi=>[(0,.psl (l.map Eg.c)),(1,.fn 198 [] [.ax [.psl (u.map bC)]]),(7,iV l.length),(8,iV i)]) [] 0 (λi o=>∃w,o=.code .ret w s0/\look w 4=some (iV i)) (by simp)
  (λi e r d k p=>by
   have q:(i:Int)<l.length:=by omega
   have b:=ahw u l[i] (A _ (bX d));simp only[Eg.c]at b;simp only[ab,ae]at k;cases t:(!u.getD l[i].to false)
   .rw[t]at b;simp[U.n6,k,d,q,b,bj (n:=6000) (show i<6000 by omega) (by omega)]at p;subst p;exact .inl ⟨λ_=>t,_,rfl,by simp[k]⟩
   rw[t]at b;simp[U.n6,k,d,q,b]at p;subst p;exact .inr ⟨λh=>(by rw[h d]at t;cases t),by simp,_,rfl,by simp⟩)
  (λe r k p=>by
   simp only[ab,ae]at k;simp[U.n6,k]at p;subst p;exact⟨_,rfl,by simp⟩)
 clear z;rcases B with⟨i,d,C,D,w,rfl,E⟩|⟨v,w,rfl,_⟩
 .have F:(!u.getD l[i].to false)=true:=by
   cases h:(!u.getD l[i].to false)
   .exact absurd (λ_=>h) D
   rfl
  rw[wk d (λj G=>C j G (by omega)) F];simp[E,aa]
 rw[nq (λi d=>v i d d)];simp[aa]
def ZS(u:ck)(l:bA)(q:l.length<=6000)(k:∀e∈l,u[e.to]?=some true){s:HS}{o3 g:Ky}(t:ao s.h o3=some (.cells (cR [.psl (u.map bC)]) 0 1 g)):
  R (.call 197 [.psl (l.map Eg.c),.fn 198 [] [.ptr o3 0]] s)=.val (.psl (l.map Eg.c)) s:=by
 have b:=ZR u l q (λe v=>(aV.1 (k e v)).1);rw[nq (λi w=>by
  obtain⟨z,A⟩:=aV.1 (k _ (bX w));rw[getD_at z,A];rfl)]at b
 have B:R (.call 215 [.psl (l.map Eg.c),.fn 198 [] [.ptr o3 0]] s)=.val (iV (-1)) s:=af2 (by simp[cC,cr]) (.cons (.data (by simp)) (.cons (Vw.fn .nil (.cons (Vw.ptr t rfl (.data (by simp[eh]))) .nil)) .nil)) (by simp[eh]) rfl b;have d:∃j,ev R U.Nd (bn [.psl (l.map Eg.c),.fn 198 [] [.ptr o3 0]] 0) s=.code .ret j s/\look j 4=some (.psl (l.map Eg.c)):=by generalize p:ev R U.Nd (bn [.psl (l.map Eg.c),.fn 198 [] [.ptr o3 0]] 0) s=r;simp[U.Nd,B]at p;subst p;exact⟨_,rfl,by simp⟩
 obtain⟨j,d,C⟩:=d;exact afH rfl ⟨.ret,_,s,d,.inr rfl,by simp[C]⟩
def ZT(l:bA)(b:l.length<=100000)(s:HS):R (.call 203 [.psl (l.map Eg.c)] s)=.val (.psl (l.map Eg.c)) s:=by have:=ahs (l.map Eg.i) (by simpa using b) s;rw[pc]at this;exact this
def ahx(x:Fa)(P:cJ x){s:HS}{aw:bc}{L:cS}{K:dV}(h:aI s aw L K):∃vN vF s' d K',R (.call 167 [.agg x.c] s)=.val (.agg [vN,vF]) s'/\cellsOf vN=some [vN]/\cellsOf vF=some [vF]/\
  aI s' d (L++[(vF,1,x.fi.map bC),(vN,1,x.nx.map oM)]) (K'++K):=by
 have hn:=P.n;have C:=P.nf;have Y:=P.pos;obtain⟨b,t,z⟩:∃b t,x.fi=b::t:=by cases hf:x.fi with|nil=>have h9:=ct List.length hf;simp only[aE]at h9;omega|cons b t=>exact⟨b,t,rfl⟩
 have T:x.fi.map bC=[.bool b]::t.map bC:=by rw[z];rfl
 have D:=h.cY [.ai,.ai];generalize E:HS.mk _ _ _ _=S1 at D;obtain⟨vF,s2,c2,a2,Z,F⟩:=ZK D b t (by rw[z]at C;simp at C;omega);rw[<-z]at F;have G:=F.cY [.ai,.ai];generalize H:HS.mk _ _ _ _=S3 at G;obtain⟨s4,b4,j⟩:=G.put (a:=0) rfl (v:=.agg [.ai,vF]) (new:=[.ai,vF]) (by simp[cellsOf]) rfl;have j:=j.push 1;simp only[aS]at j;rw[show L++[(vF,1,x.fi.map bC)]++[((.ai,1,[]):tR)]=L++[(vF,1,x.fi.map bC),(.ai,1,[])] by simp]at j;simp only[aA,aE,bw,Nat.reduceAdd]at E H b4;have V:∃q s' vN d,ev R U.MT (bn [.agg x.c] 0) s=.code .ret q s'/\look q 2=some (.ptr s.nx 0)/\cellsOf vN=some [vN]/\
   aI s' d (L++[(vF,1,x.fi.map bC),(vN,1,x.nx.map oM)]) ((s2.nx,[vN,vF])::(s.nx,[vN,vF])::K):=by
  generalize u:ev R U.MT (bn [.agg x.c] 0) s=r;simp[U.MT,E,T,a2,Z,H,b4]at u;generalize ho:ev R (.loop U.B3) _ _=o at u;have A:∃(q:En) (s':HS) (aw:bc) (vN:HV),o=.code (.exit 0) q s'/\bO q [(2,.ptr s.nx 0),(3,.ptr s2.nx 0)]/\cellsOf vN=some [vN]/\
    aI s' aw (L++[(vF,1,x.fi.map bC),(vN,1,x.nx.map oM)]) ((s2.nx,[vN,vF])::(s.nx,[.ai,.ai])::K):=by
   refine fG ho x.nx.length
    (λi e s'=>∃(aw:bc) (vN:HV),bO e [(2,.ptr s.nx 0),(3,.ptr s2.nx 0),(11,.psl (x.nx.map oM)),(12,iV x.nx.length),(13,iV i)]/\cellsOf vN=some [vN]/\
     aI s' aw (L++[(vF,1,x.fi.map bC),(vN,1,(x.nx.take i).map oM)]) ((s2.nx,[vN,vF])::(s.nx,[.ai,.ai])::K))
    (λo=>∃(q:En) (s':HS) (aw:bc) (vN:HV),o=.code (.exit 0) q s'/\bO q [(2,.ptr s.nx 0),(3,.ptr s2.nx 0)]/\cellsOf vN=some [vN]/\
     aI s' aw (L++[(vF,1,x.fi.map bC),(vN,1,x.nx.map oM)]) ((s2.nx,[vN,vF])::(s.nx,[.ai,.ai])::K))
    0 (by omega) ⟨c2,.ai,by simp,rfl,j⟩
    (λi e s' r Q ⟨aw,vN,k,B,p⟩ u=>by
     have W:(i:Int)<x.nx.length:=by omega
     have h3:=P.row Q;have I:=ZT x.nx[i] (by omega);have w:=(p.bz 0 s2.nx _ rfl).1.1;obtain⟨X,s5,J,a5,k5,M⟩:=p.append (L.length+1) (Ua _ _ _) (new:=[[.psl (x.nx[i].map Eg.c)]]) (Sz.cons rfl Sz.nil) (by simp) (bx:=5864062014805) (by simp;omega);rw[NR]at M;obtain⟨s6,b6,N⟩:=M.y6 (a:=0) rfl 0 (by simp) k5;simp only[aS]at N;have h1:(x.nx.map oM)[i]?=some [.psl (x.nx[i].map Eg.c)]:=by rw[fW,aO Q];rfl
     simp only[aA,aE,bw,Nat.reduceAdd]at w;simp only[ab,ae]at k;simp[U.B3,k,Q,W,I,w,a5,b6,bj (n:=400) (show i<400 by omega) (by omega)]at u;subst u;refine .inl ⟨_,_,rfl,J,X,by simp[k],k5,?_⟩;rw[eW Q,eD];exact N)
    (λe s' r ⟨aw,vN,k,B,p⟩ u=>by
     simp only[ab,ae]at k;simp[U.B3,k]at u;subst u;rw[j0]at p;exact⟨by simp,_,_,aw,vN,rfl,by simp[k],B,p⟩)
  obtain⟨q,s',d,vN,rfl,k,B,p⟩:=A;have w:=(p.bz 0 s2.nx _ rfl).1.1;obtain⟨s7,b7,O⟩:=p.put (a:=1) rfl (v:=.agg [vN,vF]) (new:=[vN,vF]) (by simp[cellsOf]) rfl;simp only[aS,cb]at O;simp only[aA,aE,bw,Nat.reduceAdd]at w b7;simp only[ab,ae]at k;simp[k,w,aj,b7]at u;subst u;exact⟨_,s7,vN,d,rfl,by simp[k],B,O⟩
 obtain⟨q,s',vN,d,V,h2,B,p⟩:=V;have w:=(p.bz 1 s.nx _ rfl).1.1;refine⟨vN,vF,s',d,[(s2.nx,[vN,vF]),(s.nx,[vN,vF])],afg rfl ⟨.ret,_,s',V,.inr rfl,?_⟩,B,Z,p⟩;simp only[aA,aE,bw,Nat.reduceAdd]at w;simp[h2,w,aj]
def K9(l:ay):Nat:=l.foldl (λa d=>a*10+(d-48)) 0
def IV(l:ay)(d:Nat):K9 (l++[d])=K9 l*10+(d-48):=by simp[K9]
def rJ:∀(f n:Nat),n<10^f->K9 (dR f n)=n
 |0,n,h=>by simp at h;subst h;rfl
 |f+1,n,h=>by
  rw[dR];cases b:Nat.blt n 10
  .have c:=rJ f (n/10) (by rw[Nat.pow_succ]at h;omega);have j:¬n<10:=by intro d;rw[cp.2 d]at b;cases b
   simp only[cond_false];rw[IV,c];omega
  simp only[cond_true];simp[K9]
def jF:∀(f n:Nat),∀d∈dR f n,48<=d/\d<58
 |0,n,d,h=>by cases h
 |f+1,n,d,h=>by
  rw[dR]at h;cases b:Nat.blt n 10
  .rw[b,cond_false]at h;rcases cG.1 h with h|h
   .exact jF f _ d h
   rw[dE.1 h];omega
  rw[b,cond_true]at h;have:n<10:=cp.1 b;rw[dE.1 h];omega
def rK:∀(f n:Nat),(dR f n).length<=f
 |0,n=>aY _
 |f+1,n=>by have:=rK f (n/10);rw[dR];cases Nat.blt n 10<;>simp<;>omega
def gn(n:Int):Prop:= -9223372036854775808<=n/\n<9223372036854775808
def ZU:9223372036854775808<10^25:=by decide
def D4{a b:Int}(j:gn a)(k:gn b)(h:itoa a=itoa b):a=b:=by
 have r:=ZU;have p:∀(n m:Nat),n<=9223372036854775808->m<=9223372036854775808->dR 25 n=dR 25 m->n=m:=by intro n m t u q;rw[<-rJ 25 n (by omega),<-rJ 25 m (by omega),q]
 unfold gn at j k;cases a with
 |ofNat n=>
  cases b with
  |ofNat m=>simp only[nM]at j k;rw[p n m (by omega) (by omega) h]
  |negSucc m=>
   exfalso;have d:dR 25 n=45::dR 25 (m+1):=h;have c:(45:Nat)∈dR 25 n:=by rw[d];exact dy
   have:=jF _ _ _ c;omega
 |negSucc n=>
  cases b with
  |ofNat m=>
   exfalso;have d:45::dR 25 (n+1)=dR 25 m:=h;have c:(45:Nat)∈dR 25 m:=by rw[<-d];exact dy
   have:=jF _ _ _ c;omega
  |negSucc m=>
   have c:dR 25 (n+1)=dR 25 (m+1):=by injection h
   have:=p (n+1) (m+1) (by omega) (by omega) c;rw[show n=m by omega]
def wo(a:Int):∀d∈itoa a,d≠32:=by
 intro d b;cases a with
 |ofNat n=>have:=jF _ _ _ b;omega
 |negSucc n=>
  rcases bm.1 b with h|h
  .omega
  have:=jF _ _ _ h;omega
def zd(a:Int):(itoa a).length<=26:=by cases a with|ofNat n=>have:=rK 25 n;show(dR 25 n).length<=26;omega|negSucc n=>have:=rK 25 (n+1);show(dR 25 (n+1)).length+1<=26;omega
def ft(l:aQ):ay:=l.flatMap λn=>32::itoa n
def wq:∀{a b r j:ay},(∀d∈a,d≠32)->(∀d∈b,d≠32)->(r=[]∨∃t,r=32::t)->(j=[]∨∃t,j=32::t)->a++r=b++j->a=b/\r=j
 |[],[],r,j,_,_,_,_,h=>⟨rfl,h⟩
 |[],d::b,r,j,_,q,u,_,h=>by
  rcases u with rfl|⟨t,rfl⟩
  .cases h
  injection h with p v
  exact(q d (by simp) p.symm).elim
 |d::a,[],r,j,w,_,_,k,h=>by
  rcases k with rfl|⟨t,rfl⟩
  .cases h
  injection h with p v
  exact(w d (by simp) p).elim
 |d::a,c::b,r,j,w,q,u,k,h=>by
  injection h with p v
  obtain⟨A,B⟩:=wq (λx z=>w x (by simp[z])) (λx z=>q x (by simp[z])) u k v;exact⟨by rw[p,A],B⟩
def oj(l:aQ):ft l=[]∨∃t,ft l=32::t:=by cases l with|nil=>exact .inl rfl|cons a l=>exact .inr ⟨_,rfl⟩
def A4:∀{l l':aQ},(∀n∈l,gn n)->(∀n∈l',gn n)->ft l=ft l'->l=l'
 |[],[],_,_,_=>rfl
 |[],b::l',_,_,h=>by cases h
 |a::l,[],_,_,h=>by cases h
 |a::l,b::l',j,c,h=>by
  have k:itoa a++ft l=itoa b++ft l':=by have p:32::(itoa a++ft l)=32::(itoa b++ft l'):=h;injection p
  obtain⟨q,r⟩:=wq (wo a) (wo b) (oj l) (oj l') k;rw[D4 (j a (by simp)) (c b (by simp)) q,A4 (λn d=>j n (by simp[d])) (λn d=>c n (by simp[d])) r]
def eP(cls:aQ)(e:Eg):aQ:=[e.m.id,e.m.arg,e.m.kind,e.m.n,cls.getD e.to 0]
def sH(b:Bool):ay:=if b then [116,114,117,101]else [102,97,108,115,101]
def eZ(x:Fa)(cls:aQ)(p:Nat):ay:=sH (x.fi.getD p false)++(x.nx.getD p []).flatMap λe=>ft (eP cls e)
def kU(cls:aQ)(l:bA):(l.flatMap λe=>ft (eP cls e))=ft (l.flatMap (eP cls)):=by induction l with|nil=>rfl|cons e l b=>rw[ni,b,ni];simp[ft,uc]
def D5(cls:aQ):∀{l l':bA},l.flatMap (eP cls)=l'.flatMap (eP cls)->l.map (λe=>(e.m,cls.getD e.to 0))=l'.map (λe=>(e.m,cls.getD e.to 0))
 |[],[],_=>rfl
 |[],b::l',h=>by simp[eP]at h
 |a::l,[],h=>by simp[eP]at h
 |a::l,b::l',h=>by
  rw[ni,ni]at h;simp only[eP,bB,bD,qU]at h;obtain⟨j,k,p,q,c,d⟩:=h;rw[cL,cL,D5 cls (l:=l) (l':=l') d,c];have:a.m=b.m:=by
   obtain⟨⟨_,_,_,_⟩,_⟩:=a;obtain⟨⟨_,_,_,_⟩,_⟩:=b
   simp_all
  rw[this]
def Gc(x:Fa):Prop:=∀l∈x.nx,∀e∈l,gn e.m.id/\gn e.m.arg/\(0<=e.m.kind/\e.m.kind<256)/\gn e.m.n
def D6{x:Fa}(k:Gc x){cls:aQ}(q:∀c∈cls,gn c){p:Nat}:∀n∈(x.nx.getD p []).flatMap (eP cls),gn n:=by
 intro n d;obtain⟨e,j,d⟩:=uU.1 d;have b:x.nx.getD p []∈x.nx:=by
  rw[dF]at j ⊢;cases h:x.nx[p]?with
  |none=>rw[h]at j;cases j
  |some r=>exact cH h
 obtain⟨t,u,A,v⟩:=k _ b e j;have w:gn (cls.getD e.to 0):=by rw[dF];cases h:cls[e.to]?with|none=>unfold gn;simp|some c=>exact q c (cH h)
 have z:gn e.m.kind:=by unfold gn;omega
 simp only[eP,bm,K6,or_false]at d;rcases d with rfl|rfl|rfl|rfl|rfl
 .exact t
 .exact u
 .exact z
 .exact v
 exact w
def D7{x:Fa}(j:Gc x){cls:aQ}(k:∀c∈cls,gn c){p q:Nat}(h:eZ x cls p=eZ x cls q):
  x.fi.getD p false=x.fi.getD q false/\(x.nx.getD p []).map (λe=>(e.m,cls.getD e.to 0))=(x.nx.getD q []).map (λe=>(e.m,cls.getD e.to 0)):=by
 unfold eZ at h;rw[kU,kU]at h;have r:∀b,∀d∈sH b,d≠32:=by intro b;cases b<;>decide
 obtain⟨t,u⟩:=wq (r _) (r _) (oj _) (oj _) h;refine⟨?_,D5 cls (A4 (D6 j k) (D6 j k) u)⟩;cases v:x.fi.getD p false<;>cases w:x.fi.getD q false<;>rw[v,w]at t<;>first|rfl|(exact absurd t (by decide))
def Gd{s s':HS}{sz bx t dX:Nat}{x B:HV}{new:ak}(h:s.append sz bx none x new dX=.v B s')(H:dX≠0)(I:∀o a b c,x=.sl o a b c->∃m,ao s.ty o=some (t,m)):
  ∃T,s.append sz bx (some t) x new dX=.v B ⟨s'.h,s'.nx,s'.gr,T⟩/\(∃a b c,B=.sl s.nx a b c)/\ao T s.nx=some (t,0)/\∀k,k≠s.nx->ao T k=ao s.ty k:=by
 have F:∀k,k≠s.nx->ao (av (some (t,0)) s.nx s.ty) k=ao s.ty k:=λk J=>by rw[af,aq J]
 have p:Nat.beq dX 0=false:=by
  cases A:Nat.beq dX 0
  .rfl
  exact(H (bh.1 A)).elim
 unfold HS.append at h ⊢;cases x with
 |ai=>
  simp only[p,cond_false]at h ⊢;cases A:Nat.ble dX bx
  .rw[A]at h;cases h
  rw[A]at h;cases h;exact⟨_,rfl,⟨_,_,_,rfl⟩,by rw[show Ez (some t) s=av (some (t,0)) s.nx s.ty from rfl,af,ar rfl],F⟩
 |sl o d len r=>
  obtain⟨m,M⟩:=I o d len r rfl;have u:mf (some t) o s=av (some (t,0)) s.nx s.ty:=by show(match ao s.ty o with|some (N,_)=>bif Nat.beq N t then av (some (t,0)) s.nx s.ty else s.ty|none=>s.ty)=_;rw[M];simp
  simp only[p,cond_false]at h ⊢;rw[u];cases w:Nat.beq sz r
  .simp[w]at h
  simp only[w,oC,cond_false]at h ⊢;cases j:ao s.h o with
  |none=>rw[j]at h;cases h
  |some b=>
   cases b with
   |cells P Q V g=>
    simp only[j]at h ⊢;cases G:ao s.gr g with
    |none=>rw[G]at h;cases h
    |some W=>
     simp only[G]at h ⊢;generalize bP _ _ _ _ _=q at h ⊢;cases C:ao q.1 o with
     |none=>rw[C]at h;cases h
     |some O=>
      cases O with
      |cells X D E Y=>
       simp only[C]at h ⊢;cases z:(jn o q.2&&Nat.ble D d&&Nat.ble (d+len*sz) E&&Nat.ble (len+dX) bx)
       .rw[z]at h;cases h
       rw[z]at h;cases h;exact⟨_,rfl,⟨_,_,_,rfl⟩,by rw[af,ar rfl],F⟩
      |_=>rw[C]at h;cases h
   |_=>rw[j]at h;cases h
 |_=>cases h
section
variable{s:HS}{aw:bc}{L:cS}{K:dV}
def aI.ty(h:aI s aw L K)(T:Tr (Nat×Nat)):aI ⟨s.h,s.nx,s.gr,T⟩ aw L K:=⟨⟨h.mem.bd,h.mem.top,h.mem.own⟩,h.bz,h.nd⟩
def aI.ZV(h:aI s aw L K)(i:Nat){v:HV}{sz:Nat}{au:aR}(p:L[i]?=some (v,sz,au)){new:aR}(q:Sz sz new)(h0:new≠ []){bx:Nat}(z:au.length+new.length<=bx)(t:Nat)(C:∀o a b c,v=.sl o a b c->∃m,ao s.ty o=some (t,m)):
  ∃j s' d,s.append sz bx (some t) v (aD new) new.length=.v j s'/\cellsOf j=some [j]/\aI s' d (L.set i (j,sz,au++new)) K/\(∀o a b c,j=.sl o a b c->∃m,ao s'.ty o=some (t,m))/\(∀k,k.toNat<s.nx.toNat->ao s'.ty k=ao s.ty k)/\s.nx.toNat<=s'.nx.toNat:=by
 obtain⟨j,s',r,D,M,E⟩:=h.mem.wj i p q h0 z;obtain⟨u,w,d,A,N,F⟩:=h.append i p q h0 z;rw[r]at A;obtain⟨rfl,rfl⟩:j=u/\s'=w:=by cases A;exact⟨rfl,rfl⟩
 rw[mX (h.mem.own i _ _ _ p).iS h0 q]at r;obtain⟨T,G,⟨a,b,c,H⟩,I,J⟩:=Gd (t:=t) r (by simpa using h0) C;refine⟨j,_,d,G,D,F.ty T,λo O P Q B=>?_,λk V=>?_,E.1⟩
 .rw[H]at B;cases B;exact⟨0,I⟩
 exact J k (λe=>by subst e;omega)
end
def uC(n:Nat):ak:=[.int .u8 n]
def wu:∀l:ay,aD (l.map uC)=fQ l
 |[]=>rfl
 |n::l=>by rw[cL,dw,wu l];rfl
def ze:∀l:ay,(∀n∈l,n<256)->bytesOf (fQ l)=some l
 |[],_=>rfl
 |n::l,h=>by show(bif Nat.blt n 256 then(match bytesOf (fQ l)with|some l=>some (n::l)|none=>none)else none)=_;rw[ze l (λm b=>h m (by simp[b])),cp.2 (h n (by simp))];rfl
@[simp]def ZW{e:En}{s:HS}{t:Nat}{a b:HV}:cO (.alb t [a,b]) e s=.v (.ptr s.nx 0) {h:=av (some (.cells (cR [a,b]) 0 2 s.nx)) s.nx s.h,nx:=s.nx.succ,gr:=av (some [s.nx]) s.nx s.gr,ty:=av (some (t,2)) s.nx s.ty}:=rfl
def ZX(bx:Nat)(c:bG)(x y:bV)(s:HS):da:=match x,y with
  |some a,some b=>bif iS a then(match b with
   |.str l=>bif Nat.beq (aM l) 0 then .v a s else s.append 1 bx c a (fQ l) (aM l)
   |_=>.bad)else .bad
  |_,_=>.bad
@[simp]def abu{e:En}{s:HS}{bx:Nat}{b:bG}{x y:X}:cO (.aps bx b x y) e s=ZX bx b (bq x e) (bq y e) s:=rfl
def ZY{s:HS}{o:Ky}(h:ao s.ty o=some (211,2))(b:s.cell o 0=some (.ptr o 0)):R (.call 155 [.ptr o 0] s)=.val .undef s:=by refine dB ?_ trivial;show ux LU [.ptr o 0] s=_;unfold ux;simp only[h,b];rw[(Ky.beq_iff o o).2 rfl];rfl
def ZZ{s s':HS}{o:Ky}(h:ao s.ty o=some (211,2))(b:s.cell o 0=some .dZ)(c:s.store o 0 [.ptr o 0]=some s'):R (.call 155 [.ptr o 0] s)=.val .undef s':=by refine dB ?_ trivial;show ux LU [.ptr o 0] s=_;unfold ux;simp only[h,b,c];rfl
def ahy(n:Int)(h:gn n)(s:HS):R (.call 236 [iV n,iV 10] s)=.val (.str (itoa n)) s:=by refine dB ?_ trivial;show wD [iV n,iV 10] s=_;unfold gn at h;cases n with|ofNat n=>show(bif Nat.blt n 9223372036854775808&&Nat.beq 10 10 then Out.val (.str (dR 25 n)) s else .bad 25)=_;rw[cp.2 (by simp only[nM]at h;omega)];rfl|negSucc n=>show(bif Nat.blt n 9223372036854775808&&Nat.beq 10 10 then Out.val (.str (45::dR 25 (Nat.succ n))) s else .bad 25)=_;rw[cp.2 (by omega)];rfl
def ahz(n:Int)(h:gn n)(s:HS):R (.call 228 [iV n] s)=.val (.str (itoa n)) s:=by refine agb ?_;have:=ahy n h;simp[U.XO,this,aa]
def Z0(n:Int)(h:gn n)(s:HS):R (.call 220 [iV n] s)=.val (.str (itoa n)) s:=by refine af6 ?_;have:=ahz n h;simp[U.XJ,this,aa]
def ahA(b:Bool)(s:HS):R (.call 227 [.bool b] s)=.val (.str (sH b)) s:=by
 refine aga ?_;have c:∀s,R (.call 235 [.bool b] s)=.val (.str (sH b)) s:=λs=>by refine agh ?_;cases b<;>simp[U.XS,aa,sH]
 simp[U.XN,c,aa]
structure oq(s:HS)(o:Ky)(p v:HV):Prop where
 ty:ao s.ty o=some (211,2)
 pp:p=.dZ∨p=.ptr o 0
 tv:∀o' a b c,v=.sl o' a b c->∃m,ao s.ty o'=some (5,m)
section
variable{s:HS}{aw:bc}{L:cS}{K:dV}
def aI.NS(h:aI s aw L K){a:Nat}{o:Ky}{c:ak}(b:K[a]?=some (o,c))(k:Nat)(j:k<c.length){x:HV}(p:cellsOf x=some [x]):∃s',qj 1 (some (.ptr o k)) (some x) s=.v .undef s'/\aI s' aw L (K.set a (o,c.set k x))/\s'.ty=s.ty/\s'.nx=s.nx:=by obtain⟨s',q,r,d,t⟩:=(h.bz a o c b).1.set k j x p;exact⟨s',q,h.cell b r d,d.2.1,t⟩
def Uf{a:Nat}{o:Ky}{p v:HV}(d:aI s aw L K)(j:K[a]?=some (o,[p,v]))(k:oq s o p v):∃s',R (.call 155 [.ptr o 0] s)=.val .undef s'/\aI s' aw L (K.set a (o,[.ptr o 0,v]))/\s'.ty=s.ty/\s'.nx=s.nx:=by
 have u:=(d.bz a o _ j).1.1;have c:s.cell o 0=some p:=by rw[B8,u];simp
 rcases k.pp with rfl|rfl
 .obtain⟨s',b,w,z,A⟩:=d.NS j 0 (by simp) (x:=.ptr o 0) rfl;rw[jf]at b;have q:s.store o 0 [.ptr o 0]=some s':=by
   cases t:s.store o 0 [.ptr o 0]with
   |none=>rw[show cellsOf (.ptr o 0)=some [HV.ptr o 0] from rfl]at b;simp only[dO,dM,bf,t]at b;cases b
   |some s2=>rw[show cellsOf (.ptr o 0)=some [HV.ptr o 0] from rfl]at b;simp only[dO,dM,bf,t]at b;cases b;rfl
  exact⟨s',ZZ k.ty c q,w,z,A⟩
 refine⟨s,ZY k.ty c,?_,rfl,rfl⟩;have r:=(aV.1 j);rw[<-r.2,y8];exact d
def La{i:Nat}{v:HV}{l:ay}(q:aI s aw L K)(r:L[i]?=some (v,1,l.map uC))(w:∀o a b c,v=.sl o a b c->∃m,ao s.ty o=some (5,m))(t:ay)(A:l.length+t.length<=140737488355328):
  ∃j s' d,ZX 140737488355328 (some 5) (some v) (some (.str t)) s=.v j s'/\cellsOf j=some [j]/\aI s' d (L.set i (j,1,(l++t).map uC)) K/\(∀o a b c,j=.sl o a b c->∃m,ao s'.ty o=some (5,m))/\(∀k,k.toNat<s.nx.toNat->ao s'.ty k=ao s.ty k)/\s.nx.toNat<=s'.nx.toNat:=by
 have p:=(q.mem.own i _ _ _ r).iS;cases t with
 |nil=>
  refine⟨v,s,aw,?_,(q.mem.own i _ _ _ r).one,?_,w,λ_ _=>rfl,aY _⟩
  .show(bif iS v then(bif Nat.beq (aM ([]:ay)) 0 then da.v v s else _)else .bad)=_;rw[p];rfl
  have u:=(aV.1 r);rw[Co,<-u.2,y8];exact q
 |cons b t=>obtain⟨j,s',d,z,B,C,D,E,F⟩:=q.ZV i r (new:=(b::t).map uC) (Sz.map (f:=uC) (λx=>rfl) _) (by simp) (bx:=140737488355328) (by simpa using A) 5 w;refine⟨j,s',d,?_,B,by rw[eD];exact C,D,E,F⟩;show(bif iS v then(bif Nat.beq (aM (b::t)) 0 then da.v v s else s.append 1 140737488355328 (some 5) v (fQ (b::t)) (aM (b::t)))else .bad)=_;rw[p];show s.append 1 140737488355328 (some 5) v (fQ (b::t)) (aM (b::t))=_;rw[cP];rw[wu,bH]at z;exact z
def Z1{a i:Nat}{o:Ky}{p v:HV}{l:ay}(E:aI s aw L K)(w:K[a]?=some (o,[p,v]))(J:L[i]?=some (v,1,l.map uC))(z:oq s o p v)(t:ay)(M:l.length+t.length<=140737488355328):
  ∃c s' d,R (.call 207 [.ptr o 0,.str t] s)=.val (.bN [iV t.length,.gj]) s'/\aI s' d (L.set i (c,1,(l++t).map uC)) (K.set a (o,[.ptr o 0,c]))/\oq s' o (.ptr o 0) c:=by
 obtain⟨Y,N,j,F,O⟩:=Uf E w z;have A:=(aV.1 w).1;have B:=(E.bz a o _ w).1.2.2;have k:(K.set a (o,[.ptr o 0,v]))[a]?=some (o,[.ptr o 0,v]):=by rw[gF A]
 have G:=(j.bz a o _ k).1.1;obtain⟨c,s2,q,P,Q,C,tv,T,Z⟩:=La j J (by rw[F];exact z.tv) t M;obtain⟨s3,V,b,H,n3⟩:=C.NS k 1 (by simp) Q;rw[Cv]at b;simp only[cb,aS]at b;simp only[aA,aE,bw,Nat.reduceAdd]at G;have D:∃u,ev R U.Fu (bn [.ptr o 0,.str t] 0) s=.code .ret u s3/\look u 4=some (iV t.length)/\look u 5=some .gj:=by generalize I:ev R U.Fu (bn [.ptr o 0,.str t] 0) s=r;simp[U.Fu,N,G,P,V]at I;subst I;exact⟨_,rfl,by simp⟩
 obtain⟨u,D,W,X⟩:=D;refine⟨c,s3,q,YN rfl ⟨.ret,_,s3,D,.inr rfl,by simp[W,X]⟩,b,⟨?_,.inr rfl,by rw[H];exact tv⟩⟩;rw[H,T o (by rw[O];exact B),F];exact z.ty
def ahB{a i:Nat}{o:Ky}{p v:HV}{l:ay}(F:aI s aw L K)(u:K[a]?=some (o,[p,v]))(G:L[i]?=some (v,1,l.map uC))(w:oq s o p v)(b:Nat)(N:l.length+1<=140737488355328):
  ∃j s' k,R (.call 135 [.ptr o 0,.int .u8 b] s)=.val .gj s'/\aI s' k (L.set i (j,1,(l++[b]).map uC)) (K.set a (o,[.ptr o 0,j]))/\oq s' o (.ptr o 0) j:=by
 obtain⟨O,P,c,H,Q⟩:=Uf F u w;have z:=(aV.1 u).1;have A:=(F.bz a o _ u).1.2.2;have q:(K.set a (o,[.ptr o 0,v]))[a]?=some (o,[.ptr o 0,v]):=by rw[gF z]
 have I:=(c.bz a o _ q).1.1;obtain⟨j,s2,t,T,V,B,tv,W,Z⟩:=c.ZV i G (new:=[uC b]) (Sz.cons rfl Sz.nil) (by simp) (bx:=140737488355328) (by simpa using N) 5 (by rw[H];exact w.tv);have C:mW 1 140737488355328 (some 5) (some v) (some (.psl [[.int .u8 b]])) O=.v j s2:=by rw[mX (sz:=1) (au:=[[HV.int .u8 b]]) (c.mem.own i _ _ _ G).iS (by simp) (Sz.cons rfl Sz.nil)];exact T
 obtain⟨s3,X,d,J,n3⟩:=B.NS q 1 (by simp) V;rw[Cv]at d;simp only[cb,aS]at d;simp only[aA,aE,bw,Nat.reduceAdd]at I;have D:∃E,ev R U.MB (bn [.ptr o 0,.int .u8 b] 0) s=.code .ret E s3/\look E 4=some .gj:=by generalize M:ev R U.MB (bn [.ptr o 0,.int .u8 b] 0) s=r;simp[U.MB,P,I,C,X]at M;subst M;exact⟨_,rfl,by simp⟩
 obtain⟨E,D,Y⟩:=D;refine⟨j,s3,t,aeQ rfl ⟨.ret,_,s3,D,.inr rfl,by simp[Y]⟩,by rw[eD];exact d,⟨?_,.inr rfl,by rw[J];exact tv⟩⟩;rw[J,W o (by rw[Q];exact A),H];exact w.ty
end
def Z2(k:IntKind)(v:bV)(s:HS):da:=bU v (λv=>v.asInt (λ_ n=>.v (.int k (bR k n)) s) .bad) .bad
@[simp]def abv{e:En}{s:HS}{k:IntKind}{x:X}:cO (.cnv k x) e s=Z2 k (bq x e) s:=rfl
@[simp]def Z3{s:HS}{k b:IntKind}{n:Int}:Z2 k (some (.int b n)) s=.v (.int k (bR k n)) s:=rfl
def nr:∀l:aQ,(ft l).length<=27*l.length
 |[]=>by simp[ft]
 |a::l=>by
  have c:=nr l;have d:=zd a;have b:(ft (a::l)).length=1+(itoa a).length+(ft l).length:=by show(32::itoa a++ft l).length=_;simp;omega
  rw[b,aA];omega
def Ge(l:aQ)(a:Int):ft (l++[a])=ft l++32::itoa a:=by simp[ft]
def Lb(l:aQ):∀n∈ft l,n<256:=by
 intro n b;obtain⟨a,_,b⟩:=uU.1 b;rcases bm.1 b with rfl|b
 .omega
 cases a with
 |ofNat k=>have:=jF _ _ _ b;omega
 |negSucc k=>
  rcases bm.1 b with rfl|b
  .omega
  have:=jF _ _ _ b;omega
def NU(x:Fa)(cls:aQ)(p:Nat):∀n∈eZ x cls p,n<256:=by
 intro n c;unfold eZ at c;rw[kU]at c;rcases cG.1 c with c|c
 .exact(show∀b,∀n∈sH b,n<256 by intro b;cases b<;>decide) _ n c
 exact Lb _ n c
section
variable{s:HS}{aw:bc}{L:cS}{K:dV}
def aI.Lc(h:aI s aw L K){sz:Nat}{t:aR}(d:Sz sz t):∃b,aI {h:=av (some (.cells (cR (aD t)) 0 (aD t).length s.nx)) s.nx s.h,nx:=s.nx.succ,gr:=av (some [s.nx]) s.nx s.gr,ty:=s.ty} b (L++[(.sl s.nx 0 t.length sz,sz,t)]) K:=by
 have j:=Ky.ba s.nx;refine h.join (di.alloc _ _) (F:=λk=>k=s.nx) ⟨d,λk c=>by subst c;simp only;omega,.inr ⟨s.nx,cR (aD t),(aD t).length,s.nx,[],rfl,?_,by rw[cQ d];exact aY _,by simp,?_,by simp,by simp,rfl⟩⟩ (λk c=>by subst c;exact aY _)
 .simp only;rw[af,ar rfl]
 simp only;rw[af,ar rfl]
def aI.Hi{k:Ky×List HV}(h:aI s aw L (k::K)):aI s aw L K:=
 ⟨h.mem,λa o c j=>h.bz (a+1) o c j,λa b o c d j p=>by have:=h.nd (a+1) (b+1) o c d j p;omega⟩
def aI.pop{x:tR}(h:aI s aw (L++[x]) K):∃d,aI s d L K:=by
 classical
 refine⟨λk=>if aw k=some L.length then none else aw k,⟨λk i b=>?_,λk i b=>?_,λi v u j r=>?_⟩,λa o c t=>⟨(h.bz a o c t).1,by rw[(h.bz a o c t).2];simp⟩,h.nd⟩
 .split at b
  .cases b
  exact h.mem.bd k i b
 .split at b
  .cases b
  rename_i p;have:=h.mem.top k i b;simp at this;have:i≠L.length:=λe=>p (by rw[b,e])
  omega
 have q:=(aV.1 r).1;have w:=h.mem.own i v u j (by rw[ek q];exact r);have:(λk=>(if aw k=some L.length then none else aw k)=some i)=λk=>aw k=some i:=by
  funext k
  by_cases b:aw k=some L.length
  .rw[ar b,b];simp;omega
  rw[aq b]
 rw[this];exact w
def ahC{a i:Nat}{o:Ky}{p v:HV}{l:ay}(k:aI s aw L K)(u:K[a]?=some (o,[p,v]))(w:L[i]?=some (v,1,l.map uC))(z:oq s o p v)(h0:l≠ [])(A:l.length<=4611686018427387904)(B:∀n∈l,n<256):
  ∃s',R (.call 136 [.ptr o 0] s)=.val (.str l) s':=by
 have C:=(k.bz a o _ u).1.1;have j:=k.mem.own i _ _ _ w;obtain⟨q,rfl⟩:=j.fY (by intro h;exact h0 (Gb.1 h));obtain⟨m,D⟩:=z.tv _ _ _ _ rfl;have b:=j.cells.2;rcases j.2.2 with⟨h,_⟩|⟨H,t,E,g,c,F,r,I,J,G,_⟩
 .cases h
 cases F;refine⟨{h:=fB s.h (q::c),nx:=s.nx,gr:=s.gr,ty:=s.ty},dB ?_ trivial⟩;show mj LU [.ptr o 0] s=_;unfold mj;have d:s.load o 1 none=some (.sl q 0 (l.map uC).length 1):=by show s.cell o 1=_;rw[B8,C];simp
 have hlen:0<l.length:=yB.2 h0;rw[bH]at d b;rw[hU,wu,r]at b;simp only[d,D,iv,b,ze l B,r,G];rw[show Nat.beq 5 LU.I5=true from rfl,cp.2 hlen,show Nat.ble l.length 4611686018427387904=true from Af A];rfl
end
def Z4{sI:aQ}(X:sI.length=5)(H:∀n∈sI,gn n){l:ay}(Y:l.length<=1000000){e:En}{s:HS}{o:Out}{b o9 o47:Ky}{z:ak}{pp v v1 v2 v3 v23 v24 v25:HV}{aw:bc}
  (c:bO e [(1,v1),(2,v2),(3,v3),(7,.ptr b 0),(23,v23),(24,v24),(25,v25),(47,.sl o47 0 5 1),(48,iV 5),(49,iV 0)])
  (d:aI s aw [(v,1,l.map uC),(.sl o47 0 5 1,1,sI.map iC)] [(o9,z),(b,[pp,v])])(p:oq s b pp v)(I:bK R (.loop U.yg) e s=o):
  ∃(e':En) (s':HS) (aw:bc) (pp v:HV),o=.code (.exit 2) e' s'/\bO e' [(1,v1),(2,v2),(3,v3),(7,.ptr b 0),(23,v23),(24,v24),(25,v25)]/\
   aI s' aw [(v,1,(l++ft sI).map uC),(.sl o47 0 5 1,1,sI.map iC)] [(o9,z),(b,[pp,v])]/\oq s' b pp v:=by
 refine aX I 5
  (λj e s=>∃(aw:bc) (pp v:HV),bO e [(1,v1),(2,v2),(3,v3),(7,.ptr b 0),(23,v23),(24,v24),(25,v25),(47,.sl o47 0 5 1),(48,iV 5),(49,iV j)]/\
   aI s aw [(v,1,(l++ft (sI.take j)).map uC),(.sl o47 0 5 1,1,sI.map iC)] [(o9,z),(b,[pp,v])]/\oq s b pp v)
  (λo=>∃(e':En) (s':HS) (aw:bc) (pp v:HV),o=.code (.exit 2) e' s'/\bO e' [(1,v1),(2,v2),(3,v3),(7,.ptr b 0),(23,v23),(24,v24),(25,v25)]/\
   aI s' aw [(v,1,(l++ft sI).map uC),(.sl o47 0 5 1,1,sI.map iC)] [(o9,z),(b,[pp,v])]/\oq s' b pp v)
  0 (by omega) ⟨aw,pp,v,c,by simpa[ft]using d,p⟩
  (λj e s r G ⟨aw,pp,v,c,d,p⟩ q=>by
   have A:(j:Int)<5:=by omega
   have k:j<sI.length:=by omega
   have B:=aO k;have J:=d.mem.own 1 _ _ _ rfl;have M:=wi J B;have N:=H _ (bX k);have t:=Z0 _ N;have C:=nr (sI.take j);have O:=zd sI[j];rw[oX]at C;obtain⟨Z,P,c1,D,u,E⟩:=ahB (a:=1) (i:=0) d rfl rfl p 32 (by rw[cE];omega);simp only[aS,cb]at u;have D:R (.call 135 [.ptr b 0,.int .u8 32] s)=.val .gj P:=D;obtain⟨Q,s2,T,V,w,F⟩:=Z1 (a:=1) (i:=0) u rfl rfl E (itoa sI[j]) (by simp only[cE,aA,aE];omega);simp only[aS,cb]at w;have W:=bj (n:=5) G (by omega);simp only[ab,ae]at c;simp[U.yg,c,G,A,M,D,t,V,W]at q;subst q;refine .inl ⟨_,_,rfl,T,_,Q,by simp[c],?_,F⟩;rw[eW k,Ge];simpa using w)
  (λe s r ⟨aw,pp,v,c,d,p⟩ q=>by
   simp only[ab,ae]at c;simp[U.yg,c]at q;subst q;rw[iZ (by omega)]at d;exact⟨by simp,_,_,aw,pp,v,rfl,by simp[c],d,p⟩)
def Z5{x:Fa}(hx:cJ x)(hs:Gc x){cls:aQ}(h8:cls.length=x.nx.length)(Q:∀c∈cls,gn c){p:Nat}(O:p<x.nx.length){e:En}{s:HS}{o:Out}{d:Ky}{pp v:HV}{aw:bc}
  (u:bO e [(1,iV p),(2,.psl (cls.map iC)),(3,.ax x.c),(7,.ptr d 0),(23,.psl (x.nx[p].map Eg.c)),(24,iV x.nx[p].length),(25,iV 0)])
  (G:aI s aw [(v,1,(sH (x.fi.getD p false)).map uC)] [(d,[pp,v])])(A:oq s d pp v)(P:bK R (.loop U.yh) e s=o):
  ∃(e':En) (s':HS) (aw:bc) (pp v:HV),o=.code (.exit 0) e' s'/\bO e' [(7,.ptr d 0)]/\
   aI s' aw [(v,1,(eZ x cls p).map uC)] [(d,[pp,v])]/\oq s' d pp v:=by
 have h9:=hx.row O;have ha:(sH (x.fi.getD p false)).length<=5:=by cases x.fi.getD p false<;>decide
 have hlen:∀k,k<=x.nx[p].length->((x.nx[p].take k).flatMap (eP cls)).length=5*k:=by
  intro k
  induction k with|zero=>intro _;simp|succ k ih=>intro H;rw[eW (show k<x.nx[p].length by omega),uc,cE,ih (by omega)];simp[eP];omega
 refine aX P x.nx[p].length
  (λk e s=>∃(aw:bc) (pp v:HV),bO e [(1,iV p),(2,.psl (cls.map iC)),(3,.ax x.c),(7,.ptr d 0),(23,.psl (x.nx[p].map Eg.c)),(24,iV x.nx[p].length),(25,iV k)]/\
   aI s aw [(v,1,(sH (x.fi.getD p false)++ft ((x.nx[p].take k).flatMap (eP cls))).map uC)] [(d,[pp,v])]/\oq s d pp v)
  (λo=>∃(e':En) (s':HS) (aw:bc) (pp v:HV),o=.code (.exit 0) e' s'/\bO e' [(7,.ptr d 0)]/\
   aI s' aw [(v,1,(eZ x cls p).map uC)] [(d,[pp,v])]/\oq s' d pp v)
  0 (by omega) ⟨aw,pp,v,u,by simpa[ft]using G,A⟩
  (λk e s r H ⟨aw,pp,v,u,G,A⟩ B=>by
   have T:(k:Int)<x.nx[p].length:=by omega
   have V:=aO H;have hb:=hx.to _ (bX O) _ (bX H);obtain⟨q1,q2,q3,q4⟩:=hs _ (bX O) _ (bX H);have W:(x.nx[p].map Eg.c)[k]?=some (x.nx[p][k]).c:=by rw[fW,V];rfl
   generalize he:x.nx[p][k]=b at*;have X:=nr ((x.nx[p].take k).flatMap (eP cls));rw[hlen k (by omega)]at X;have j:b.to<cls.length:=by omega
   have h7:(b.to:Int)<cls.length:=by omega
   have hd:=aO j;have Y:bR .i64 b.m.kind=b.m.kind:=bM (by omega) (by omega);have C:=G.cY b.c;have D:=(C.bz 0 _ _ rfl).1.1;have w:oq {h:=av (some (.cells (cR b.c) 0 b.c.length s.nx)) s.nx s.h,nx:=s.nx.succ,gr:=av (some [s.nx]) s.nx s.gr,ty:=s.ty} d pp v:=⟨A.ty,A.pp,A.tv⟩;generalize I:HS.mk _ _ _ _=z at C D w;obtain⟨c2,q⟩:=C.Lc (sz:=1) (t:=(eP cls b).map iC) (Sz.map (f:=iC) (λ_=>rfl) _);have E:=(q.bz 0 _ _ rfl).1.1;have Z:aD ((eP cls b).map iC)=[iV b.m.id,iV b.m.arg,iV b.m.kind,iV b.m.n,iV cls[b.to]]:=by simp only[eP,cL,qX,dw,mV,getD_at j];rfl
   rw[Z]at q E;have J:oq {h:=av (some (.cells (cR [iV b.m.id,iV b.m.arg,iV b.m.kind,iV b.m.n,iV cls[b.to]]) 0 [iV b.m.id,iV b.m.arg,iV b.m.kind,iV b.m.n,iV cls[b.to]].length z.nx)) z.nx z.h,nx:=z.nx.succ,gr:=av (some [z.nx]) z.nx z.gr,ty:=z.ty} d pp v:=⟨w.ty,w.pp,w.tv⟩;generalize M:HS.mk _ _ _ _=S2 at q E J;simp only[bB,bD]at q;simp only[Eg.c,aA,aE,bw,Nat.reduceAdd,iV]at D E I M W;simp only[ab,ae]at u;simp[U.yh,u,H,T,he,I,D,ah,an,j,Y,M]at B;generalize P:bK R (.loop U.yg) _ _=o at B;have h1:∀n∈eP cls b,gn n:=by
    have N:gn b.m.kind:=by unfold gn;omega
    intro n hn;simp only[eP,bm,K6,or_false,getD_at j]at hn;rcases hn with rfl|rfl|rfl|rfl|rfl
    .exact q1
    .exact q2
    .exact N
    .exact q4
    exact Q _ (bX j)
   obtain⟨e2,s3,c3,h2,v3,rfl,F,h3,h4⟩:=Z4 (sI:=eP cls b) rfl h1 (l:=sH (x.fi.getD p false)++ft ((x.nx[p].take k).flatMap (eP cls))) (o9:=s.nx) (o47:=z.nx) (v1:=iV p) (v2:=.psl (cls.map iC)) (v3:=.ax x.c) (v23:=.psl (x.nx[p].map Eg.c)) (v24:=iV x.nx[p].length) (v25:=iV k) (by rw[cE];omega) (by simp[u]) (by simpa[eP]using q) J P;clear P;have hw:=bj (n:=6000) (show k<6000 by omega) (by omega);simp only[ab,ae]at F;simp[F,hw]at B;subst B;obtain⟨c4,h5⟩:=aI.pop (L:=[(v3,1,_)]) h3;refine .inl ⟨_,_,rfl,c4,h2,v3,by simp[F],?_,h4⟩;have h6:=h5.Hi;rw[eW H,uc,he];simpa[ft,uc]using h6)
  (λe s r ⟨aw,pp,v,u,G,A⟩ B=>by
   simp only[ab,ae]at u;simp[U.yh,u]at B;subst B;refine⟨by simp,_,_,aw,pp,v,rfl,by simp[u],?_,A⟩;unfold eZ;rw[kU,getD_at O];rw[j0]at G;exact G)
def Z6{x:Fa}(u:cJ x)(J:Gc x){cls:aQ}(w:cls.length=x.nx.length)(z:∀c∈cls,gn c){p:Nat}(t:p<x.nx.length)(s:HS):R (.call 219 [.agg x.c,iV p,.psl (cls.map iC)] s)=.val (.str (eZ x cls p)) s:=by
 refine af5 ?_;have M:=u.nf;have N:(p:Int)<x.nx.length:=by omega
 have d:p<x.fi.length:=by omega
 have F:(p:Int)<x.fi.length:=by omega
 have j:=ahA (x.fi[p]);have h0:aI s0 (λ_=>none) [] []:=⟨dT.start (by simp),by simp,by simp⟩;have k:=(((h0.cY [.dZ,.ai]).ty (av (some (211,2)) s0.nx s0.ty)).push 1);have A:oq (HS.mk (av (some (.cells (cR [.dZ,.ai]) 0 2 s0.nx)) s0.nx s0.h) s0.nx.succ (av (some [s0.nx]) s0.nx s0.gr) (av (some (211,2)) s0.nx s0.ty)) s0.nx .dZ .ai:=⟨by simp only;rw[af,ar rfl],.inl rfl,λo a b c h=>by cases h⟩;simp only[bD,aA,aE,bw,Nat.reduceAdd]at k;obtain⟨O,T,V,G,q,B⟩:=Z1 (a:=0) (i:=0) (l:=[]) k rfl rfl A (sH x.fi[p]) (by cases x.fi[p]<;>decide);simp only[aS,bD]at q;simp[U.XI,t,d,j,G];generalize H:bK R (.loop U.yh) _ _=o;obtain⟨W,s2,X,pp,v,rfl,I,C,D⟩:=Z5 u J w z t (pp:=.ptr s0.nx 0) (v:=O) (by simp) (by rw[getD_at d];exact q) B H;clear H;have E:eZ x cls p≠ []:=by unfold eZ;cases x.fi.getD p false<;>simp[sH]
 have hlen:(eZ x cls p).length<=4611686018427387904:=by
  have P:=u.row t;unfold eZ;rw[kU,getD_at t,cE];have G:=nr (x.nx[p].flatMap (eP cls));have Y:(x.nx[p].flatMap (eP cls)).length=5*x.nx[p].length:=by
   generalize x.nx[p]=l
   induction l with|nil=>rfl|cons a l Q=>rw[ni,cE,Q];simp[eP];omega
  have Z:(sH (x.fi.getD p false)).length<=5:=by cases x.fi.getD p false<;>decide
  omega
 obtain⟨s3,r⟩:=ahC (a:=0) (i:=0) C rfl rfl D E hlen (NU x cls p);simp only[ab,ae]at I;simp[I,r,aa]
def lG{α:Type}(f:α->HV):List α->Nat->List (HV×HV)
 |[],_=>[]
 |k::r,i=>(f k,iV i)::lG f r (i+1)
def D8{α:Type}(f:α->HV)(k:α):∀(l:List α) (i:Nat),lG f (l++[k]) i=lG f l i++[(f k,iV (i+l.length:Nat))]
 |[],i=>by simp[lG]
 |x::r,i=>by have h:=D8 f k r (i+1);simp only[bB,lG,aA];rw[h,show i+1+r.length=i+(r.length+1) by omega]
def Hj{α:Type}(f:α->HV):∀(l:List α) (i:Nat),(lG f l i).length=l.length
 |[],_=>rfl
 |k::r,i=>by simp[lG,Hj f r]
abbrev KS:Kd:=⟨false,[2]⟩
def Hk(a b:ay):qB KS (.str a) (.str b)=some (decide (a=b)):=by show some (qx a b)=_;rw[sj]
section
variable{α:Type}[DecidableEq α][BEq α][LawfulBEq α]{f:α->HV}{K:Kd}
def Ld(c:∀a b,qB K (f a) (f b)=some (decide (a=b)))(t:α):∀(l:List α) (i n:Nat),∃m,de K (lG f l i) (f t) n=some (m,if t∈l then some (iV (i+l.idxOf t:Nat))else none)
 |[],i,n=>⟨n,by simp[lG,de]⟩
 |x::r,i,n=>by
  rw[lG,de,c];by_cases h:t=x
  .subst h;exact⟨n,by simp⟩
  rw[cu h];obtain⟨m,j⟩:=Ld c t r (i+1) (n+1);refine⟨m,?_⟩;simp only[j,bm,h,false_or];have d:(x==t)=false:=by simpa using λe=>h e.symm
  rw[List.idxOf_cons,d,cond_false]
  split
  .rw[show i+1+r.idxOf t=i+(r.idxOf t+1) by omega]
  rfl
variable{s:HS}{o:Ky}{l:List α}
def lkK(c:∀a b,qB K (f a) (f b)=some (decide (a=b)))(d:∀a,qC K (f a)=true)(h:ao s.h o=some (.mp (lG f l 0)))(t:α):
  VO K (some (.mp o)) (some (f t)) (iV 0) true s=.v (.bN [iV (if t∈l then(l.idxOf t:Nat)else 0:Nat),.bool (decide (t∈l))]) s:=by
 obtain⟨m,j⟩:=Ld c t l 0 0;show(bif qC K (f t)then(match ao s.h o with
   |some (.mp es)=>(match de K es (f t) 0 with
    |some (_,some v)=>da.v (.bN [v,.bool true]) s
    |some (_,none)=>.v (.bN [iV 0,.bool false]) s
    |none=>.bad)
   |_=>.bad)else .bad)=_
 rw[d,h];simp only[j,cond_true];by_cases k:t∈l<;>simp[k]
def muK(c:∀a b,qB K (f a) (f b)=some (decide (a=b)))(d:∀a,qC K (f a)=true)(h:ao s.h o=some (.mp (lG f l 0))){t:α}(j:t ∉ l):
  OQ K (some (.mp o)) (some (f t)) (some (iV l.length)) s=.v .undef (s.aK o (.mp (lG f (l++[t]) 0))):=by
 obtain⟨m,k⟩:=Ld c t l 0 0;show(bif qC K (f t)then(match ao s.h o with
   |some (.mp es)=>(match de K es (f t) 0 with
    |some (i,some _)=>da.v .undef (s.aK o (.mp (lJ es i (iV l.length))))
    |some (_,none)=>.v .undef (s.aK o (.mp (es++[(f t,iV l.length)])))
    |none=>.bad)
   |_=>.bad)else .bad)=_
 rw[d,h];simp only[k,cond_true,j,bp];rw[D8,bw]
def Z7(h:ao s.h o=some (.mp (lG f l 0))):yr 2 (some (.mp o)) s=.v (iV l.length) s:=by show bU (match ao s.h o with|some (.mp es)=>some (aM es)|_=>none) (λn=>da.v (.int .i64 (.ofNat n)) s) .bad=_;rw[h];simp only[dO,cP,Hj];rfl
end
structure dN(s:HS)(aw:bc)(L:cS)(K:dV)(o:Ky)(es:List (HV×HV)):Prop where
 k:aI s aw L K
 mp:ao s.h o=some (.mp es)
 lt:o.toNat<s.nx.toNat
 co:aw o=none
section
variable{s:HS}{aw:bc}{L:cS}{K:dV}{o:Ky}{es:List (HV×HV)}
def dN.append(h:dN s aw L K o es)(i:Nat){v:HV}{sz:Nat}{au:aR}(u:L[i]?=some (v,sz,au)){new:aR}(w:Sz sz new)(h0:new≠ []){bx:Nat}(z:au.length+new.length<=bx):
  ∃b s' d,mW sz bx none (some v) (some (.psl new)) s=.v b s'/\cellsOf b=some [b]/\dN s' d (L.set i (b,sz,au++new)) K o es:=by
 obtain⟨b,s',A,B,C,j⟩:=h.k.mem.wj i u w h0 z;have q:=h.lt;refine⟨b,s',_,A,B,⟨C,λa p c D=>?_,h.k.nd⟩,?_,ej h.lt j.1,by rw[aq λe=>by subst e;omega];exact h.co⟩
 .obtain⟨r,t⟩:=h.k.bz a p c D;have q:=r.2.2;exact⟨r.frame j (by rw[t];simp),by rw[aq λe=>by subst e;omega];exact t⟩
 rw[j.2.2.1 o h.lt (by show¬aw o=some i;rw[h.co];simp)];exact h.mp
def dN.jg(h:dN s aw L K o es)(i:Nat){v:HV}{au:aR}(p:L[i]?=some (v,1,au))(j:Nat)(q:j<au.length){x:HV}(r:cellsOf x=some [x]):
  ∃b s',FD (some v) (some (.int .i64 (j:Int))) 1 s=.v (.ptr b (j*1)) s/\qj 1 (some (.ptr b (j*1))) (some x) s=.v .undef s'/\dN s' aw (L.set i (v,1,au.set j [x])) K o es:=by
 obtain⟨b,s',t,u,D,A,B⟩:=(h.k.mem.own i v 1 au p).jg j q x r;obtain⟨c,d,w,z,C⟩:=h.k.jg i p j q r;rw[t]at w;obtain rfl:b=c:=by cases w;rfl
 rw[u]at z;obtain rfl:s'=d:=by cases z;rfl
 exact⟨b,s',t,u,C,by rw[A.2.2.1 o h.lt (by show¬aw o=some i;rw[h.co];simp)];exact h.mp,by rw[B];exact h.lt,h.co⟩
def dN.ne(h:dN s aw L K o es){a:Nat}{p:Ky}{c:ak}(b:K[a]?=some (p,c)):o≠p:=by intro e;subst e;have:=(h.k.bz a o c b).1.1;rw[h.mp]at this;cases this
def dN.y6(h:dN s aw L K o es){a:Nat}{p:Ky}{c:ak}(b:K[a]?=some (p,c))(k:Nat)(j:k<c.length){x:HV}(q:cellsOf x=some [x]):∃s',qj 1 (some (.ptr p k)) (some x) s=.v .undef s'/\dN s' aw L (K.set a (p,c.set k x)) o es:=by obtain⟨s',r,t,d,u⟩:=(h.k.bz a p c b).1.set k j x q;exact⟨s',r,h.k.cell b t d,by rw[d.2.2.1 o h.lt (h.ne b)];exact h.mp,by rw[u];exact h.lt,h.co⟩
def dN.cY(h:dN s aw L K o es)(c:ak):dN {h:=av (some (.cells (cR c) 0 c.length s.nx)) s.nx s.h,nx:=s.nx.succ,gr:=av (some [s.nx]) s.nx s.gr,ty:=s.ty} aw L ((s.nx,c)::K) o es:=by have b:=Ky.ba s.nx;have:=h.lt;refine⟨h.k.cY c,?_,by simp only;omega,h.co⟩;simp only;rw[af,aq λe=>by subst e;omega];exact h.mp
def dN.put(h:dN s aw L K o es)(b:List (HV×HV)):dN (s.aK o (.mp b)) aw L K o b:=by have j:di (λk=>k=o) s (s.aK o (.mp b)):=di.aK rfl;refine⟨⟨⟨λk i d=>ej (h.k.mem.bd k i d) j.1,h.k.mem.top,λi v t q u=>(h.k.mem.own i v t q u).frame j (λk d e=>?_)⟩,λa p c r=>⟨(h.k.bz a p c r).1.frame j (λe=>h.ne r e.symm),(h.k.bz a p c r).2⟩,h.k.nd⟩,by rw[dU,ar rfl],ej h.lt j.1,h.co⟩;have d:aw k=some i:=d;subst e;rw[h.co]at d;cases d
def aI.mkm(h:aI s aw L K):dN {h:=av (some (.mp [])) s.nx s.h,nx:=s.nx.succ,gr:=s.gr,ty:=s.ty} aw L K s.nx []:=by have b:=Ky.ba s.nx;have c:di (λ_=>False) s {h:=av (some (.mp [])) s.nx s.h,nx:=s.nx.succ,gr:=s.gr,ty:=s.ty}:=⟨by simp only;omega,rfl,λp d _=>by simp only;rw[af,aq λe=>by subst e;omega],λp d _=>rfl⟩;refine⟨h.frame c,by simp only;rw[af,ar rfl],by simp only;omega,?_⟩;cases j:aw s.nx with|none=>rfl|some i=>have:=h.mem.bd _ _ j;omega
def dN.tail{k:Ky×List HV}(h:dN s aw L (k::K) o es):dN s aw L K o es:=⟨h.k.Hi,h.mp,h.lt,h.co⟩
end
def CH(ss:dH)(t:ay):dH:=if t∈ss then ss else ss++[t]
def Z8{s:HS}{o:Ky}{ss:dH}(j:ao s.h o=some (.mp (lG HV.str ss 0)))(z:ss.length<=1000000)(t:ay):
  ∃s',R (.call 218 [.mp o,.str t] s)=.val (iV (ss.idxOf t)) s'/\s'=if t∈ss then s else s.aK o (.mp (lG HV.str (CH ss t) 0)):=by
 have c:=lkK (K:=KS) Hk (λ_=>rfl) j t;have k:∃p s',ev R U.J6 (bn [.mp o,.str t] 0) s=.code .ret p s'/\look p 4=some (iV (ss.idxOf t))/\s'=if t∈ss then s else s.aK o (.mp (lG HV.str (CH ss t) 0)):=by
  generalize d:ev R U.J6 (bn [.mp o,.str t] 0) s=r;by_cases b:t∈ss
  .simp only[b,bf,eV,iV]at c;simp[U.J6,c]at d;subst d;exact⟨_,_,rfl,by simp[b]⟩
  have q:=muK (K:=KS) Hk (λ_=>rfl) j b;have u:=Z7 j;simp only[b,bp,lb,iV]at c;simp only[iV]at q u;simp[U.J6,c,q,u]at d;subst d;refine⟨_,_,rfl,?_,by simp[b,CH]⟩;rw[Le b];simp
 obtain⟨p,s',k,v,w⟩:=k;exact⟨s',af4 rfl ⟨.ret,_,s',k,.inr rfl,by simp[v]⟩,w⟩
def Gf{n:Int}:cellsOf (iV n)=some [iV n]:=rfl
def Hl{s s':HS}{o:Ky}{k:Nat}{n:Int}(h:qj 1 (some (.ptr o k)) (some (iV n)) s=.v .undef s'):kM s (ao s.h o) o k [iV n]=some s':=by
 rw[jf,Gf]at h;simp only[dO,dM,bf,lv]at h;cases b:kM s (ao s.h o) o k [iV n]with
 |none=>rw[b]at h;cases h
 |some s2=>rw[b]at h;cases h;rfl
def pX{s:HS}{a b:ay}(h:a.length+b.length<=9223372036854775807):n8 false .add (some (.str a)) (some (.str b)) s=.v (.str (a++b)) s:=by show rv s (gP (Nat.ble (Nat.add (aM a) (aM b)) 9223372036854775807) (some (.str (a++b))) none)=_;rw[cP,cP,show Nat.ble (Nat.add a.length b.length) 9223372036854775807=true from Af h];rfl
def Hn{α β γ:Type}{f:α->β}{g:α->γ}:∀{l l':List α},l.map f=l'.map f->(∀a∈l,∀b∈l',f a=f b->g a=g b)->l.map g=l'.map g
 |[],[],_,_=>rfl
 |[],b::l',h,_=>by cases h
 |a::l,[],h,_=>by cases h
 |a::l,b::l',h,c=>by
  rw[cL,cL]at h;injection h with d j
  rw[cL,cL,c a (by simp) b (by simp) d,Hn j λx k y p=>c x (by simp[k]) y (by simp[p])]
structure sJ(x:Fa)(cls:aQ)(P:aG):Prop where
 len:cls.length=x.nx.length
 sm:∀c∈cls,-1<=c/\c<=400
 eq:∀p q:Nat,P p->P q->cls.getD p 0=cls.getD q 0->x.fi.getD p false=x.fi.getD q false/\(x.nx.getD p []).map (λe=>(e.m,cls.getD e.to 0))=(x.nx.getD q []).map (λe=>(e.m,cls.getD e.to 0))
def tx(x:Fa)(b:aQ)(p:Nat):ay:=itoa (b.getD p 0)++[32]++eZ x b p
def Lf{x:Fa}(r:Gc x){b:aQ}(j:∀c∈b,gn c){p q:Nat}(h:tx x b p=tx x b q):b.getD p 0=b.getD q 0/\
  x.fi.getD p false=x.fi.getD q false/\(x.nx.getD p []).map (λe=>(e.m,b.getD e.to 0))=(x.nx.getD q []).map (λe=>(e.m,b.getD e.to 0)):=by
 have k:∀p,gn (b.getD p 0):=by intro p;rw[dF];cases h:b[p]?with|none=>unfold gn;simp|some c=>exact j c (cH h)
 unfold tx at h;rw[yG,yG]at h;obtain⟨t,d⟩:=wq (wo _) (wo _) (.inr ⟨_,rfl⟩) (.inr ⟨_,rfl⟩) h;have u:eZ x b p=eZ x b q:=by have d:32::eZ x b p=32::eZ x b q:=d;injection d
 exact⟨D4 (k p) (k q) t,D7 r j u⟩
structure LX(T:Nat->ay)(n i:Nat)(ss:dH)(fs:ay)(nt:aQ):Prop where
 len:nt.length=n
 le:ss.length<=i
 fl:fs.length=ss.length
 fb:∀k,(h:k<fs.length)->fs[k]<i/\nt[fs[k]]?=some (k:Int)
 cl:∀j,j<i->∃k:Nat,nt[j]?=some (k:Int)/\ss[k]?=some (T j)
 sm:∀c∈nt,0<=c/\c<=n
def LX.step{T:Nat->ay}{n i:Nat}{ss:dH}{d:ay}{w:aQ}(h:LX T n i ss d w)(H:i<n):
  ∃B,LX T n (i+1) (CH ss (T i)) B (w.set i (ss.idxOf (T i):Nat)):=by
 have D:=h.len;have hle:=h.le;have E:ss.idxOf (T i)<=ss.length:=Ug;have t:∀c∈w.set i ((ss.idxOf (T i):Nat):Int),0<=c/\c<=n:=by
  intro c F;rcases qL F with p|p
  .exact h.sm c p
  omega
 have b:∀(v:Int) (k:Nat) (z:k<d.length),d[k]<i+1/\(w.set i v)[d[k]]?=some (k:Int):=by intro v k z;obtain⟨p,r⟩:=h.fb k z;exact⟨by omega,by rw[ju (by omega)];exact r⟩
 unfold CH;by_cases A:T i∈ss
 .rw[ar A];refine⟨d,by simp[D],by omega,h.fl,b _,λj G=>?_,t⟩;by_cases q:j=i
  .subst q;refine⟨_,gF (by omega),?_⟩;rw[aO (Uh A),Ui]
  obtain⟨k,p,r⟩:=h.cl j (by omega);exact⟨k,by rw[ju (by omega)];exact p,r⟩
 rw[aq A];have hid:ss.idxOf (T i)=ss.length:=Le A;refine⟨d++[i],by simp[D],by simp;omega,by simp[h.fl],λk z=>?_,λj G=>?_,t⟩
 .by_cases u:k<d.length
  .rw[DS u];exact b _ k u
  have C:k=d.length:=by simp at z;omega
  subst C;rw[Gg (aY _)];simp only[lg,yL];exact⟨by omega,by rw[gF (by omega),hid,h.fl]⟩
 by_cases q:j=i
 .subst q;refine⟨_,gF (by omega),?_⟩;rw[hid,gu (aY _)];simp
 obtain⟨k,p,r⟩:=h.cl j (by omega);exact⟨k,by rw[ju (by omega)];exact p,by rw[ek (aV.1 r).1];exact r⟩
def LX.TM{T:Nat->ay}{n:Nat}{ss:dH}{b:ay}{c:aQ}(h:LX T n n ss b c):OU n c b:=
 ⟨h.len,λj d=>by obtain⟨k,p,q⟩:=h.cl j d;exact⟨k,p,by rw[h.fl];exact(aV.1 q).1⟩,h.fb⟩
def LX.tx{T:Nat->ay}{n:Nat}{ss:dH}{p:ay}{b:aQ}(h:LX T n n ss p b){i j:Nat}(q:i<n)(r:j<n)(c:b[i]?=b[j]?):T i=T j:=by
 obtain⟨k,t,u⟩:=h.cl i q;obtain⟨v,w,d⟩:=h.cl j r;rw[t,w]at c;have:k=v:=by have:=kH c;omega
 subst this;rw[u]at d;exact kH d
section
variable{x:Fa}
def Z9(J:cJ x)(hs:Gc x){b:aQ}(M:b.length=x.nx.length)(C:∀c∈b,gn c){e:En}{s:HS}{o:Out}{o3 o5 o6:Ky}{v2 v4:HV}{aw:bc}
  (p:bO e [(1,.ax x.c),(2,v2),(3,.sl o3 0 x.nx.length 1),(4,v4),(5,.mp o5),(6,.sl o6 0 x.nx.length 1),(17,iV x.nx.length),(18,iV 0)])
  (t:dN s aw [(.sl o3 0 x.nx.length 1,1,b.map iC),(.sl o6 0 x.nx.length 1,1,(List.replicate x.nx.length (0:Int)).map iC)] [] o5 [])(ho:bK R (.loop U.ya) e s=o):
  ∃(e':En) (s':HS) (ss:dH) (u:ay) (d:aQ),o=.code (.exit 2) e' s'/\bO e' [(1,.ax x.c),(2,v2),(4,v4),(5,.mp o5),(6,.sl o6 0 x.nx.length 1)]/\
   dN s' aw [(.sl o3 0 x.nx.length 1,1,b.map iC),(.sl o6 0 x.nx.length 1,1,d.map iC)] [] o5 (lG HV.str ss 0)/\LX (tx x b) x.nx.length x.nx.length ss u d:=by
 have hn:=J.n;refine aX ho x.nx.length
  (λi e s=>∃(ss:dH) (u:ay) (d:aQ),bO e [(1,.ax x.c),(2,v2),(3,.sl o3 0 x.nx.length 1),(4,v4),(5,.mp o5),(6,.sl o6 0 x.nx.length 1),(17,iV x.nx.length),(18,iV i)]/\
   dN s aw [(.sl o3 0 x.nx.length 1,1,b.map iC),(.sl o6 0 x.nx.length 1,1,d.map iC)] [] o5 (lG HV.str ss 0)/\LX (tx x b) x.nx.length i ss u d)
  (λo=>∃(e':En) (s':HS) (ss:dH) (u:ay) (d:aQ),o=.code (.exit 2) e' s'/\bO e' [(1,.ax x.c),(2,v2),(4,v4),(5,.mp o5),(6,.sl o6 0 x.nx.length 1)]/\
   dN s' aw [(.sl o3 0 x.nx.length 1,1,b.map iC),(.sl o6 0 x.nx.length 1,1,d.map iC)] [] o5 (lG HV.str ss 0)/\LX (tx x b) x.nx.length x.nx.length ss u d)
  0 (by omega) ⟨[],[],List.replicate x.nx.length 0,p,t,⟨by simp,by simp,rfl,λk h=>by simp at h,λj h=>by omega,λc hc=>by rw[AX hc];omega⟩⟩
  (λi e s r B ⟨ss,u,d,p,t,D⟩ E=>by
   have N:(i:Int)<x.nx.length:=by omega
   have q:i<b.length:=by omega
   have hq:gn b[i]:=C _ (bX q);have F:=t.k.mem.own 0 _ _ _ rfl;have Y:=wi F (aO q);have w:=Z0 _ hq;have z:R (.call 219 [.agg x.c,iV i,.sl o3 0 x.nx.length 1] s)=.val (.str (eZ x b i)) s:=by refine YR (by simp[cC,cr]) (.cons (.data (by simp)) (.cons (.data (by simp)) (.cons ?_ .nil))) (by simp) rfl (λs=>Z6 J hs M C B s);exact F.vw (n:=14) (j7 _)
   have h4:(eZ x b i).length<=1000000:=by
    have h5:=J.row B;unfold eZ;rw[kU,getD_at B,cE];have h1:=nr (x.nx[i].flatMap (eP b));have h2:(x.nx[i].flatMap (eP b)).length=5*x.nx[i].length:=by
     generalize x.nx[i]=l
     induction l with|nil=>rfl|cons a l ih=>rw[ni,cE,ih];simp[eP];omega
    have h3:(sH (x.fi.getD i false)).length<=5:=by cases x.fi.getD i false<;>decide
    omega
   have h6:=zd b[i];have O:∀s,n8 false .add (some (.str (itoa b[i]))) (some (.str [32])) s=.v (.str (itoa b[i]++[32])) s:=λs=>pX (by simp;omega)
   have G:∀s,n8 false .add (some (.str (itoa b[i]++[32]))) (some (.str (eZ x b i))) s=.v (.str (itoa b[i]++[32]++eZ x b i)) s:=λs=>pX (by simp;omega)
   have P:itoa b[i]++[32]++eZ x b i=tx x b i:=by unfold tx;rw[getD_at q]
   rw[P]at G;obtain⟨s1,A,Q⟩:=Z8 t.mp (by have:=D.le;omega) (tx x b i);have H:dN s1 aw [(.sl o3 0 x.nx.length 1,1,b.map iC),(.sl o6 0 x.nx.length 1,1,d.map iC)] [] o5 (lG HV.str (CH ss (tx x b i)) 0):=by
    rw[Q];by_cases T:tx x b i∈ss
    .rw[ar T,CH,ar T];exact t
    rw[aq T];exact t.put _
   have g2:=wi (H.k.mem.own 0 _ _ _ rfl) (aO q);obtain⟨h7,s2,Z,V,I⟩:=H.jg 1 rfl i (by simp[D.len];exact B) (x:=iV (ss.idxOf (tx x b i))) rfl;simp[B]at Z;obtain rfl:=Z;simp only[cb,aS,hU]at I V;have hw:=bj (n:=400) (show i<400 by omega) (by omega);have b3:=Hl V;obtain⟨W,X⟩:=D.step B;simp only[ab,ae]at p;simp only[iV,Fa.c]at z;simp only[iV]at A V b3 Y g2 w;simp[U.ya,p,B,N,Y,w,z,O,G,A,b3,hw]at E;subst E;refine .inl ⟨_,_,rfl,CH ss (tx x b i),W,_,by simp[p],?_,X⟩;rw[kI];exact I)
  (λe s r ⟨ss,u,d,p,t,D⟩ E=>by
   simp only[ab,ae]at p;simp[U.ya,p]at E;subst E;exact⟨by simp,_,_,ss,u,d,rfl,by simp[p],t,D⟩)
end
section
variable{s:HS}{aw:bc}{L:cS}{K:dV}{o:Ky}{es:List (HV×HV)}
def dN.join{s':HS}(h:dN s aw L K o es)(d:di (λ_=>False) s s'){v:HV}{sz:Nat}{F:cg}{au:aR}(r:bY s' v sz F au)(j:∀k,F k->s.nx.toNat<=k.toNat):∃b,dN s' b (L++[(v,sz,au)]) K o es:=by
 classical
 refine⟨λk=>if F k then some L.length else aw k,⟨h.k.mem.join d r j,λa o c t=>?_,h.k.nd⟩,?_,ej h.lt d.1,?_⟩
 .obtain⟨q,u⟩:=h.k.bz a o c t;refine⟨q.frame d (λh=>h),?_⟩;have:¬F o:=λp=>by have:=j o p;have:=q.2.2;omega
  simp only[this,bp];exact u
 .rw[d.2.2.1 o h.lt (λh=>h)];exact h.mp
 have:¬F o:=λp=>by have:=j o p;have:=h.lt;omega
 simp only[this,bp];exact h.co
end
def ahD(x:Fa)(J:cJ x)(hs:Gc x):∃cls,(sJ x cls λp=>p<x.nx.length)/\gq U.f200 R [.agg x.c]=true/\∀s,R (.call 200 [.agg x.c] s)=.val (.psl (cls.map iC)) s:=by
 have hn:=J.n;have M:=J.pos;generalize w:bK R U.St (bn [.agg x.c] 0) s0=r
 suffices h:∃cls,(sJ x cls λp=>p<x.nx.length)/\pN [.tmp 2] r=some (.psl (cls.map iC))/\VQ [.tmp 2] r=true by obtain⟨cls,B,h,hf⟩:=h;rw[<-w]at h hf;exact⟨cls,B,by rw[sE];exact hf,λs=>afL h⟩
 have h0:aI s0 (λ_=>none) [] []:=⟨dT.start (by simp),by simp,by simp⟩;obtain⟨s1,m1,h8,h9⟩:=mc (s:=s0) (n:=x.nx.length) (bx:=17592186044416) (by omega) (.int .i64 0);obtain⟨c1,E⟩:=h0.join h9 h8 (λk hk=>by subst hk;exact aY _);have hz:List.replicate x.nx.length [HV.int .i64 0]=(List.replicate x.nx.length (0:Int)).map iC:=by simp
 simp only[bD]at E;rw[hz]at E;simp[U.St,m1]at w;generalize Z:bK R (.loop U.Ft) _ _=o at w;have hq:∃(I:En) (s':HS) (aw:bc) (o6:Ky) (d:aQ),o=.code .ret I s'/\look I 2=some (.sl o6 0 x.nx.length 1)/\aI s' aw [(.sl o6 0 x.nx.length 1,1,d.map iC)] []/\(sJ x d λp=>p<x.nx.length):=by
  refine aX Z (x.nx.length+1)
   (λi e s=>∃(aw:bc) (o3:Ky) (cl:aQ) (many:Nat),bO e [(1,.ax x.c),(2,.ai),(3,.sl o3 0 x.nx.length 1),(4,iV many)]/\aI s aw [(.sl o3 0 x.nx.length 1,1,cl.map iC)] []/\cl.length=x.nx.length/\(∀c∈cl,0<=c/\c<=x.nx.length)/\
    ((i=0/\many=0)∨(i<=many/\many<=x.nx.length/\∃fs,OU x.nx.length cl fs/\fs.length=many)))
   (λo=>∃(I:En) (s':HS) (aw:bc) (o6:Ky) (d:aQ),o=.code .ret I s'/\look I 2=some (.sl o6 0 x.nx.length 1)/\aI s' aw [(.sl o6 0 x.nx.length 1,1,d.map iC)] []/\(sJ x d λp=>p<x.nx.length))
   0 (by omega) ⟨c1,s0.nx,List.replicate x.nx.length 0,0,by simp,E,by simp,λc N=>by rw[AX N];omega,.inl ⟨rfl,rfl⟩⟩
   (λi e s r hi ⟨aw,o3,cl,many,hL,hM,O,P,hI⟩ w=>by
    have F:∀c∈cl,gn c:=λc N=>by have:=P c N;unfold gn;omega
    have Q:=hM.mkm;generalize hd:HS.mk _ _ _ _=T at Q;obtain⟨s2,m2,hg,ht⟩:=mc (s:=T) (n:=x.nx.length) (bx:=17592186044416) (by omega) (.int .i64 0);obtain⟨c3,G⟩:=Q.join ht hg (λk hk=>by subst hk;exact aY _);simp only[bB,bD]at G;rw[hz]at G;simp only[ab,ae]at hL;simp[U.Ft,hL,hd,m2]at w;generalize Z:bK R (.loop U.ya) _ _=o at w;obtain⟨e4,s4,V,fs,d,rfl,z,W,t⟩:=Z9 J hs O F (o5:=s.nx) (o6:=T.nx) (o3:=o3) (v2:=.ai) (v4:=iV many) (by simp[hL]) G Z;clear Z;have hlen:=Z7 W.mp;simp only[ab,ae]at z;obtain⟨c5,hy⟩:=dT.single (W.k.mem.own 1 _ _ _ rfl);have X:aI s4 c5 [(.sl T.nx 0 x.nx.length 1,1,d.map iC)] []:=⟨hy,by simp,by simp⟩;have C:∀i j:Nat,i<x.nx.length->j<x.nx.length->d[i]?=d[j]?->cl[i]?=cl[j]?:=by intro i j hi hj he;have B:=(Lf hs F (t.tx hi hj he)).1;rw[getD_at (by omega),getD_at (by omega)]at B;rw[aO (by omega),aO (by omega),B]
    have h7:1<=V.length:=by obtain⟨k,_,A⟩:=t.cl 0 M;have:=(aV.1 A).1;omega
    by_cases hm:V.length=many
    .have H:(V.length:Int)=many:=by omega
     simp only[iV]at hlen;simp[z,hlen,H]at w;subst w;rcases hI with⟨_,h0⟩|⟨_,_,k0,hP,Y⟩
     .omega
     obtain⟨_,u⟩:=hP.G5 t.TM C;have u:=u (by rw[t.fl,hm,Y]);refine .inr ⟨by simp,_,_,c5,T.nx,d,rfl,by simp,X,t.len,λc N=>by have:=t.sm c N;omega,λp q hp hq he=>?_⟩;have k1:d[p]?=d[q]?:=by have hl:=t.len;rw[getD_at (by omega),getD_at (by omega)]at he;rw[aO (by omega),aO (by omega),he]
     obtain⟨_,A,h3⟩:=Lf hs F (t.tx hp hq k1);refine⟨A,Hn h3 λa ha b hb k2=>?_⟩;have k3:=jJ J p a ha;have k4:=jJ J q b hb;injection k2 with h4 h5
     rw[getD_at (by omega),getD_at (by omega)]at h5;have h6:=u a.to b.to k3 k4 (by rw[aO (by omega),aO (by omega),h5]);rw[h4,l9 h6 0]
    have H:¬(V.length:Int)=many:=by omega
    simp only[iV]at hlen;simp[z,hlen,H]at w;subst w;refine .inl ⟨_,_,rfl,c5,T.nx,d,V.length,by simp[z],X,t.len,t.sm,.inr ⟨?_,t.le,fs,t.TM,t.fl⟩⟩;rcases hI with⟨B,A⟩|⟨B,A,k0,hP,Y⟩
    .omega
    have:=(hP.G5 t.TM C).1;have:=t.fl;omega)
   (λe s r ⟨aw,o3,cl,many,hL,hM,O,P,hI⟩ w=>by
    exfalso;rcases hI with⟨B,_⟩|⟨B,A,_⟩
    .omega
    omega)
 obtain⟨I,s',aw,o6,d,rfl,A,hM,hG⟩:=hq;have D:=hM.mem.own 0 _ _ _ rfl;have hv:=D.vw (n:=14) (j7 _);simp at w;subst w;refine⟨d,hG,?_,wm (v:=.sl o6 0 x.nx.length 1) (s':=s') (by simp[A]) (sG D (Hg d))⟩;simp[A];exact aC hv
def Ho:∀(new a l:ak),new.length<=l.length->I6 (a++l) a.length new=a++new++l.drop new.length
 |[],a,l,_=>by simp
 |v::r,a,[],h=>by simp at h
 |v::r,a,b::l,h=>by
  rw[yw];have d:(a++b::l).set a.length v=(a++[v])++l:=by simp
  have c:=Ho r (a++[v]) l (by simpa using h);rw[d];rw[cE,dM]at c;rw[c];simp
def gD.store{s:HS}{o:Ky}{l:ak}(h:gD s o l)(k:Nat)(new:ak)(c:k+new.length<=l.length):∃s',s.store o k new=some s'/\gD s' o (I6 l k new)/\di (λp=>p=o) s s'/\s'.nx=s.nx:=by
 have hlen:(I6 l k new).length=l.length:=by
  clear h c
  induction new generalizing l k with|nil=>rfl|cons v r d=>rw[yw,d,iM]
 refine⟨{h:=av (some (.cells (cR (I6 l k new)) 0 l.length o)) o s.h,nx:=s.nx,gr:=s.gr,ty:=s.ty},?_,⟨by simp only;rw[af,ar rfl,hlen],h.2.1,h.2.2⟩,⟨aY _,rfl,λp j b=>by simp only;rw[af,aq b],λp j b=>rfl⟩,rfl⟩;rw[lv,h.1,ah (fD _) c,h.2.1,an c]
def Uj(sz:Nat)(x y:bV)(s:HS):da:=match x,y with
    |some (.sl o d len j),some (.sl p k b _)=>
      bif !(Nat.beq sz j)then .bad else
      bif Nat.beq (bif Nat.ble len b then len else b) 0 then .v (.int .i64 0) s else
      (match s.bE p k ((bif Nat.ble len b then len else b)*sz)with
       |some l=>(match s.store o d l with|some s'=>.v (.int .i64 (.ofNat (bif Nat.ble len b then len else b))) s'|none=>.bad)
       |none=>.bad)
    |some (.sl o d len j),some (.psl c)=>
      bif !(Nat.beq sz j)then .bad else
      bif Nat.beq (bif Nat.ble len (aM c)then len else aM c) 0 then .v (.int .i64 0) s else bif dt sz c then
      (match s.store o d (aD (gQ (bif Nat.ble len (aM c)then len else aM c) c))with|some s'=>.v (.int .i64 (.ofNat (bif Nat.ble len (aM c)then len else aM c))) s'|none=>.bad)else .bad
    |some (.sl ..),some .ai=>.v (.int .i64 0) s
    |some .ai,some .ai=>.v (.int .i64 0) s
    |some .ai,some (.sl ..)=>.v (.int .i64 0) s
    |some .ai,some (.psl _)=>.v (.int .i64 0) s
    |_,_=>.bad
@[simp]def abw{e:En}{s:HS}{sz:Nat}{x y:X}:cO (.cpy sz x y) e s=Uj sz (bq x e) (bq y e) s:=rfl
def Hp{s s':HS}{o o2:Ky}{bo b len uj c m:Nat}{l:ak}(q:m=min len uj)(h0:m≠0)(j:s.bE o2 b m=some l)(k:s.store o bo l=some s'):
    Uj 1 (some (.sl o bo len 1)) (some (.sl o2 b uj c)) s=.v (.int .i64 (m:Int)) s':=by
  have p:(bif Nat.ble len uj then len else uj)=m:=by
    rw[cj];by_cases h:len<=uj
    . rw[cV h,cond_true];omega
    rw[cu h,cond_false];omega
  show(bif !(Nat.beq 1 1)then da.bad else
      bif Nat.beq (bif Nat.ble len uj then len else uj) 0 then .v (.int .i64 0) s else
      (match s.bE o2 b ((bif Nat.ble len uj then len else uj)*1)with
       |some l=>(match s.store o bo l with|some s'=>.v (.int .i64 (.ofNat (bif Nat.ble len uj then len else uj))) s'|none=>.bad)
       |none=>.bad))=_
  have d:Nat.beq m 0=false:=by rw[cU,cu h0]
  rw[p,hU,d];simp only[j,k];rfl
section
variable{s:HS}{aw:bc}{L:cS}{K:dV}
def aI.toL{o:Ky}{c:ak}(h:aI s aw L ((o,c)::K)):∃u,aI s u (L++[(.sl o 0 c.length 1,1,c.map λv=>[v])]) K:=by
 classical
 obtain⟨w,A⟩:=h.bz 0 o c rfl;have B:aD (c.map λv=>[v])=c:=by
  clear h w
  induction c with|nil=>rfl|cons v c F=>rw[cL,dw,F];rfl
 refine⟨λk=>if k=o then some L.length else aw k,⟨λk i q=>?_,λk i q=>?_,λi v G C t=>?_⟩,λa p d z=>?_,λa b p d H z I=>by have:=h.nd (a+1) (b+1) p d H z I;omega⟩
 .split at q
  .rename_i r;subst r;exact w.2.2
  exact h.mem.bd k i q
 .rw[cE,dM]
  split at q
  .cases q;omega
  have:=h.mem.top k i q;omega
 .by_cases D:i<L.length
  .rw[ek D]at t;have:(λk=>(if k=o then some L.length else aw k)=some i)=λk=>aw k=some i:=by
    funext k
    by_cases q:k=o
    .subst q;rw[ar rfl,A];simp;omega
    rw[aq q]
   rw[this];exact h.mem.own i v G C t
  have E:i=L.length:=by have:=(aV.1 t).1;simp at this;omega
  subst E;rw[gu (aY _)]at t;simp only[lg,yM,bT,oD]at t;obtain⟨rfl,rfl,rfl⟩:=t;refine⟨Sz.map (f:=λv=>[v]) (λ_=>rfl) _,λk q=>?_,.inr ⟨o,cR c,c.length,o,[],by simp,w.1,by simp,λj O=>?_,w.2.1,by simp,λm J=>?_,?_⟩⟩
  .have q:(if k=o then some L.length else aw k)=some L.length:=q
   split at q
   .rename_i r;subst r;exact w.2.2
   exact h.mem.bd k _ q
  .rw[B,sk]
  .rw[dE.1 J];simp
  simp
 obtain⟨M,N⟩:=h.bz (a+1) p d z;refine⟨M,?_⟩;have:p≠o:=λe=>by subst e;have:=h.nd (a+1) 0 p d c z rfl;omega
 rw[aq this];exact N
def δ:∀n:Nat,n<=24->(bR .u64 (n:Int)=n)/\∀s,R (.call 226 [.int .u64 1,.int .u64 (n:Int)] s)=.val (.bN [.int .u64 0,.int .u64 (n:Int)]) s:=by
 have key:∀n:Nat,run LU U.prog 30 (.call 226 [.int .u64 1,.int .u64 (n:Int)] s0)=.val (.bN [.int .u64 0,.int .u64 (n:Int)]) s0->∀s,R (.call 226 [.int .u64 1,.int .u64 (n:Int)] s)=.val (.bN [.int .u64 0,.int .u64 (n:Int)]) s:=by
  intro n h s;have j:R (.call 226 [.int .u64 1,.int .u64 (n:Int)] s0)=.val (.bN [.int .u64 0,.int .u64 (n:Int)]) s0:=by
   have k:Good (run LU U.prog 30 (.call 226 [.int .u64 1,.int .u64 (n:Int)] s0)):=by rw[h];trivial
   rw[<-h];exact B5 k
  have p:=lx j trivial;have c:sQ LU 226 [.int .u64 1,.int .u64 (n:Int)] s0 (bu U.prog (ea LU U.prog) 226 [.int .u64 1,.int .u64 (n:Int)] s0)=.val (.bN [.int .u64 0,.int .u64 (n:Int)]) s0:=p;rw[ff (by rfl)]at c;have b:bW U.f226 (ea LU U.prog) [.int .u64 1,.int .u64 (n:Int)] s0=.val (.bN [.int .u64 0,.int .u64 (n:Int)]) s0:=c;unfold bW at b;rw[dS _ (by simp[eh]),cond_true,show du [HV.int .u64 1,.int .u64 (n:Int)]=true by simp[eh],cond_true]at b;refine dB ?_ trivial;show sQ LU 226 [.int .u64 1,.int .u64 (n:Int)] s (bu U.prog (ea LU U.prog) 226 [.int .u64 1,.int .u64 (n:Int)] s)=_;rw[ff (by rfl)];show bW U.f226 (ea LU U.prog) [.int .u64 1,.int .u64 (n:Int)] s=_;unfold bW;rw[dS _ (by simp[eh]),cond_true,show du [HV.int .u64 1,.int .u64 (n:Int)]=true by simp[eh],cond_true];cases d:jo U.f226 (ea LU U.prog) [.int .u64 1,.int .u64 (n:Int)]with
  |none=>rw[d]at b;cases b
  |some v=>rw[d]at b;cases b;rfl
 intro n q
 match n,q with|0,_=>exact⟨by kernel_rfl,key 0 (by kernel_rfl)⟩|1,_=>exact⟨by kernel_rfl,key 1 (by kernel_rfl)⟩|2,_=>exact⟨by kernel_rfl,key 2 (by kernel_rfl)⟩|3,_=>exact⟨by kernel_rfl,key 3 (by kernel_rfl)⟩|4,_=>exact⟨by kernel_rfl,key 4 (by kernel_rfl)⟩|5,_=>exact⟨by kernel_rfl,key 5 (by kernel_rfl)⟩|6,_=>exact⟨by kernel_rfl,key 6 (by kernel_rfl)⟩|7,_=>exact⟨by kernel_rfl,key 7 (by kernel_rfl)⟩|8,_=>exact⟨by kernel_rfl,key 8 (by kernel_rfl)⟩|9,_=>exact⟨by kernel_rfl,key 9 (by kernel_rfl)⟩|10,_=>exact⟨by kernel_rfl,key 10 (by kernel_rfl)⟩|11,_=>exact⟨by kernel_rfl,key 11 (by kernel_rfl)⟩|12,_=>exact⟨by kernel_rfl,key 12 (by kernel_rfl)⟩|13,_=>exact⟨by kernel_rfl,key 13 (by kernel_rfl)⟩|14,_=>exact⟨by kernel_rfl,key 14 (by kernel_rfl)⟩|15,_=>exact⟨by kernel_rfl,key 15 (by kernel_rfl)⟩|16,_=>exact⟨by kernel_rfl,key 16 (by kernel_rfl)⟩|17,_=>exact⟨by kernel_rfl,key 17 (by kernel_rfl)⟩|18,_=>exact⟨by kernel_rfl,key 18 (by kernel_rfl)⟩|19,_=>exact⟨by kernel_rfl,key 19 (by kernel_rfl)⟩|20,_=>exact⟨by kernel_rfl,key 20 (by kernel_rfl)⟩|21,_=>exact⟨by kernel_rfl,key 21 (by kernel_rfl)⟩|22,_=>exact⟨by kernel_rfl,key 22 (by kernel_rfl)⟩|23,_=>exact⟨by kernel_rfl,key 23 (by kernel_rfl)⟩|24,_=>exact⟨by kernel_rfl,key 24 (by kernel_rfl)⟩|n+25,h=>exact absurd h (by omega)
end
def ahE{s:HS}{n bx:Nat}(b:n<=bx)(z:HV):TW 1 bx [z] (some (.int .i64 (n:Int))) (some (.int .i64 (n:Int))) s=.v (.sl s.nx 0 n 1) {h:=av (some (.cells (cR (List.replicate n z)) 0 (List.replicate n z).length s.nx)) s.nx s.h,nx:=s.nx.succ,gr:=av (some [s.nx]) s.nx s.gr,ty:=s.ty}:=by show(bif Nat.ble n n&&Nat.ble n bx then s.new (mB [z] n) (λo=>.sl o 0 n 1)else .bad)=_;rw[cj,cj,yZ];simp[b]
def Hq(n k:Nat):ak:=List.replicate k (iV (-1))++List.replicate (n-k) (iV 0)
def wv{n k:Nat}(h:k<=n):(Hq n k).length=n:=by simp[Hq];omega
def D9{n k m:Nat}(b:k+m<=n):I6 (Hq n k) k (List.replicate m (iV (-1)))=Hq n (k+m):=by have:=Ho (List.replicate m (iV (-1))) (List.replicate k (iV (-1))) (List.replicate (n-k) (iV 0)) (by simp;omega);rw[Cm]at this;unfold Hq;rw[this,Cm,List.drop_replicate,List.replicate_append_replicate,show n-k-m=n-(k+m) by omega]
def IW{s:HS}{o:Ky}{n k m:Nat}(h:gD s o (Hq n k))(b:m<=k)(c:k<=n):s.bE o 0 m=some (List.replicate m (iV (-1))):=by
 have d:=wv c;rw[iv,h.1,aj (fD _) (by omega) (by omega),List.drop_zero]
 congr 1
 unfold Hq;rw[GX (by simpa using b),List.take_replicate,EW b]
section
variable{s:HS}{aw:bc}{L:cS}{K:dV}
def ahF(h:aI s aw L K){i:Nat}{D:Ky}(hi:L[i]?=some (.sl D 0 1 1,1,[[iV (-1)]])){n:Nat}(hn:n<=24)(hp:1<=n):
  ∃o s' b,R (.call 216 [.sl D 0 1 1,iV n] s)=.val (.sl o 0 n 1) s'/\aI s' b (L++[(.sl o 0 n 1,1,(List.replicate n (-1:Int)).map iC)]) K:=by
 obtain⟨W,_⟩:=δ 1 (by omega);obtain⟨X,E⟩:=δ n hn;have Y:bR .i64 (n:Int)=n:=bM (by omega) (by omega);have u:=h.cY (List.replicate n (.int .i64 0));have hO:=u.mem.own i _ _ _ hi;have z:=(u.bz 0 _ _ rfl).1;have F:=ahE (s:=s) (n:=n) (bx:=17592186044416) (by omega) (.int .i64 0);generalize hd:HS.mk _ _ _ _=T at u hO z F;have A:gD T s.nx (Hq n 0):=z;have Z:T.bE D 0 1=some [iV (-1)]:=by rw[iv];exact hO.cells.2
 obtain⟨s2,h1,G,h2,hf⟩:=A.store 0 (List.replicate 1 (iV (-1))) (by rw[wv (by omega)];simp;omega);rw[D9 (by omega),bw]at G;have H:=u.cell (a:=0) rfl G h2;simp only[aS]at H;have q:=Hp (s:=T) (bo:=0) (len:=n) (uj:=1) (c:=1) (m:=1) (by omega) (by omega) Z h1;have h3:¬(n:Int)<0:=by omega
 have I:¬(9223372036854775807:Int)<n:=by omega
 have hb:(0:Int)<=n:=by omega
 have h5:(n:Int)<=9223372036854775807:=by omega
 have J:bR .u64 1=1:=W;have q:Uj 1 (some (.sl s.nx 0 n 1)) (some (.sl D 0 1 1)) T=.v (.int .i64 1) s2:=q;have hE:∃t s' b,ev R U.Ng (bn [.sl D 0 1 1,iV n] 0) s=.code .ret t s'/\look t 4=some (.sl s.nx 0 n 1)/\aI s' b L ((s.nx,Hq n n)::K):=by
  generalize d:ev R U.Ng (bn [.sl D 0 1 1,iV n] 0) s=r;simp[U.Ng,h3,J,X,E,I,Y,F,q]at d;generalize ho:ev R (.loop U.yf) _ _=o at d;have hq:∃(t:En) (s':HS) (b:bc),o=.code (.exit 0) t s'/\bO t [(7,.sl s.nx 0 n 1)]/\aI s' b L ((s.nx,Hq n n)::K):=by
   refine fG ho n
    (λj e s'=>∃k,k<=n/\1<=k/\(j+1<=k∨k=n)/\∃b,bO e [(7,.sl s.nx 0 n 1),(8,iV k)]/\aI s' b L ((s.nx,Hq n k)::K))
    (λo=>∃(t:En) (s':HS) (b:bc),o=.code (.exit 0) t s'/\bO t [(7,.sl s.nx 0 n 1)]/\aI s' b L ((s.nx,Hq n n)::K))
    0 (by omega) ⟨1,hp,aY _,.inl (by omega),aw,by simp,H⟩
    (λj e s' r hj ⟨k,V,h6,h7,b,p,w⟩ d=>by
     simp only[ab,ae]at p;by_cases hg:k<n
     .have M:(k:Int)<n:=by omega
      have hC:=(w.bz 0 _ _ rfl).1;have h8:=IW hC (m:=min (n-k) k) (by omega) V;obtain⟨s3,h9,N,ha,_⟩:=hC.store k (List.replicate (min (n-k) k) (iV (-1))) (by rw[wv V];simp;omega);rw[D9 (by omega)]at N;have O:=w.cell (a:=0) rfl N ha;simp only[aS]at O;have q:=Hp (s:=s') (bo:=k) (len:=n-k) (uj:=k) (c:=1) (m:=min (n-k) k) rfl (by omega) h8 h9;have P:bR .i64 ((k:Int)+((min (n-k) k:Nat):Int))=(k+min (n-k) k:Nat):=by rw[bM (by omega) (by omega)];omega
      have hle:k<=n:=V;generalize hm:min (n-k) k=m at*;simp[U.yf,p,M,hle,q,P]at d;subst d;exact .inl ⟨_,_,rfl,k+m,by omega,by omega,by omega,b,by simp[p],O⟩
     have B:k=n:=by omega
     subst B;simp[U.yf,p]at d;subst d;exact .inr ⟨by simp,_,_,b,rfl,by simp[p],w⟩)
    (λe s' r ⟨k,V,h6,h7,b,p,w⟩ d=>by
     have B:k=n:=by omega
     subst B;simp only[ab,ae]at p;simp[U.yf,p]at d;subst d;exact⟨by simp,_,_,b,rfl,by simp[p],w⟩)
  obtain⟨t,s',b,rfl,p,w⟩:=hq;simp only[ab,ae]at p;simp[p]at d;subst d;exact⟨_,s',b,rfl,by simp,w⟩
 obtain⟨t,s',b,hE,h4,w⟩:=hE;obtain⟨Q,C⟩:=w.toL;refine⟨s.nx,s',Q,af3 rfl ⟨.ret,_,s',hE,.inr rfl,by simp[h4]⟩,?_⟩;rw[wv (aY _)]at C;have:(Hq n n).map (λv=>[v])=(List.replicate n (-1:Int)).map iC:=by simp[Hq]
 rw[this]at C;exact C
end
def Ea{α:Type}(l:List α)(i j:Nat)(v d:α)(b:i<l.length):(l.set i v).getD j d=if i=j then v else l.getD j d:=by
 rw[dF,gS,dF];by_cases h:i=j
 .subst h;simp[b]
 simp[h]
def VR(cls:aQ):Nat:=cls.countP λc=>decide (c<0)
def zf(cls b:aQ):Prop:=∀(q:Nat) (c:Int),cls[q]?=some c->0<=c->b[q]?=some c
def sK(cls:aQ)(q:Nat):Prop:=∃c,cls[q]?=some c/\0<=c
def zf.has{cls b:aQ}(h:zf cls b){q:Nat}(j:sK cls q):sK b q:=by obtain⟨c,k,d⟩:=j;exact⟨c,h q c k d,d⟩
structure Lh(x:Fa)(cls:aQ)(ss:dH):Prop where
 len:cls.length=x.nx.length
 sm:∀c∈cls,-1<=c/\c<400
 sl:ss.length+VR cls<=x.nx.length
 ok:∀(q:Nat) (c:Int),cls[q]?=some c->0<=c->(∀e∈x.nx.getD q [],sK cls e.to)/\ss[c.toNat]?=some (eZ x cls q)
def Hr{x:Fa}{cls b:aQ}(h:zf cls b){q:Nat}(d:∀e∈x.nx.getD q [],sK cls e.to):eZ x b q=eZ x cls q:=by
 unfold eZ
 congr 1
 generalize x.nx.getD q []=l at d
 induction l with
 |nil=>rfl
 |cons e l p=>
  rw[ni,ni,p (λr j=>d r (by simp[j]))];obtain⟨c,k,t⟩:=d e (by simp);have u:=h e.to c k t;have:eP b e=eP cls e:=by unfold eP;rw[dF,u,dF,k]
  rw[this]
def Li:∀(cls:aQ) (p:Nat) (c v:Int),cls[p]?=some c->c<0->0<=v->VR (cls.set p v)+1=VR cls
 |[],p,c,v,h,_,_=>by simp at h
 |a::r,0,c,v,h,b,d=>by simp at h;subst h;unfold VR;rw[aS,pY,pY];simp[b];omega
 |a::r,p+1,c,v,h,b,d=>by have:=Li r p c v (by simpa using h) b d;unfold VR at*;rw[cb,pY,pY];omega
def Lh.fin{x:Fa}(F:cJ x){cls:aQ}{ss:dH}(h:Lh x cls ss){p:Nat}{c:Int}(A:cls[p]?=some c)(I:c<0)(u:∀e∈x.nx.getD p [],sK cls e.to):
  Lh x (cls.set p (ss.idxOf (eZ x cls p):Nat)) (CH ss (eZ x cls p))/\zf cls (cls.set p (ss.idxOf (eZ x cls p):Nat)):=by
 have O:=F.n;obtain⟨B,_⟩:=aV.1 A;have J:=h.sl;have M:=Li cls p c (ss.idxOf (eZ x cls p):Nat) A I (by omega);have G:ss.idxOf (eZ x cls p)<=ss.length:=Ug;have H:0<x.nx.length:=F.pos;have b:zf cls (cls.set p (ss.idxOf (eZ x cls p):Nat)):=by
  intro q d r w;have j:p≠q:=λe=>by subst e;rw[A]at r;cases r;omega
  rw[ju j];exact r
 have C:∀(k:Nat) (t:ay),ss[k]?=some t->(CH ss (eZ x cls p))[k]?=some t:=by
  intro k t D;unfold CH
  split
  .exact D
  rw[ek (aV.1 D).1];exact D
 refine⟨⟨by simp[h.len],λd w=>?_,?_,λq d r w=>?_⟩,b⟩
 .rcases qL w with v|v
  .exact h.sm d v
  have:ss.length<x.nx.length:=by omega
  omega
 .unfold CH
  split
  .omega
  simp;omega
 by_cases j:p=q
 .subst j;rw[gF B]at r;cases r;refine⟨λe E=>b.has (u e E),?_⟩;rw[Hr b u,jy];unfold CH;by_cases z:eZ x cls p∈ss
  .rw[ar z,aO (Uh z),Ui]
  rw[aq z,Le z,gu (aY _)];simp
 rw[ju j]at r;obtain⟨v,N⟩:=h.ok q d r w;exact⟨λe E=>b.has (v e E),by rw[Hr b v];exact C _ _ N⟩
def VS(cls:aQ)(lM:ck)(n:Nat):Nat:=(List.range n).countP λq=> !lM.getD q false&&decide (cls.getD q 0<0)
def uk{α:Type}{p q:α->Bool}:∀{l:List α},(∀x∈l,p x=true->q x=true)->l.countP p<=l.countP q
 |[],_=>aY _
 |x::l,h=>by
  have b:=uk (l:=l) (λy c=>h y (by simp[c]));rw[pY,pY];have d:=h x (by simp);cases j:p x
  .simp;omega
  rw[d j];simp;exact b
def A5{α:Type}{p q:α->Bool}:∀{l:List α} {a:α},(∀x∈l,p x=true->q x=true)->a∈l->p a=false->q a=true->l.countP p<l.countP q
 |x::l,a,h,b,d,j=>by
  rw[pY,pY];have k:=h x (by simp);rcases bm.1 b with rfl|b
  .have:=uk (l:=l) (λy c=>h y (by simp[c]));rw[d,j];simp;omega
  have r:=A5 (l:=l) (λy c=>h y (by simp[c])) b d j;cases t:p x
  .simp;omega
  rw[k t];simp;exact r
def Hs{cls:aQ}{lM:ck}{n p:Nat}{c:Int}(j:p<n)(k:lM.length=n)(r:lM[p]?=some false)(t:cls[p]?=some c)(d:c<0):VS cls (lM.set p true) n<VS cls lM n:=by
 refine A5 (a:=p) (λq u h=>?_) (gy.2 j) ?_ ?_
 .rw[Ea _ _ _ _ _ (by omega)]at h;by_cases b:p=q
  .rw[ar b]at h;simp at h
  rw[aq b]at h;exact h
 .rw[Ea _ _ _ _ _ (by omega),ar rfl];rfl
 rw[dF,r,dF,t];simp[d]
def Uk{cls b:aQ}{lM:ck}{n:Nat}(t:cls.length=n)(h:zf cls b):VS b lM n<=VS cls lM n:=by
 refine uk λq p c=>?_
 rw[gy]at p;simp only[aL,bL]at c ⊢;refine⟨c.1,Df λd=>?_⟩;have j:=aO (show q<cls.length by omega);rw[dF,j]at d;simp only[iY]at d;have r:=h q _ j (by omega);have k:=c.2;rw[dF,r]at k;simp only[iY]at k;omega
def dN.get{s:HS}{aw:bc}{L:cS}{K:dV}{o:Ky}{es:List (HV×HV)}(h:dN s aw L K o es){p:Ky}{c:ak}(b:(p,c)∈K):ao s.h p=some (.cells (cR c) 0 c.length p):=by obtain⟨a,d⟩:=uK.1 b;exact(h.k.bz a p c d).1.1
def Ew(b c d:Ky)(n:Nat)(cls:aQ)(lM:ck):cS:=[(.sl b 0 1 1,1,[[iV (-1)]]),(.sl c 0 n 1,1,cls.map iC),(.sl d 0 n 1,1,lM.map bC)]
structure VK(x:Fa)(oc oo om kx kc kl ko kk kv:Ky)(K:dV):Prop where
 xx:(kx,x.c)∈K
 cc:(kc,[.sl oc 0 x.nx.length 1])∈K
 o':(ko,[.sl oo 0 x.nx.length 1])∈K
 km:(kk,[.mp om])∈K
 vv:(kv,[.fn 217 [] [.ptr ko 0,.ptr kx 0,.ptr kl 0,.ptr kc 0,.ptr kv 0,.ptr kk 0]])∈K
def VK.cons{x:Fa}{b c d j k p q r t:Ky}{K:dV}(h:VK x b c d j k p q r t K)(y:Ky×List HV):VK x b c d j k p q r t (y::K):=
 ⟨dh _ h.xx,dh _ h.cc,dh _ h.o',dh _ h.km,dh _ h.vv⟩
def Lj{lM:ck}{p:Nat}(h:lM[p]?=some false):(lM.set p true).set p false=lM:=by obtain⟨c,b⟩:=aV.1 h;rw[Cv,<-b,y8]
def ε{x:Fa}(hx:cJ x)(hs:Gc x){T H O P kx kc I ko kk kv:Ky}{aw:bc}:∀(m:Nat) {K:dV} {al:Nat} {cls:aQ} {lM:ck} {ss:dH} {p:Nat} {s:HS} {c:Int},
  VK x H O P kx kc I ko kk kv K->K[al]?=some (I,[.bool false])->dN s aw (Ew T H O x.nx.length cls lM) K P (lG HV.str ss 0)->Lh x cls ss->lM.length=x.nx.length->p<x.nx.length->lM[p]?=some false->cls[p]?=some c->c<0->
  VS cls lM x.nx.length<=m->
  ∃(s':HS) (t:aQ) (v:ck) (u:dH) (b:Bool),R (.call 217 [iV p,.ptr ko 0,.ptr kx 0,.ptr I 0,.ptr kc 0,.ptr kv 0,.ptr kk 0] s)=.val (.bN []) s'/\
   dN s' aw (Ew T H O x.nx.length t v) (if b then K.set al (I,[.bool true])else K) P (lG HV.str u 0)/\t.length=x.nx.length/\
   (b=false->v=lM/\Lh x t u/\zf cls t/\sK t p/\∀q:Nat,lM[q]?=some true->t[q]?=cls[q]?)
 |0,K,al,cls,lM,ss,p,s,c,B,hl,hM,hB,h6,J,ho,hc,h7,kd=>by have:=Hs J h6 ho hc h7;omega
 |m+1,K,al,cls,lM,ss,p,s,c,B,hl,hM,hB,h6,J,ho,hc,h7,kd=>by
  have hn:=hx.n;have ke:=hB;have kz:=hx.row J;have x0:(p:Int)<x.nx.length:=by omega
  have x1:=Hs J h6 ho hc h7;have x2:=(aV.1 ho).1;have a1:=hM.get B.o';have a2:=hM.get B.xx;obtain⟨x3,s1,b1,b2,h8⟩:=hM.jg 2 rfl p (by simp;omega) (x:=.bool true) rfl;simp[J]at b1;obtain rfl:=b1;have h8:dN s1 aw (Ew T H O x.nx.length cls (lM.set p true)) K P (lG HV.str ss 0):=by have:=h8;unfold Ew;rw[kI];exact this
  simp only[hU]at b2;have a3:=h8.get B.xx;simp only[aA,aE,bw,Nat.reduceAdd,Fa.c]at a1 a2 a3;generalize A:ev R U.SQ (bn [iV p,.ptr ko 0,.ptr kx 0,.ptr I 0,.ptr kc 0,.ptr kv 0,.ptr kk 0] 0) s=r;have k3:=A;simp[U.SQ,a1,a3,J,b2]at A;generalize kg:ev R (.loop U.rq) _ _=o at A;have k0:(∃(V:En) (s':HS) (t:aQ) (v:ck) (u:dH),o=.code .ret V s'/\t.length=x.nx.length/\dN s' aw (Ew T H O x.nx.length t v) (K.set al (I,[.bool true])) P (lG HV.str u 0))∨
    (∃(V:En) (s':HS) (t:aQ) (u:dH),o=.code (.exit 0) V s'/\bO V [(0,iV p),(1,.ptr ko 0),(2,.ptr kx 0),(3,.ptr I 0),(4,.ptr kc 0),(5,.ptr kv 0),(6,.ptr kk 0)]/\
     dN s' aw (Ew T H O x.nx.length t (lM.set p true)) K P (lG HV.str u 0)/\Lh x t u/\zf cls t/\(∀q:Nat,(lM.set p true)[q]?=some true->t[q]?=cls[q]?)/\∀e∈x.nx[p],sK t e.to):=by
   refine fG kg x.nx[p].length
    (λk e s=>∃(t:aQ) (u:dH),bO e [(0,iV p),(1,.ptr ko 0),(2,.ptr kx 0),(3,.ptr I 0),(4,.ptr kc 0),(5,.ptr kv 0),(6,.ptr kk 0),(17,.psl (x.nx[p].map Eg.c)),(18,iV x.nx[p].length),(19,iV k)]/\
     dN s aw (Ew T H O x.nx.length t (lM.set p true)) K P (lG HV.str u 0)/\Lh x t u/\zf cls t/\(∀q:Nat,(lM.set p true)[q]?=some true->t[q]?=cls[q]?)/\∀j e,j<k->x.nx[p][j]?=some e->sK t e.to)
    (λo=>(∃(V:En) (s':HS) (t:aQ) (v:ck) (u:dH),o=.code .ret V s'/\t.length=x.nx.length/\dN s' aw (Ew T H O x.nx.length t v) (K.set al (I,[.bool true])) P (lG HV.str u 0))∨
     (∃(V:En) (s':HS) (t:aQ) (u:dH),o=.code (.exit 0) V s'/\bO V [(0,iV p),(1,.ptr ko 0),(2,.ptr kx 0),(3,.ptr I 0),(4,.ptr kc 0),(5,.ptr kv 0),(6,.ptr kk 0)]/\
      dN s' aw (Ew T H O x.nx.length t (lM.set p true)) K P (lG HV.str u 0)/\Lh x t u/\zf cls t/\(∀q:Nat,(lM.set p true)[q]?=some true->t[q]?=cls[q]?)/\∀e∈x.nx[p],sK t e.to))
    0 (by omega) ⟨cls,ss,by simp,h8,hB,λq c h _=>h,λq _=>rfl,λj e h=>by omega⟩
    (λk e s r hk ⟨t,u,D,hM,hB,hE,hO,W⟩ A=>by
     have h9:(k:Int)<x.nx[p].length:=by omega
     have k4:=aO hk;have M:=hx.to _ (bX J) _ (bX hk);have ki:(x.nx[p].map Eg.c)[k]?=some (x.nx[p][k]).c:=by rw[fW,k4];rfl
     generalize he:x.nx[p][k]=Q at*;have ku:(Q.to:Int)<x.nx.length:=by omega
     have hw:=bj (n:=6000) (show k<6000 by omega) (by omega);have w:=hM.cY Q.c;generalize X:HS.mk _ _ _ _=S2 at w;have ha:=B.cons (s.nx,Q.c);have hd:((s.nx,Q.c)::K)[al+1]?=some (I,[.bool false]):=hl;have c1:=w.get (p:=s.nx) (c:=Q.c) (by simp);have c2:=w.get ha.o';have c3:=w.get ha.cc;have c4:=w.get ha.vv;have c5:=(w.k.bz (al+1) _ _ hd).1.1;have hf:Q.to<(lM.set p true).length:=by rw[iM];omega
     have g1:=lD (w.k.mem.own 2 _ _ _ rfl) (aO hf);have Y:Q.to<t.length:=by rw[hB.len];exact M
     have g2:=wi (w.k.mem.own 1 _ _ _ rfl) (aO Y);simp only[ab,ae]at D;simp only[Eg.c,aA,aE,bw,Nat.reduceAdd,iV]at c1 c2 c3 c4 c5 X ki g2;have Z:∀(E:aQ),zf t E->sK E Q.to->∀j e,j<k+1->x.nx[p][j]?=some e->sK E e.to:=by
      intro E F h2 j e1 hj h3;by_cases kj:j=k
      .subst kj;rw[k4]at h3;cases h3;exact h2
      exact F.has (W j e1 (by omega) h3)
     cases hb:(lM.set p true)[Q.to]
     .rw[hb]at g1;by_cases G:t[Q.to]<0
      .have kn:(lM.set p true)[Q.to]?=some false:=by rw[aO hf,hb]
       have kp:=aO Y;have ky:=Uk (lM:=lM.set p true) ke.len hE;obtain⟨s3,h4,k5,k6,b3,q1,q2,q3,q4⟩:=ε hx hs m (cls:=t) (lM:=lM.set p true) (ss:=u) (p:=Q.to) (s:=S2) ha hd w hB (by simp[h6]) M kn kp G (by omega);simp only[iV]at q1;cases b3
       .obtain⟨r1,r2,r3,r4,r5⟩:=q4 rfl;subst r1;simp only[cy,bp]at q2;have d5:=(q2.k.bz (al+1) _ _ hd).1.1;simp only[aA,aE,bw]at d5;simp[U.rq,D,hk,h9,he,X,c1,c2,c3,c4,ah,an,M,g1,g2,G,q1,d5,hw]at A;subst A;refine .inl ⟨_,_,rfl,h4,k6,by simp[D],q2.tail,r2,λq d F h2=>r3 q d (hE q d F h2) h2,λq hq=>?_,Z h4 r3 r4⟩;rw[r5 q hq,hO q hq]
       simp only[bf,cb]at q2;have d5:=(q2.k.bz (al+1) I [.bool true] (by rw[Ga,gF (aV.1 hl).1])).1.1;simp only[aA,aE,bw]at d5;simp[U.rq,D,hk,h9,he,X,c1,c2,c3,c4,ah,an,M,g1,g2,G,q1,d5]at A;subst A;exact .inr ⟨by simp,.inl ⟨_,_,h4,k5,k6,rfl,q3,q2.tail⟩⟩
      simp[U.rq,D,hk,h9,he,X,c1,c2,c3,c5,ah,an,M,g1,g2,G,hw]at A;subst A;exact .inl ⟨_,_,rfl,t,u,by simp[D],w.tail,hB,hE,hO,Z t (λq c h _=>h) ⟨_,aO Y,by omega⟩⟩
     rw[hb]at g1;obtain⟨s3,b3,k1⟩:=w.y6 hd 0 (by simp) (x:=.bool true) rfl;simp only[aS,cb]at k1;have d5:=(k1.k.bz (al+1) I [.bool true] (by rw[Ga,gF (aV.1 hl).1])).1.1;simp only[aA,aE,bw]at d5;simp[U.rq,D,hk,h9,he,X,c1,c2,ah,an,M,g1,b3,d5]at A;subst A;exact .inr ⟨by simp,.inl ⟨_,_,t,lM.set p true,u,rfl,hB.len,k1.tail⟩⟩)
    (λe s r ⟨t,u,D,hM,hB,hE,hO,W⟩ A=>by
     simp only[ab,ae]at D;simp[U.rq,D]at A;subst A;refine⟨by simp,.inr ⟨_,_,t,u,rfl,by simp[D],hM,hB,hE,hO,λe he=>?_⟩⟩;obtain⟨j,hj⟩:=uK.1 he;exact W j e (aV.1 hj).1 hj)
  rcases k0 with⟨V,s',t,v,u,rfl,k7,z⟩|⟨V,s',t,u,rfl,D,z,N,kq,k8,W⟩
  .simp at A;subst A;exact⟨s',t,v,u,true,YQ rfl ⟨.ret,_,s',k3,.inr rfl,by simp⟩,z,k7,λh=>by cases h⟩
  have kr:∀c∈t,gn c:=λc hc=>by have:=N.sm c hc;unfold gn;omega
  have ks:t[p]?=some c:=by rw[k8 p (by rw[gF (by omega)]),hc]
  have k9:∀e∈x.nx.getD p [],sK t e.to:=by rw[getD_at J];exact W
  obtain⟨hg,ka⟩:=N.fin hx ks h7 k9;have hy:R (.call 219 [.agg x.c,iV p,.sl H 0 x.nx.length 1] s')=.val (.str (eZ x t p)) s':=by refine YR (by simp[cC,cr]) (.cons (.data (by simp)) (.cons (.data (by simp)) (.cons ?_ .nil))) (by simp) rfl (λs=>Z6 hx hs N.len kr J s);exact(z.k.mem.own 1 _ _ _ rfl).vw (n:=14) (j7 _)
  obtain⟨s4,hz,kt⟩:=Z8 z.mp (by have:=N.sl;omega) (eZ x t p);have h5:dN s4 aw (Ew T H O x.nx.length t (lM.set p true)) K P (lG HV.str (CH u (eZ x t p)) 0):=by
   rw[kt];by_cases ht:eZ x t p∈u
   .rw[ar ht,CH,ar ht];exact z
   rw[aq ht];exact z.put _
  obtain⟨o5,s5,u1,u2,C⟩:=h5.jg 2 rfl p (by simp;omega) (x:=.bool false) rfl;simp[J]at u1;obtain rfl:=u1;have C:dN s5 aw (Ew T H O x.nx.length t lM) K P (lG HV.str (CH u (eZ x t p)) 0):=by
   have F:=C;have h2:((lM.set p true).map bC).set p [.bool false]=lM.map bC:=by rw[show [HV.bool false]=bC false from rfl,<-List.map_set,Lj ho]
   unfold Ew at F;simp only[cb,aS]at F;rw[h2]at F;exact F
  obtain⟨o6,s6,y1,y2,k2⟩:=C.jg 1 rfl p (by have:=N.len;simp;omega) (x:=iV (u.idxOf (eZ x t p))) rfl;simp[J]at y1;obtain rfl:=y1;have k2:dN s6 aw (Ew T H O x.nx.length (t.set p (u.idxOf (eZ x t p):Nat)) lM) K P (lG HV.str (CH u (eZ x t p)) 0):=by have F:=k2;unfold Ew at F ⊢;simp only[cb,aS]at F;rw[kI];exact F
  simp only[hU]at u2 y2;have y3:=Hl y2;have d1:=z.get B.xx;have d2:=z.get B.cc;have d3:=z.get B.km;have d4:=z.get B.o';have f1:=h5.get B.xx;have f2:=h5.get B.cc;have f3:=h5.get B.km;have f4:=h5.get B.o';have g2:=C.get B.cc;have g1:=C.get B.xx;have g3:=C.get B.km;have g4:=C.get B.o';simp only[aA,aE,bw,Nat.reduceAdd,Fa.c]at d1 d2 d3 d4 f1 f2 f3 f4 g1 g2 g3 g4;simp only[iV,Fa.c]at hy;simp only[iV]at hz y3;simp only[ab,ae]at D;simp[D,d1,d2,d3,d4,aj,hy,hz,f2,f4,J,u2,g2,y3]at A;subst A;refine⟨s6,_,lM,CH u (eZ x t p),false,YQ rfl ⟨.normal,_,s6,k3,.inl rfl,by simp⟩,k2,hg.len,λ_=>⟨rfl,hg,λq d F h2=>ka q d (kq q d F h2) h2,⟨_,gF (by rw[N.len];exact J),by omega⟩,λq hq=>?_⟩⟩;have kb:p≠q:=λe=>by subst e;rw[ho]at hq;cases hq
  rw[ju kb,k8 q (by rw[ju kb];exact hq)]
def ib{s s':HS}{o:Ky}{k:Nat}{v:HV}(h:qj 1 (some (.ptr o k)) (some v) s=.v .undef s')(c:cellsOf v=some [v]):kM s (ao s.h o) o k [v]=some s':=by
 rw[jf,c]at h;simp only[dO,dM,bf,lv]at h;cases b:kM s (ao s.h o) o k [v]with
 |none=>rw[b]at h;cases h
 |some s2=>rw[b]at h;cases h;rfl
def A6{x:Fa}(A:F9 x){P:aG}(h0:P 0)(r:∀i,i<x.nx.length->P i->∀e∈x.nx.getD i [],P e.to):∀i,i<x.nx.length->P i:=by
 obtain⟨c,B,C,D⟩:=A.bfs;have key:∀i,i<=x.nx.length->∀j,j<c i->P j:=by
  intro i
  induction i with
  |zero=>intro _ j b;rw[B]at b;rw[show j=0 by omega];exact h0
  |succ i v=>
   intro w;obtain⟨E,_,F,G⟩:=D i (by omega);have t:=v (by omega) i E;have d:=r i (by omega) t;have z:∀k,k<=(x.nx.getD i []).length->∀j,j<gm (c i) ((x.nx.getD i []).take k)->P j:=by
    intro k
    induction k with
    |zero=>intro _ j b;exact v (by omega) j (by simpa[gm]using b)
    |succ k p=>
     intro z j b;have q:k<(x.nx.getD i []).length:=by omega
     rw[eW q,ui]at b;unfold A2 at b
     split at b
     .rename_i H;by_cases u:j<gm (c i) ((x.nx.getD i []).take k)
      .exact p (by omega) j u
      have:j=((x.nx.getD i [])[k]).to:=by omega
      rw[this];exact d _ (bX q)
     exact p (by omega) j b
   intro j b;rw[F]at b;exact z _ (aY _) j (by rwa[j0])
 intro i w;exact key _ (aY _) i (by rw[C];exact w)
def Lh.Nt{x:Fa}(C:cJ x)(w:Gc x)(j:F9 x){cls:aQ}{ss:dH}(h:Lh x cls ss)(h0:sK cls 0):sJ x cls λp=>p<x.nx.length:=by
 have b:∀i,i<x.nx.length->sK cls i:=A6 j h0 λi _ ⟨c,k,r⟩=>(h.ok i c k r).1
 refine⟨h.len,λc j=>by have:=h.sm c j;omega,λp q z A t=>?_⟩;obtain⟨c,k,r⟩:=b p z;obtain⟨d,u,B⟩:=b q A;rw[dF,k,dF,u]at t;simp only[iY]at t;subst t;have v:=(h.ok p c k r).2;rw[(h.ok q c u B).2]at v;exact D7 w (λc j=>by have:=h.sm c j;unfold gn;omega) (kH v).symm
def ahG(x:Fa)(hx:cJ x)(hs:Gc x)(hc:F9 x)(h7:x.nx.length<=24):∃(cls:aQ) (b:Bool),(b=false->sJ x cls λp=>p<x.nx.length)/\gq U.f199 R [.agg x.c]=true/\∀s,R (.call 199 [.agg x.c] s)=.val (.bN [.psl (cls.map iC),.bool b]) s:=by
 have hn:=hx.n;have w:=hx.pos;generalize hr:bK R U.Ss (bn [.agg x.c] 0) s0=r
 suffices h:∃(cls:aQ) (b:Bool),(b=false->sJ x cls λp=>p<x.nx.length)/\pN [.cell 2 none,.cell 3 none] r=some (.bN [.psl (cls.map iC),.bool b])/\VQ [.cell 2 none,.cell 3 none] r=true by obtain⟨cls,b,h1,h,hf⟩:=h;rw[<-hr]at h hf;exact⟨cls,b,h1,by rw[sE];exact hf,λs=>afJ h⟩
 have h0:aI s0 (λ_=>none) [] []:=⟨dT.start (by simp),by simp,by simp⟩;generalize kk:s0=V at h0 hr;have h8:=h0.cY x.c;generalize h9:HS.mk _ _ _ _=z at h8;have ha:=h8.cY [.ai];generalize hd:HS.mk _ _ _ _=C at ha;have hg:=ha.cY [.bool false];generalize hj:HS.mk _ _ _ _=S3 at hg;obtain⟨c4,F⟩:=hg.Lc (sz:=1) (t:=[[iV (-1)]]) (Sz.cons rfl Sz.nil);have e4:=(F.bz 2 _ _ rfl).1.1;generalize hl:HS.mk _ _ _ _=S4 at F e4;simp only[bD,aA,aE,bw]at F;obtain⟨d,s5,c5,q5,ho⟩:=ahF F (i:=0) rfl h7 w;simp only[bB,bD]at ho;obtain⟨W,b6,X⟩:=ho.y6 (a:=1) rfl 0 (by simp) (x:=.sl d 0 x.nx.length 1) rfl;simp only[aS,cb]at X;have e6:=(X.bz 2 _ _ rfl).1.1;obtain⟨Y,m7,ke,kg⟩:=mc (s:=W) (n:=x.nx.length) (bx:=140737488355328) (by omega) (.bool false);obtain⟨c7,Z⟩:=X.join kg ke (λk hk=>by subst hk;exact aY _);rw[show List.replicate x.nx.length [HV.bool false]=(List.replicate x.nx.length false).map bC by simp]at Z;simp only[bB,bD]at Z;have hp:=Z.cY [.ai];generalize ht:HS.mk _ _ _ _=S8 at hp;obtain⟨s9,b9,hy⟩:=hp.y6 (a:=0) rfl 0 (by simp) (x:=.sl W.nx 0 x.nx.length 1) rfl;simp only[aS]at hy;have G:=hy.mkm;generalize hz:HS.mk _ _ _ _=j at G;have H:=G.cY [.fV];generalize I:HS.mk _ _ _ _=kl at H;obtain⟨u,k0,J⟩:=H.y6 (a:=0) rfl 0 (by simp) (x:=.mp s9.nx) rfl;simp only[aS]at J;have M:=J.cY [.gU];generalize N:HS.mk _ _ _ _=km at M;obtain⟨k1,OE,D⟩:=M.y6 (a:=0) rfl 0 (by simp) (x:=.fn 217 [] [.ptr Y.nx 0,.ptr V.nx 0,.ptr C.nx 0,.ptr z.nx 0,.ptr u.nx 0,.ptr j.nx 0]) rfl;simp only[aS]at D;have k2:=(D.k.bz 0 _ _ rfl).1.1;have hV:VK x d W.nx s9.nx V.nx z.nx C.nx Y.nx j.nx u.nx [(u.nx,[.fn 217 [] [.ptr Y.nx 0,.ptr V.nx 0,.ptr C.nx 0,.ptr z.nx 0,.ptr u.nx 0,.ptr j.nx 0]]),(j.nx,[.mp s9.nx]),(Y.nx,[.sl W.nx 0 x.nx.length 1]),(C.nx,[.bool false]),(z.nx,[.sl d 0 x.nx.length 1]),(V.nx,x.c)]:=
  ⟨by simp,by simp,by simp,by simp,by simp⟩
 have hB:Lh x (List.replicate x.nx.length (-1)) []:=by
  refine⟨by simp,λc hc=>by rw[AX hc];omega,?_,λq c hq hc=>?_⟩
  .have:=List.countP_le_length (p:=λc:Int=>decide (c<0)) (l:=List.replicate x.nx.length (-1));rw[Cm]at this;unfold VR;rw[aE];omega
  rw[zc]at hq
  split at hq
  .cases hq;omega
  cases hq
 have h2:dN k1 c7 (Ew S3.nx d W.nx x.nx.length (List.replicate x.nx.length (-1)) (List.replicate x.nx.length false)) [(u.nx,[.fn 217 [] [.ptr Y.nx 0,.ptr V.nx 0,.ptr C.nx 0,.ptr z.nx 0,.ptr u.nx 0,.ptr j.nx 0]]),(j.nx,[.mp s9.nx]),(Y.nx,[.sl W.nx 0 x.nx.length 1]),(C.nx,[.bool false]),(z.nx,[.sl d 0 x.nx.length 1]),(V.nx,x.c)] s9.nx (lG HV.str [] 0):=D;obtain⟨k5,cls,ki,ss,b,h3,k6,kn,O⟩:=ε hx hs (VS (List.replicate x.nx.length (-1)) (List.replicate x.nx.length false) x.nx.length) (al:=3) (p:=0) (c:= -1) hV rfl h2 hB (by simp) w (by rw[zc,ar w]) (by rw[zc,ar w]) (by omega) (aY _);have hK:∃P,dN k5 c7 (Ew S3.nx d W.nx x.nx.length cls ki) P s9.nx (lG HV.str ss 0)/\P[4]?=some (z.nx,[.sl d 0 x.nx.length 1])/\P[3]?=some (C.nx,[.bool b]):=by cases b<;>exact⟨_,by simpa using k6,rfl,rfl⟩
 obtain⟨P,h4,k4,k3⟩:=hK;have k7:=(h4.k.bz 4 _ _ k4).1.1;have Q:=(h4.k.bz 3 _ _ k3).1.1;obtain⟨ko,k8,A⟩:=h4.y6 k4 0 (by simp) (x:=.sl d 0 x.nx.length 1) rfl;simp only[aS]at A;have k9:(P.set 4 (z.nx,[.sl d 0 x.nx.length 1]))[4]?=some (z.nx,[.sl d 0 x.nx.length 1]):=gF (aV.1 k4).1;have h5:(P.set 4 (z.nx,[.sl d 0 x.nx.length 1]))[3]?=some (C.nx,[.bool b]):=by rw[ju (by omega)];exact k3
 have ka:=(A.k.bz 3 _ _ h5).1.1;have kb:=(A.k.bz 4 _ _ k9).1.1;obtain⟨kj,Va,B⟩:=A.y6 h5 0 (by simp) (x:=.bool b) rfl;simp only[aS]at B;have kc:((P.set 4 (z.nx,[.sl d 0 x.nx.length 1])).set 3 (C.nx,[.bool b]))[3]?=some (C.nx,[.bool b]):=gF (aV.1 h5).1;have kd:((P.set 4 (z.nx,[.sl d 0 x.nx.length 1])).set 3 (C.nx,[.bool b]))[4]?=some (z.nx,[.sl d 0 x.nx.length 1]):=by rw[ju (by omega)];exact k9
 have h6:=(B.k.bz 3 _ _ kc).1.1;have E:=(B.k.bz 4 _ _ kd).1.1;have T:=B.k.mem.own 1 _ _ _ rfl;have hv:=T.vw (n:=13) (j7 _);have h3:R (.call 217 [.int .i64 0,.ptr Y.nx 0,.ptr V.nx 0,.ptr C.nx 0,.ptr z.nx 0,.ptr u.nx 0,.ptr j.nx 0] k1)=.val (.bN []) k5:=h3;simp only[aA,aE,bw,Nat.reduceAdd,Fa.c,iV,dw,mV,bB,bD]at h9 hd hj hl ht I N e4 e6 k2 k7 Q ka kb h6 E q5;have d6:=ib b6 rfl;have d9:=ib b9 rfl;have kp:=ib k0 rfl;have kq:=ib OE rfl;have kr:=ib k8 rfl;have ks:=ib Va rfl;simp[U.Ss,d6,h9,hd,hj,hl,e4,q5,e6,m7,ht,b9,hz,I,k0,N,OE,k2,h3,k7,Q,k8,ka,Va]at hr;subst hr;refine⟨cls,b,λhb=>(O hb).2.1.Nt hx hs hc (O hb).2.2.2.1,?_,wm (v:=.bN [.sl d 0 x.nx.length 1,.bool b]) (s':=kj) (by simp[h6,E]) (NP λv hv=>?_)⟩
 .simp[h6,E];exact aC (.bN (.cons hv (.data (by simp))))
 rcases bm.1 hv with rfl|hv
 .exact sG T (Hg cls)
 rw[dE.1 hv];exact D3 rfl
def dN.push{s:HS}{aw:bc}{L:cS}{K:dV}{o:Ky}{es:List (HV×HV)}(h:dN s aw L K o es)(sz:Nat):dN s aw (L++[(.ai,sz,[])]) K o es:=⟨h.k.push sz,h.mp,h.lt,h.co⟩
abbrev Ht:Int->HV:=λn=>iV n
def uY(cls:aQ)(c:Nat):aQ:=(List.range c).map λi=>cls.getD i 0
def NV{cls:aQ}{n:Nat}(b:∀i j:Nat,i<n->j<n->cls.getD i 0=cls.getD j 0->i=j){c p:Nat}(r:c<=n)(k:p<c):(uY cls c).idxOf (cls.getD p 0)=p/\cls.getD p 0∈uY cls c:=by
 have d:cls.getD p 0∈uY cls c:=dA.2 ⟨p,gy.2 k,rfl⟩;refine⟨?_,d⟩;have q:p<(uY cls c).length:=by simp[uY,k]
 refine rG (p:=λa=>a==cls.getD p 0) q (λj t=>?_) ?_
 .simp only[uY,Ch,Cw,beq_eq_false_iff_ne];intro e;have:=b j p (by omega) (by omega) e;omega
 simp[uY]
def NW{cls:aQ}{n:Nat}(b:∀i j:Nat,i<n->j<n->cls.getD i 0=cls.getD j 0->i=j){c:Nat}(d:c<n):cls.getD c 0 ∉ uY cls c:=by intro h;obtain⟨j,k,p⟩:=dA.1 h;rw[gy]at k;have:=b j c (by omega) d p;omega
def Lk(cls:aQ)(c:Nat):uY cls (c+1)=uY cls c++[cls.getD c 0]:=by simp[uY,FI]
section
variable{s:HS}{aw:bc}{L:cS}{K:dV}
def ζ{cls:aQ}{n:Nat}(h7:cls.length=n)(hn:n<=400)(v:∀i j:Nat,i<n->j<n->cls.getD i 0=cls.getD j 0->i=j){c p a:Nat}(hp:p<n)(h8:p<=c)(J:c<=n){sS jr kf H:Ky}{M:HV}
  (w:dN s aw L K H (lG Ht (uY cls c) 0))(N:L[0]?=some (M,1,(List.range c).map nC))(I:K[a]?=some (kf,[M]))(O:(sS,[.mp H])∈K)(P:(jr,[.psl (cls.map iC)])∈K):
  ∃s' C q,R (.call 221 [iV p,.ptr sS 0,.ptr jr 0,.ptr kf 0] s)=.val (iV p) s'/\dN s' C (L.set 0 (q,1,(List.range (if p=c then c+1 else c)).map nC)) (K.set a (kf,[q])) H (lG Ht (uY cls (if p=c then c+1 else c)) 0):=by
 have d:p<cls.length:=by omega
 have h6:(p:Int)<cls.length:=by omega
 have Q:=(aV.1 N);have T:=(aV.1 I);have V:=w.get O;have W:=w.get P;have d3:=(w.k.bz a _ _ I).1.1;have b:=lkK (K:=KI) (f:=Ht) l7 (λ_=>rfl) w.mp (cls.getD p 0);simp only[aA,aE,bw]at V W d3;rw[getD_at d]at b;by_cases X:p<c
 .obtain⟨h1,Y⟩:=NV v J X;rw[getD_at d]at h1 Y;rw[ar Y,h1,cV Y]at b;have z:∃A,ev R U.Fy (bn [iV p,.ptr sS 0,.ptr jr 0,.ptr kf 0] 0) s=.code .ret A s/\look A 5=some (iV p):=by generalize D:ev R U.Fy (bn [iV p,.ptr sS 0,.ptr jr 0,.ptr kf 0] 0) s=r;simp only[iV]at b;simp[U.Fy,V,W,d,b]at D;subst D;exact⟨_,rfl,by simp⟩
  obtain⟨A,z,Z⟩:=z;refine⟨s,aw,M,YS rfl ⟨.ret,_,s,z,.inr rfl,by simp[Z]⟩,?_⟩;rw[aq (by omega),<-Q.2,y8,<-T.2,y8];exact w
 have h3:p=c:=by omega
 subst h3;have t:=NW v hp;rw[getD_at d]at t;rw[aq t,cu t]at b;have u:=muK (K:=KI) (f:=Ht) l7 (λ_=>rfl) w.mp t;have B:=w.put (lG Ht (uY cls p++[cls[p]]) 0);have e3:=(B.k.bz a _ _ I).1.1;generalize h9:s.aK H (Ob.mp (lG Ht (uY cls p++[cls[p]]) 0))=S1 at B u e3;obtain⟨q,s2,E,a2,k2,h4⟩:=B.append 0 N (new:=[[iV p]]) (Sz.cons rfl Sz.nil) (by simp) (bx:=17592186044416) (by simp;omega);obtain⟨s3,b3,F⟩:=h4.y6 I 0 (by simp) k2;simp only[aS]at F;have hlen:=w.k.mem.len 0 N s;rw[bH,Cx]at hlen;have G:(uY cls p).length=p:=by simp[uY]
 rw[G]at u;simp only[aA,aE,bw]at e3;have z:∃A,ev R U.Fy (bn [iV p,.ptr sS 0,.ptr jr 0,.ptr kf 0] 0) s=.code .ret A s3/\look A 5=some (iV p):=by generalize D:ev R U.Fy (bn [iV p,.ptr sS 0,.ptr jr 0,.ptr kf 0] 0) s=r;simp only[iV]at b u hlen;simp[U.Fy,V,W,d3,d,b,hlen,u,e3,a2,b3]at D;subst D;exact⟨_,rfl,by simp⟩
 obtain⟨A,z,Z⟩:=z;refine⟨s3,E,q,YS rfl ⟨.ret,_,s3,z,.inr rfl,by simp[Z]⟩,?_⟩;rw[ar rfl,Lk,getD_at d,FI,eD];exact F
end
def A7(c:Nat):∀(l:bA) (k:Nat),gm c (l.take k)<=gm c l:=by
 have b:∀(l:bA) (c:Nat),c<=gm c l:=by
  intro l
  induction l with
  |nil=>intro c;exact aY _
  |cons e l d=>
   intro c;have:=d (A2 c e);unfold gm at*;rw[nO];have:c<=A2 c e:=by unfold A2;split<;>omega
   omega
 intro l k
 conv=>rhs;rw[<-List.take_append_drop k l]
 unfold gm;rw[List.foldl_append];exact b _ _
def η{x:Fa}(O:cJ x){cls:aQ}(P:cls.length=x.nx.length)(C:∀i j:Nat,i<x.nx.length->j<x.nx.length->cls.getD i 0=cls.getD j 0->i=j){i c0:Nat}(hi:i<x.nx.length)(Q:gm c0 x.nx[i]<=x.nx.length)
  (hb:∀(k:Nat) (e:Eg),x.nx[i][k]?=some e->e.to<=gm c0 (x.nx[i].take k)){M:cS}{e:En}{s:HS}{o:Out}{sS jr kf ns u:Ky}{b vN vF v9:HV}{aw:bc}
  (d:bO e [(2,.ax x.c),(4,.ptr ns 0),(6,.ptr kf 0),(7,.fn 221 [] [.ptr sS 0,.ptr jr 0,.ptr kf 0]),(8,iV i),(9,v9),(29,.psl (x.nx[i].map Eg.c)),(30,iV x.nx[i].length),(31,iV 0)])
  (B:dN s aw ((b,1,(List.range c0).map nC)::(M++[(v9,5,[])])) [(kf,[b]),(sS,[.mp u]),(ns,[vN,vF]),(jr,[.psl (cls.map iC)])] u (lG Ht (uY cls c0) 0))(ho:bK R (.loop U.yb) e s=o):
  ∃(e':En) (s':HS) (aw:bc) (b v9:HV),o=.code (.exit 2) e' s'/\bO e' [(2,.ax x.c),(4,.ptr ns 0),(6,.ptr kf 0),(7,.fn 221 [] [.ptr sS 0,.ptr jr 0,.ptr kf 0]),(8,iV i),(9,v9)]/\
   dN s' aw ((b,1,(List.range (gm c0 x.nx[i])).map nC)::(M++[(v9,5,x.nx[i].map Eg.c)])) [(kf,[b]),(sS,[.mp u]),(ns,[vN,vF]),(jr,[.psl (cls.map iC)])] u (lG Ht (uY cls (gm c0 x.nx[i])) 0):=by
 have hn:=O.n;have h2:=O.row hi;refine aX ho x.nx[i].length
  (λk e s=>∃(aw:bc) (b v9:HV),bO e [(2,.ax x.c),(4,.ptr ns 0),(6,.ptr kf 0),(7,.fn 221 [] [.ptr sS 0,.ptr jr 0,.ptr kf 0]),(8,iV i),(9,v9),(29,.psl (x.nx[i].map Eg.c)),(30,iV x.nx[i].length),(31,iV k)]/\
   dN s aw ((b,1,(List.range (gm c0 (x.nx[i].take k))).map nC)::(M++[(v9,5,(x.nx[i].take k).map Eg.c)])) [(kf,[b]),(sS,[.mp u]),(ns,[vN,vF]),(jr,[.psl (cls.map iC)])] u (lG Ht (uY cls (gm c0 (x.nx[i].take k))) 0))
  (λo=>∃(e':En) (s':HS) (aw:bc) (b v9:HV),o=.code (.exit 2) e' s'/\bO e' [(2,.ax x.c),(4,.ptr ns 0),(6,.ptr kf 0),(7,.fn 221 [] [.ptr sS 0,.ptr jr 0,.ptr kf 0]),(8,iV i),(9,v9)]/\
   dN s' aw ((b,1,(List.range (gm c0 x.nx[i])).map nC)::(M++[(v9,5,x.nx[i].map Eg.c)])) [(kf,[b]),(sS,[.mp u]),(ns,[vN,vF]),(jr,[.psl (cls.map iC)])] u (lG Ht (uY cls (gm c0 x.nx[i])) 0))
  0 (by omega) ⟨aw,b,v9,d,by simpa[gm]using B⟩
  (λk e s r D ⟨aw,b,v9,d,B⟩ E=>by
   have T:(k:Int)<x.nx[i].length:=by omega
   have F:=aO D;have V:=O.to _ (bX hi) _ (bX D);have hle:=hb k _ F;have W:gm c0 (x.nx[i].take k)<=x.nx.length:=fh (A7 _ _ _) Q;have X:(x.nx[i].map Eg.c)[k]?=some (x.nx[i][k]).c:=by rw[fW,F];rfl
   have w:gm c0 (x.nx[i].take (k+1))=if(x.nx[i][k]).to=gm c0 (x.nx[i].take k)then gm c0 (x.nx[i].take k)+1 else gm c0 (x.nx[i].take k):=by rw[eW D,ui];rfl
   have Y:x.nx[i].take (k+1)=x.nx[i].take k++[x.nx[i][k]]:=eW D;generalize he:x.nx[i][k]=N at*;generalize hc:gm c0 (x.nx[i].take k)=c at*;have z:=B.cY N.c;have Z:=(z.k.bz 0 _ _ rfl).1.1;generalize G:HS.mk _ _ _ _=S1 at z Z;obtain⟨s2,h1,q,v,t⟩:=ζ P hn C (a:=1) (p:=N.to) V hle W z rfl rfl (sS:=sS) (jr:=jr) (by simp) (by simp);simp only[aS,cb]at t;rw[<-w]at t;have d2:=(t.k.bz 0 _ _ rfl).1.1;have hg:((q,1,(List.range (gm c0 (x.nx[i].take (k+1)))).map nC)::(M++[(v9,5,(x.nx[i].take k).map Eg.c)]))[M.length+1]?=some (v9,5,(x.nx[i].take k).map Eg.c):=by simp
   obtain⟨A,s3,H,a3,k3,I⟩:=t.append (M.length+1) hg (new:=[N.c]) (Sz.cons rfl Sz.nil) (by simp) (bx:=3518437208883) (by simp;omega);have J:((q,1,(List.range (gm c0 (x.nx[i].take (k+1)))).map nC)::(M++[(v9,5,(x.nx[i].take k).map Eg.c)])).set (M.length+1) (A,5,(x.nx[i].take k).map Eg.c++[N.c])=(q,1,(List.range (gm c0 (x.nx[i].take (k+1)))).map nC)::(M++[(A,5,(x.nx[i].take (k+1)).map Eg.c)]):=by rw[Y];simp
   rw[J]at I;have hw:=bj (n:=6000) (show k<6000 by omega) (by omega);simp only[ab,ae]at d;simp only[Eg.c,aA,aE,bw,Nat.reduceAdd,iV]at Z d2 G X v a3;simp[U.yb,d,D,T,he,G,Z,d2,ah,an,aj,v,a3,hw]at E;subst E;exact .inl ⟨_,_,rfl,H,q,A,by simp[d],I.tail⟩)
  (λe s r ⟨aw,b,v9,d,B⟩ E=>by
   simp only[ab,ae]at d;simp[U.yb,d]at E;subst E;rw[j0]at B;exact⟨by simp,_,_,aw,b,v9,rfl,by simp[d],B⟩)
def θ{x:Fa}(V:cJ x){cls:aQ}(Y:cls.length=x.nx.length)(E:∀i j:Nat,i<x.nx.length->j<x.nx.length->cls.getD i 0=cls.getD j 0->i=j){c:Nat->Nat}(c0:c 0=1)(cn:c x.nx.length=x.nx.length)
  (hb:∀i,i<x.nx.length->i<c i/\c i<=x.nx.length/\c (i+1)=gm (c i) (x.nx.getD i [])/\∀k e,(x.nx.getD i [])[k]?=some e->e.to<=gm (c i) ((x.nx.getD i []).take k))
  {e:En}{s:HS}{o:Out}{sS jr kf ns w:Ky}{d:HV}{aw:bc}
  (u:bO e [(2,.ax x.c),(4,.ptr ns 0),(6,.ptr kf 0),(7,.fn 221 [] [.ptr sS 0,.ptr jr 0,.ptr kf 0]),(8,iV 0)])
  (p:dN s aw [(d,1,(List.range 1).map nC),(.ai,1,[]),(.ai,1,[])] [(kf,[d]),(sS,[.mp w]),(ns,[.ai,.ai]),(jr,[.psl (cls.map iC)])] w (lG Ht (uY cls 1) 0))(W:bK R (.loop U.yc) e s=o):
  ∃(e':En) (s':HS) (aw:bc) (d vN vF:HV) (az:cS),o=.code (.exit 0) e' s'/\bO e' [(4,.ptr ns 0)]/\
   dN s' aw ((d,1,(List.range x.nx.length).map nC)::(vN,1,az.map fY)::(vF,1,x.fi.map bC)::az) [(kf,[d]),(sS,[.mp w]),(ns,[vN,vF]),(jr,[.psl (cls.map iC)])] w (lG Ht (uY cls x.nx.length) 0)/\az.map (·.2)=x.nx.map (λes=>(5,es.map Eg.c)):=by
 have hn:=V.n;have Z:=V.nf;have h6:=V.pos;refine aX W x.nx.length
  (λi e s=>∃(aw:bc) (d vN vF:HV) (az:cS),bO e [(2,.ax x.c),(4,.ptr ns 0),(6,.ptr kf 0),(7,.fn 221 [] [.ptr sS 0,.ptr jr 0,.ptr kf 0]),(8,iV i)]/\
   dN s aw ((d,1,(List.range (c i)).map nC)::(vN,1,az.map fY)::(vF,1,(x.fi.take i).map bC)::az) [(kf,[d]),(sS,[.mp w]),(ns,[vN,vF]),(jr,[.psl (cls.map iC)])] w (lG Ht (uY cls (c i)) 0)/\az.map (·.2)=(x.nx.take i).map (λes=>(5,es.map Eg.c))/\az.length=i)
  (λo=>∃(e':En) (s':HS) (aw:bc) (d vN vF:HV) (az:cS),o=.code (.exit 0) e' s'/\bO e' [(4,.ptr ns 0)]/\
   dN s' aw ((d,1,(List.range x.nx.length).map nC)::(vN,1,az.map fY)::(vF,1,x.fi.map bC)::az) [(kf,[d]),(sS,[.mp w]),(ns,[vN,vF]),(jr,[.psl (cls.map iC)])] w (lG Ht (uY cls x.nx.length) 0)/\az.map (·.2)=x.nx.map (λes=>(5,es.map Eg.c)))
  0 (by omega) ⟨aw,d,.ai,.ai,[],u,by rw[c0];simpa using p,by simp,rfl⟩
  (λi e s r C ⟨aw,d,vN,vF,az,u,p,X,F⟩ z=>by
   obtain⟨G,hd,v,H⟩:=hb i C;rw[getD_at C]at v H;have hf:(i:Int)<x.nx.length:=by omega
   have I:(i:Int)<c i:=by omega
   have J:c (i+1)<=x.nx.length:=by
    by_cases hl:i+1<x.nx.length
    .exact(hb (i+1) hl).2.1
    rw[show i+1=x.nx.length by omega,cn];exact aY _
   obtain⟨of,rfl⟩:=(p.k.mem.own 0 _ _ _ rfl).fY (by intro h;have:=ct List.length h;simp at this;omega);rw[bH,Cx]at p;have D:=(p.k.bz 0 _ _ rfl).1.1;have g1:=ik (p.k.mem.own 0 _ _ _ rfl) (i:=i) (by simpa using G);rw[Cw]at g1;have h7:(x.nx.map oM)[i]?=some [.psl (x.nx[i].map Eg.c)]:=by rw[fW,aO C];rfl
   have hw:=bj (n:=400) (show i<400 by omega) (by omega);simp only[ab,ae]at u;simp only[aA,aE,bw]at D;simp[U.yc,u,D,G,I,C,g1]at z;generalize W:bK R (.loop U.yb) _ _=o at z;have N:=p.push 5;simp only[bB]at N;obtain⟨e2,s2,h8,hg,v9,rfl,A,b⟩:=η V Y E C (c0:=c i) (by rw[<-v];exact J) H (M:=(vN,1,az.map fY)::(vF,1,(x.fi.take i).map bC)::az) (sS:=sS) (jr:=jr) (kf:=kf) (ns:=ns) (v9:=.ai) (by simp[u]) N W;clear W;rw[<-v]at b;simp only[bB]at b;have q:i<c (i+1):=by have:=A7 (c i) x.nx[i] 0;simp only[T6]at this;have h2:gm (c i) []=c i:=rfl;rw[v];omega
   have h1:(i:Int)<c (i+1):=by omega
   obtain⟨h3,rfl⟩:=(b.k.mem.own 0 _ _ _ rfl).fY (by intro h;have:=ct List.length h;simp at this;omega);rw[bH,Cx]at b;have c8:cellsOf v9=some [v9]:=(b.k.mem.own (az.length+3) v9 5 _ (by simp;rfl)).one;have f1:=(b.k.bz 0 _ _ rfl).1.1;have f2:=(b.k.bz 2 _ _ rfl).1.1;have g2:=ik (b.k.mem.own 0 _ _ _ rfl) (i:=i) (by simpa using q);rw[Cw]at g2;obtain⟨h4,s3,h9,a3,k3,t⟩:=b.append 1 rfl (new:=[[v9]]) (Sz.cons rfl Sz.nil) (by simp) (bx:=5864062014805) (by simp;omega);simp only[cb,aS]at t;have f3:=(t.k.bz 0 _ _ rfl).1.1;have f4:=(t.k.bz 2 _ _ rfl).1.1;have g3:=ik (t.k.mem.own 0 _ _ _ rfl) (i:=i) (by simpa using q);rw[Cw]at g3;have O:i<x.fi.length:=by omega
   have ha:(i:Int)<x.fi.length:=by omega
   obtain⟨h5,s4,P,a4,k4,Q⟩:=t.append 2 rfl (new:=[bC x.fi[i]]) (Sz.cons rfl Sz.nil) (by simp) (bx:=140737488355328) (by simp;omega);simp only[cb,aS]at Q;obtain⟨s5,b5,T⟩:=Q.y6 (a:=2) rfl 0 (by simp) k3;simp only[cb,aS]at T;obtain⟨s6,b6,B⟩:=T.y6 (a:=2) rfl 1 (by simp) k4;simp only[cb,aS]at B;simp only[bC]at a4;simp only[aA,aE,bw,Nat.reduceAdd]at f1 f2 f3 f4;simp only[ab,ae]at A;simp[A,f1,f2,f3,f4,g2,g3,q,O,c8,a3,a4,b5,b6,hw]at z;subst z;refine .inl ⟨_,_,rfl,P,.sl h3 0 (c (i+1)) 1,h4,h5,az++[(v9,5,x.nx[i].map Eg.c)],by simp[A],?_,?_,by simp[F]⟩
   .rw[show az.map fY++[[v9]]=(az++[(v9,5,x.nx[i].map Eg.c)]).map fY by simp,show(x.fi.take i).map bC++[bC x.fi[i]]=(x.fi.take (i+1)).map bC by rw[eW O,eD];rfl]at B;exact B
   rw[eW C,eD,eD,X];rfl)
  (λe s r ⟨aw,d,vN,vF,az,u,p,X,F⟩ z=>by
   rw[cn]at p;obtain⟨of,rfl⟩:=(p.k.mem.own 0 _ _ _ rfl).fY (by intro h;have:=ct List.length h;rw[bH,Cx]at this;simp only[aE]at this;omega);have D:=(p.k.bz 0 _ _ rfl).1.1;rw[bH,Cx]at D;simp only[ab,ae]at u;simp only[aA,aE,bw]at D;simp[U.yc,u,D]at z;subst z;rw[j0]at X;rw[show x.fi.take x.nx.length=x.fi by rw[Z,j0]]at p;exact⟨by simp,_,_,aw,_,vN,vF,az,rfl,by simp[u],p,X⟩)
def ι(x:Fa)(hx:cJ x)(E:F9 x){cls:aQ}(F:cls.length=x.nx.length)(A:∀i j:Nat,i<x.nx.length->j<x.nx.length->cls.getD i 0=cls.getD j 0->i=j):gq U.f201 R [.agg x.c,.psl (cls.map iC)]=true/\∀s,R (.call 201 [.agg x.c,.psl (cls.map iC)] s)=.val (.agg x.c) s:=by
 have hn:=hx.n;have G:=hx.pos;obtain⟨c,c0,cn,hb⟩:=E.bfs;generalize D:bK R U.Su (bn [.agg x.c,.psl (cls.map iC)] 0) s0=r
 suffices h:pN [.cell 4 (some 2)] r=some (.agg x.c)/\VQ [.cell 4 (some 2)] r=true by obtain⟨h,hf⟩:=h;rw[<-D]at h hf;exact⟨by rw[sE];exact hf,λs=>afN h⟩
 have h0:aI s0 (λ_=>none) [] []:=⟨dT.start (by simp),by simp,by simp⟩;generalize h9:s0=S0 at h0 D;have H:=h0.cY [.psl (cls.map iC)];generalize I:HS.mk _ _ _ _=S1 at H;have J:=H.cY [.ai,.ai];generalize M:HS.mk _ _ _ _=S2 at J;have N:=J.mkm;generalize h5:HS.mk _ _ _ _=S3 at N;have O:=N.cY [.fV];generalize P:HS.mk _ _ _ _=S4 at O;obtain⟨s5,b5,Q⟩:=O.y6 (a:=0) rfl 0 (by simp) (x:=.mp S2.nx) rfl;simp only[aS]at Q;have B:=(Q.cY [.ai]).push 1;generalize T:HS.mk _ _ _ _=S6 at B;simp only[bD]at B;obtain⟨s7,h8,vf,d,V⟩:=ζ (L:=[(.ai,1,[])]) F hn A (c:=0) (p:=0) (a:=0) (sS:=S3.nx) (jr:=S0.nx) G (aY _) (by omega) (by simpa[uY,lG]using B) rfl rfl (by simp) (by simp);simp only[aS,bf,bw]at V;have W:=(V.push 1).push 1;simp only[bB,bD]at W;have d5:=ib b5 rfl;have d:R (.call 221 [.int .i64 0,.ptr S3.nx 0,.ptr S0.nx 0,.ptr s5.nx 0] S6)=.val (.int .i64 0) s7:=d;simp only[aA,aE,bw,Nat.reduceAdd]at I M P T;simp[U.Su,I,M,h5,P,b5,T,d]at D;generalize ho:bK R (.loop U.yc) _ _=o at D;obtain⟨e9,s9,X,ha,Y,Z,az,rfl,z,q,hI⟩:=θ hx F A c0 cn hb (sS:=S3.nx) (jr:=S0.nx) (kf:=s5.nx) (ns:=S1.nx) (by simp) W ho;clear ho;have cN:cellsOf Y=some [Y]:=(q.k.mem.own 1 _ _ _ rfl).one;have cF:cellsOf Z=some [Z]:=(q.k.mem.own 2 _ _ _ rfl).one;have hC:=(q.k.bz 2 _ _ rfl).1.1;obtain⟨h1,GF,b⟩:=q.k.put (a:=2) rfl (v:=.agg [Y,Z]) (new:=[Y,Z]) (by simp) rfl;simp only[cb,aS]at b;have hE:=(b.bz 2 _ _ rfl).1.1;simp only[aA,aE,bw,Nat.reduceAdd]at GF hE hC;simp only[ab,ae]at z;simp[z,hC,aj,GF]at D;subst D;have t:∀k,(C:k<az.length)->∃u:k<x.nx.length,az[k].2=(5,(x.nx[k]).map Eg.c)/\bY h1 az[k].1 5 (λp=>X p=some (k+3)) ((x.nx[k]).map Eg.c):=by
  intro k C;have h2:=ct (λl=>l[k]?) hI;simp[C]at h2;have hlen:az.length=x.nx.length:=by have:=ct List.length hI;simpa using this
  have u:k<x.nx.length:=by omega
  have h4:az[k].2=(5,(x.nx[k]).map Eg.c):=by simp[u]at h2;exact h2.symm▸rfl
  exact⟨u,h4,b.mem.own (k+3) az[k].1 5 ((x.nx[k]).map Eg.c) (by simp[C];rw[<-h4])⟩
 refine⟨?_,wm (v:=.agg [Y,Z]) (s':=h1) (by simp[z,hE,aj]) (NQ λv hv=>?_)⟩
 .simp[z,hE,aj];refine aC (.agg (.cons ?_ (.cons ?_ .nil)))
  .have h6:=((b.mem.own 1 _ _ _ rfl).YE (f:=λe:tR=>e.1) (g:=λe:tR=>HV.psl e.2.2) (n:=14) (λy hy=>?_))
   .have:az.map (λx=>[HV.psl x.2.2])=x.nx.map oM:=by
     have h:=ct (List.map λ(p:Nat×List ak)=>[HV.psl p.2]) hI;have h3:oM=λx:bA=>[HV.psl (List.map Eg.c x)]:=rfl
     rw[h3];simpa[tS]using h
    rw[<-this];exact h6
   obtain⟨k,C,rfl⟩:=eH.1 hy;obtain⟨u,h4,w⟩:=t k C;rw[h4];exact w.vw (by simp)
  exact(b.mem.own 2 _ _ _ rfl).vw (by simp)
 rcases bm.1 hv with rfl|hv
 .refine A3 (b.mem.own 1 _ _ _ rfl) λc E=>?_
  have h7:aD (az.map fY)=az.map (·.1):=by
   clear q b hI t E
   induction az with|nil=>rfl|cons a l ih=>rw[cL,dw,ih];rfl
  rw[h7]at E;obtain⟨y,hy,rfl⟩:=dA.1 E;obtain⟨k,C,rfl⟩:=eH.1 hy;obtain⟨u,h4,w⟩:=t k C;exact sG w (K5 _)
 rw[dE.1 hv];exact sG (b.mem.own 2 _ _ _ rfl) (Hh _)
open Classical in
def ahH(l:fH)(d:l.length<=6000)(s:HS):R (.call 160 [.psl (l.map Ei.c)] s)=.val (.bool (!decide (rH l))) s:=by
 refine ae9 ?_;have h:=ahd l d;by_cases b:rH l
 .simp only[b,eV]at h;simp[U.RD,h,b,aa]
 simp only[b,lb]at h;simp[U.RD,h,b,aa]
open Classical in
def κ(x:Ax)(w:my x)(s:HS):R (.call 191 [.psl (x.nx.map zy),.fn 160 [] []] s)=.val (iV (z7 (λl:fH=> !decide (rH l)) x.nx)) s:=by
 refine YM ?_ rfl (by simp[eh]);have G:=w.n;simp[U.Sk];generalize z:bK R (.loop U.n5) _ _=o;have A:=jh z x.nx.length (λi=>∀h:i<x.nx.length,rH x.nx[i]) (λi=>[(0,.psl (x.nx.map zy)),(1,.fn 160 [] []),(7,iV x.nx.length),(8,iV i)]) [] 0 (λi o=>∃u,o=.code .ret u s0/\look u 4=some (iV i)) (by simp)
  (λi e r c d k=>by
   have q:(i:Int)<x.nx.length:=by omega
   have b:=ahH x.nx[i] (w.row (aO c));simp only[ab,ae]at d;by_cases v:rH x.nx[i]
   .simp only[v,eV,oC]at b;simp[U.n5,d,c,q,b,bj (n:=6000) (show i<6000 by omega) (by omega)]at k;subst k;exact .inl ⟨λ_=>v,_,rfl,by simp[d]⟩
   simp only[v,lb,yO]at b;simp[U.n5,d,c,q,b]at k;subst k;exact .inr ⟨λh=>v (h c),by simp,_,rfl,by simp⟩)
  (λe r d k=>by
   simp only[ab,ae]at d;simp[U.n5,d]at k;subst k;exact⟨_,rfl,by simp⟩)
 clear z;rcases A with⟨i,c,B,C,u,rfl,D⟩|⟨t,u,rfl,_⟩
 .have E:¬rH x.nx[i]:=λh=>C λ_=>h
  rw[wk (p:=λl:fH=> !decide (rH l)) c (λj F=>by simpa using B j F (by omega)) (by simpa using E)];simp[D,aa]
 rw[nq (p:=λl:fH=> !decide (rH l)) (λi c=>by simpa using t i c c)];simp[aa]
open Classical in
def μ(x:Ax)(b:my x)(s:HS):R (.call 164 [.psl (x.nx.map zy),.fn 160 [] []] s)=.val (.bool (x.nx.any λl=> !decide (rH l))) s:=by refine YL ?_ rfl (by simp[eh]);have h:=κ x b;simp only[iV]at h;rw[<-za];simp[U.RH,h,aa]
def Ll(l:bA):rH (l.map Eg.i)↔vC l:=by unfold rH vC;simp only[bH,Ch,Eg.i]
open Classical in
def NX(x:Fa):(x.i.nx.any λl=> !decide (rH l))= !decide (tV x):=by
 by_cases b:tV x
 .rw[cV b,oC,rA];intro l c;obtain⟨j,d,rfl⟩:=dA.1 c;simp[(Ll j).2 (b j d)]
 rw[cu b,yO,mO];obtain⟨l,c⟩:=Classical.not_forall.1 b;obtain⟨d,k⟩:=Classical.not_imp.1 c;exact⟨l.map Eg.i,dA.2 ⟨l,d,rfl⟩,by simp[mt (Ll l).1 k]⟩
def eQ{s s':HS}{o:Ky}{k n:Nat}{v:HV}{l:ak}(h:qj n (some (.ptr o k)) (some v) s=.v .undef s')(c:cellsOf v=some l)(d:l.length=n):kM s (ao s.h o) o k l=some s':=by
 rw[jf,c]at h;simp only[dO,d,bf,lv]at h;cases b:kM s (ao s.h o) o k l with
 |none=>rw[b]at h;cases h
 |some s2=>rw[b]at h;cases h;rfl
def A8{x:Fa}{cls:aQ}{m:Mv}{P:Eg->Bool}:∀{l l':bA},l.map (λe=>(e.m,cls.getD e.to 0))=l'.map (λe=>(e.m,cls.getD e.to 0))->(∀e∈l,P e=decide (e.m=m))->(∀e∈l',P e=decide (e.m=m))->
  match l.find? P,l'.find? P with|none,none=>True|some e,some j=>cls.getD e.to 0=cls.getD j.to 0/\e∈l/\j∈l'|_,_=>False
 |[],[],_,_,_=>trivial
 |[],b::l',h,_,_=>by cases h
 |a::l,[],h,_,_=>by cases h
 |a::l,b::l',h,k,p=>by
  rw[cL,cL]at h;injection h with r t
  injection r with u v
  have c:=A8 (x:=x) (m:=m) (P:=P) t (λe d=>k e (by simp[d])) (λe d=>p e (by simp[d]));rw[ue,ue,k a (by simp),p b (by simp),u];by_cases q:b.m=m
  .simp only[q,eV];exact⟨v,by simp⟩
  simp only[q,lb];cases w:l.find? P<;>cases z:l'.find? P<;>rw[w,z]at c
  .exact c
  .exact c
  .exact c
  exact⟨c.1,by simp[c.2.1,c.2.2]⟩
def Eb{x:Fa}(r:cJ x)(A:F9 x){cls:aQ}(w:sJ x cls λp=>p<x.nx.length):∀i j:Nat,i<x.nx.length->j<x.nx.length->cls.getD i 0=cls.getD j 0->i=j:=by
 intro i j B C t;have D:=r.nf;refine A.inj (λa b=>a<x.nx.length/\b<x.nx.length/\cls.getD a 0=cls.getD b 0) ⟨λa b ⟨k,q,d⟩=>?_,λa b ⟨k,q,d⟩ m=>?_⟩ i j ⟨B,C,t⟩
 .have c:=(w.eq a b k q d).1;rw[getD_at (by omega),getD_at (by omega)]at c;exact⟨k,q,by rw[aO (by omega),aO (by omega),c],by rw[zc,zc,ar k,ar q]⟩
 have z:∀p,∀e∈x.nx.getD p [],hX (List.replicate x.nx.length true) m e=decide (e.m=m):=by intro p e t;have:=jJ r p e t;unfold hX;rw[dF,zc,ar this];simp
 have c:=A8 (x:=x) (m:=m) (w.eq a b k q d).2 (z a) (z b);cases u:(x.nx.getD a []).find? (hX (List.replicate x.nx.length true) m)<;>cases v:(x.nx.getD b []).find? (hX (List.replicate x.nx.length true) m)<;>rw[u,v]at c
 .trivial
 .exact c
 .exact c
 exact⟨jJ r a _ c.2.1,jJ r b _ c.2.2,c.1⟩
def ahI(x:Fa)(A:cJ x)(hs:Gc x)(d:x=mY∨F9 x)(h9:x.nx.length<=24){s:HS}{aw:bc}{vN vF:HV}(h:aI s aw [(vF,1,x.fi.map bC),(vN,1,x.nx.map oM)] []):
  ∃s',R (.call 166 [.agg [vN,vF]] s)=.val (.agg x.c) s':=by
 have hn:=A.n;have ha:=A.nf;have hd:=A.pos;obtain⟨t,rfl⟩:=(h.mem.own 1 _ _ _ rfl).fY (by intro h;have:=ct List.length h;rw[bH]at this;simp only[aE]at this;omega);obtain⟨w,rfl⟩:=(h.mem.own 0 _ _ _ rfl).fY (by intro h;have:=ct List.length h;rw[bH]at this;simp only[aE]at this;omega);rw[bH,bH,<-ha]at h;rw[bH,bH,<-ha];obtain⟨u,T,V,hg⟩:=ahu x A;have ka:=T.1;have q:∀{S:HS} {aw:bc} {K:dV},aI S aw [(.sl w 0 x.nx.length 1,1,x.fi.map bC),(.sl t 0 x.nx.length 1,1,x.nx.map oM)] K->Vw S 16 (.agg [.sl t 0 x.nx.length 1,.sl w 0 x.nx.length 1]) (.agg x.c):=λh=>.agg (.cons ((h.mem.own 1 _ _ _ rfl).vw (n:=13) (pR _)) (.cons ((h.mem.own 0 _ _ _ rfl).vw (n:=13) (Nz _)) .nil))
 have G:=h.cY [.ai,.ai];generalize W:HS.mk _ _ _ _=B at G;have M:R (.call 195 [.agg [.sl t 0 x.nx.length 1,.sl w 0 x.nx.length 1]] B)=.val (.psl (u.map bC)) B:=afF (by simp[cC,cr]) (.cons (q G) .nil) (by simp) V hg;have kb:=G.cY [.psl (u.map bC)];have hz:=G.cY [.ai];have dz:=(hz.bz 0 _ _ rfl).1.1;obtain⟨s3,b3,H⟩:=hz.y6 (a:=0) rfl 0 (by simp) (x:=.psl (u.map bC)) rfl;simp only[aS]at H;generalize X:HS.mk (av (some (.cells (cR [HV.ai]) 0 [HV.ai].length B.nx)) B.nx B.h) _ _ _=S2 at hz dz b3;have d3:=(H.bz 0 _ _ rfl).1.1;have u0:0<u.length:=by omega
 simp only[aA,aE,bw,Nat.reduceAdd]at W X d3 dz;have Y:=ib b3 rfl;rw[dz]at Y;have hj:∃I s',ev R U.J0 (bn [.agg [.sl t 0 x.nx.length 1,.sl w 0 x.nx.length 1]] 0) s=.code .ret I s'/\look I 2=some (.ptr s.nx 0)/\∃aw K,aI s' aw [(.sl w 0 x.nx.length 1,1,x.fi.map bC),(.sl t 0 x.nx.length 1,1,x.nx.map oM)] ((B.nx,[.psl (u.map bC)])::(s.nx,x.c)::K):=by
  generalize z:ev R U.J0 (bn [.agg [.sl t 0 x.nx.length 1,.sl w 0 x.nx.length 1]] 0) s=r;rcases d with C|d
  .have Z:u[0]=false:=by
    cases hb:u[0]
    .rfl
    exfalso;have:=(T.2 0).1 (by rw[aO u0,hb]);rw[C]at this;cases this with
    |fin hf=>simp[mY]at hf
    |KC hl he _=>simp[mY]at hl;subst hl;cases he
   have D:=ahv;rw[<-C]at D;obtain⟨J,b4,k⟩:=H.put (a:=1) rfl (v:=.agg x.c) (new:=x.c) (by simp[cellsOf]) rfl;simp only[aS,cb]at k;have hk:=eQ (l:=x.c) b4 rfl rfl;simp only[aA,aE,bw,Nat.reduceAdd,Fa.c]at b4 hk;simp only[Fa.c]at D;simp[U.J0,W,M,X,Y,d3,u0,Z,D,hk]at z;subst z;exact⟨_,J,rfl,by simp,_,[],k⟩
  have E:∀i,i<x.nx.length->u[i]?=some true:=λi N=>(T.2 i).2 (d.live i N)
  have Z:u[0]=true:=by have:=E 0 hd;rw[aO u0]at this;exact kH this
  simp[U.J0,W,M,X,Y,d3,u0,Z]at z;generalize ho:ev R (.loop U.B2) _ _=o at z;have h3:∃(I:En) (s':HS) (aw:bc),o=.code (.exit 0) I s'/\bO I [(1,.ax [.sl t 0 x.nx.length 1,.sl w 0 x.nx.length 1]),(2,.ptr s.nx 0),(3,.ptr B.nx 0)]/\
    aI s' aw [(.sl w 0 x.nx.length 1,1,x.fi.map bC),(.sl t 0 x.nx.length 1,1,x.nx.map oM)] [(B.nx,[.psl (u.map bC)]),(s.nx,[.ai,.ai])]:=by
   refine fG ho x.nx.length
    (λi e s'=>∃aw,bO e [(1,.ax [.sl t 0 x.nx.length 1,.sl w 0 x.nx.length 1]),(2,.ptr s.nx 0),(3,.ptr B.nx 0),(16,iV x.nx.length),(17,iV i)]/\
     aI s' aw [(.sl w 0 x.nx.length 1,1,x.fi.map bC),(.sl t 0 x.nx.length 1,1,x.nx.map oM)] [(B.nx,[.psl (u.map bC)]),(s.nx,[.ai,.ai])])
    (λo=>∃(I:En) (s':HS) (aw:bc),o=.code (.exit 0) I s'/\bO I [(1,.ax [.sl t 0 x.nx.length 1,.sl w 0 x.nx.length 1]),(2,.ptr s.nx 0),(3,.ptr B.nx 0)]/\
     aI s' aw [(.sl w 0 x.nx.length 1,1,x.fi.map bC),(.sl t 0 x.nx.length 1,1,x.nx.map oM)] [(B.nx,[.psl (u.map bC)]),(s.nx,[.ai,.ai])])
    0 (by omega) ⟨_,by simp,H⟩
    (λi e s' r N ⟨aw,hL,hM⟩ z=>by
     have k2:(i:Int)<x.nx.length:=by omega
     have k3:=A.row N;have dc:=(hM.bz 0 _ _ rfl).1.1;have g1:eN (ao s'.h t) i=some (.psl (x.nx[i].map Eg.c)):=by rw[(hM.mem.own 1 _ _ _ rfl).cell i (by simpa using N)];simp
     have hp:=ZS u x.nx[i] k3 (λe he=>E _ (A.to _ (bX N) e he)) dc;obtain⟨o1,J,q1,q2,k⟩:=hM.jg 1 rfl i (by simpa using N) (x:=.psl (x.nx[i].map Eg.c)) rfl;simp[N]at q1;obtain rfl:=q1;simp only[aS,cb,hU]at k q2;have q3:=ib q2 rfl;have hq:(x.nx.map oM).set i [.psl (x.nx[i].map Eg.c)]=x.nx.map oM:=by
      refine qM (by simp) λj h1 h2=>?_
      by_cases ht:i=j
      .subst ht;simp
      rw[Lm ht]
     rw[hq]at k;have hw:=bj (n:=400) (show i<400 by omega) (by omega);simp only[ab,ae]at hL;simp[U.B2,hL,N,k2,g1,hp,q3,hw]at z;subst z;exact .inl ⟨_,_,rfl,aw,by simp[hL],k⟩)
    (λe s' r ⟨aw,hL,hM⟩ z=>by
     simp only[ab,ae]at hL;simp[U.B2,hL]at z;subst z;exact⟨by simp,_,_,aw,rfl,by simp[hL],hM⟩)
  obtain⟨e4,J,k7,rfl,F,k⟩:=h3;obtain⟨O,b,k4,h4,hy⟩:=ahG x A hs d h9;obtain⟨P,k5,h5,k0⟩:=ahD x A hs;have k8:du [HV.agg x.c]=true:=by simp
  have Q:R (.call 199 [.agg [.sl t 0 x.nx.length 1,.sl w 0 x.nx.length 1]] J)=.val (.bN [.psl (O.map iC),.bool b]) J:=afK (by simp[cC,cr]) (.cons (q k) .nil) (by simp) h4 hy;have k1:R (.call 200 [.agg [.sl t 0 x.nx.length 1,.sl w 0 x.nx.length 1]] J)=.val (.psl (P.map iC)) J:=afM (by simp[cC,cr]) (.cons (q k) .nil) (by simp) h5 k0;have a201:∀h6:aQ,(sJ x h6 λp=>p<x.nx.length)->R (.call 201 [.agg [.sl t 0 x.nx.length 1,.sl w 0 x.nx.length 1],.psl (h6.map iC)] J)=.val (.agg x.c) J:=λh6 hG=>afO (by simp[cC,cr]) (.cons (q k) (.cons (.data (by simp)) .nil)) (by simp) (ι x A d hG.len (Eb A d hG)).1 (ι x A d hG.len (Eb A d hG)).2
  obtain⟨s5,b5,h7⟩:=k.put (a:=1) rfl (v:=.agg x.c) (new:=x.c) (by simp[cellsOf]) rfl;simp only[aS,cb]at h7;have h8:=eQ (l:=x.c) b5 rfl rfl;simp only[aA,aE,bw,Nat.reduceAdd,Fa.c]at b5 h8;simp only[Fa.c]at a201;simp only[ab,ae]at F;cases b
  .have a201:=a201 O (k4 rfl);simp[F,Q,a201,h8]at z;subst z;exact⟨_,s5,rfl,by simp[F],_,[],h7⟩
  have a201:=a201 P k5;simp[F,Q,k1,a201,h8]at z;subst z;exact⟨_,s5,rfl,by simp[F],_,[],h7⟩
 obtain⟨I,s',hE,h2,k9,K',k6⟩:=hj;have hC:=(k6.bz 1 _ _ rfl).1.1;simp only[aA,aE,bw,Nat.reduceAdd,Fa.c]at hC;exact⟨s',aff rfl ⟨.ret,_,s',hE,.inr rfl,by simp[h2,hC,aj]⟩⟩
def ahJ(x:Fa)(p:cJ x)(D:tV x)(w:gW x=x)(F:Gc x)(t:x.nx.length<=24)(s:HS):R (.call 149 [.agg x.c] s)=.val (iV 0) s:=by
 refine aeZ ?_;have u:=ZH p D w;have j:=ahm x.i p.ok;have b:=ahk x.i p.ok;have k:=μ x.i p.ok;have d:=ahq x.i x.i p.ok;simp only[NX,D,eV,oC]at k;simp only[eV]at d;have v:mz x.i=true:=by unfold mz;simp only[bL];refine⟨by simp[Fa.i,p.pos],by simp[Fa.i,p.nf],λl w e G=>?_⟩;simp only[Fa.i,dA]at w;obtain⟨H,z,rfl⟩:=w;obtain⟨I,A,rfl⟩:=dA.1 G;have:=p.to H z I A;simp only[Eg.i,Fa.i,bH];omega
 rw[v]at b;have B:x.i.nx.map zy=x.nx.map oM:=by have E:=Fa.Y2 x;simp only[Ax.c,Fa.c,qU,HV.psl.injEq,and_true]at E;exact E.1
 rw[B]at k;rw[Fa.Y2]at j b d;have h0:aI s0 (λ_=>none) [] []:=⟨dT.start (by simp),by simp,by simp⟩;obtain⟨vN,vF,J,M,K1,q,N,O,C⟩:=ahx x p h0;obtain⟨s2,r⟩:=ahI x p F u t (aw:=M) (s:=J) (vN:=vN) (vF:=vF) ⟨C.mem,by simp,by simp⟩;simp only[Fa.c]at j b d r q;simp[U.Xn,j,b,k,d,r,q,aa]
def ν(row:ak)(x:Sn):Prop:=row=x.c∨(x.mn.op=[]/\row=[iV x.st,.ai,.bool x.mn.lost,.bool x.mn.forced,.bool x.mn.begun])
def ξ(row:ak)(x y:Sn)(d:ν row x)(b:x.mn.op.length<=400)(s:HS):R (.call 134 [.agg row,.agg y.c] s)=.val (.bool (decide (x=y))) s:=by
 rcases d with rfl|⟨h0,rfl⟩
 .exact ZE x y b s
 have h:=ZE x y b s0;refine yN 134 U.f134 _ [.agg x.c,.agg y.c] _ s rfl rfl rfl ?_ (by simp[eh]) ?_ (by simp) h
 .have:=gA (y.mn.op.map Mv.c) (cq (λx=>by simp) _);simp[cC,cr,this,iV]
 have:=iQ (y.mn.op.map Mv.c) (cq (λx=>by simp) _);simp[oN,nn,this,h0,iV]
def π(row:ak)(x:Mn):Prop:=row=x.c∨(x.op=[]/\row=[.ai,.bool x.lost,.bool x.forced,.bool x.begun])
def O1(row:ak)(x:Mn)(b:π row x)(s:HS):R (.call 131 [.agg row] s)=.val (.bool x.over) s:=by
 rcases b with rfl|⟨h0,rfl⟩
 .exact ZD x s
 exact yN 131 U.f131 _ [.agg x.c] _ s rfl rfl rfl (by simp[cC,cr]) (by simp[eh]) (by simp[oN,nn,h0]) (by simp) (ZD x s0)
def σ(a:Ar)(ok:dj a)(b:aB a=0)(row:ak)(x:Mn)(k:π row x)(d:x.op.length<=400)(m:Mv)(s:HS):R (.call 132 [.agg row,.agg a.c,.agg m.c] s)=.val (.bool (jq a x m)) s:=by
 rcases k with rfl|⟨h0,rfl⟩
 .exact ZF a ok b x d m s
 have j:du a.c=true:=by simp
 refine yN 132 U.f132 _ [.agg x.c,.agg a.c,.agg m.c] _ s rfl rfl rfl ?_ (by simp[eh]) ?_ (by simp) (ZF a ok b x d m s0)
 .have:=dS a.c j;simp only[cC,cr,this];simp[cC,cr]
 have:=nh a.c j;simp only[oN,nn,this];simp[oN,nn,h0]
def τ(row:ak)(x:Mn)(j:π row x)(d:x.op.length<=400)(m:Mv)(b:cz m=false->x.op≠ [])(s:HS):R (.call 133 [.agg row,.agg m.c] s)=.val (.agg (hZ x m).c) s:=by
 rcases j with rfl|⟨h0,rfl⟩
 .exact ZG x d m b s
 exact yN 133 U.f133 _ [.agg x.c,.agg m.c] _ s rfl rfl rfl (by simp[cC,cr]) (by simp[eh]) (by simp[oN,nn,h0]) (by simp) (ZG x d m b s0)
def Ln(v:HV)(l:aP):Prop:=v=.psl (l.map Mv.c)∨(l=[]/\v=.ai)
def O2(v b:HV)(l l':aP)(h:Ln v l)(d:Ln b l')(j:l.length<=400)(s:HS):R (.call 130 [v,b] s)=.val (.bool (decide (oi l=oi l'))) s:=by
 have h0:=ag5 l l' j;rcases h with rfl|⟨rfl,rfl⟩
 .rcases d with rfl|⟨rfl,rfl⟩
  .exact h0 s
  refine yN 130 U.f130 _ [.psl (l.map Mv.c),.psl []] _ s rfl rfl rfl ?_ (by simp[eh]) ?_ (by simp) (h0 s0)
  .have:=gA _ (qk l);simp[cC,cr,this]
  have:=iQ _ (qk l);simp[oN,nn,this]
 rcases d with rfl|⟨rfl,rfl⟩
 .refine yN 130 U.f130 _ [.psl [],.psl (l'.map Mv.c)] _ s rfl rfl rfl ?_ (by simp[eh]) ?_ (by simp) (h0 s0)
  .have:=gA _ (qk l');simp[cC,cr,this]
  have:=iQ _ (qk l');simp[oN,nn,this]
 exact yN 130 U.f130 _ [.psl [],.psl []] _ s rfl rfl rfl (by simp[cC,cr]) (by simp[eh]) (by simp[oN,nn]) (by simp) (h0 s0)
section
variable{y:Sn}
def ahK{l:j8}{au:aR}(B:au.length=l.length)(C:∀i,(h:i<l.length)->ν (au[i]'(by omega)) l[i])(cO:∀x∈l,x.mn.op.length<=400)(N:l.length<=3518437208883){e:En}{s:HS}{o:Out}{o8 o13:Ky}{v2 v3 v4 v5 v6 v7 v9 v10 v11 v12:HV}{F:cg}
  (d:bO e [(2,v2),(3,v3),(4,v4),(5,v5),(6,v6),(7,v7),(8,.sl o8 0 l.length 5),(9,v9),(10,v10),(11,v11),(12,v12),(13,.ptr o13 0),(14,.bool false),(15,iV 0)])
  (D:bY s (.sl o8 0 l.length 5) 5 F au)(v:ao s.h o13=some (.cells (cR y.c) 0 5 o13))(E:bK R (.loop U.AE) e s=o):
  ∃e',o=.code (.exit 4) e' s/\bO e' [(2,v2),(3,v3),(4,v4),(5,v5),(6,v6),(7,v7),(8,.sl o8 0 l.length 5),(9,v9),(10,v10),(11,v11),(12,v12),(13,.ptr o13 0),(14,.bool (l.any λx=>decide (x=y)))]:=by
 have G:=jh E l.length (λ_=>True)
  (λi=>[(2,v2),(3,v3),(4,v4),(5,v5),(6,v6),(7,v7),(8,.sl o8 0 l.length 5),(9,v9),(10,v10),(11,v11),(12,v12),(13,.ptr o13 0),(14,.bool ((l.take i).any λx=>decide (x=y))),(15,iV i)])
  [(2,v2),(3,v3),(4,v4),(5,v5),(6,v6),(7,v7),(8,.sl o8 0 l.length 5),(9,v9),(10,v10),(11,v11),(12,v12),(13,.ptr o13 0),(14,.bool (l.any λx=>decide (x=y)))] 4 (λ_ _=>False) (by simpa using d)
  (λi e r p d b=>by
   have q:(i:Int)<l.length:=by omega
   have w:=bj (n:=3518437208883) (show i<3518437208883 by omega) (by omega);have t:((l.take (i+1)).any λx=>decide (x=y))=(((l.take i).any λx=>decide (x=y))||decide (l[i]=y)):=by rw[eW p,List.any_append];simp
   have j:=ξ au[i] l[i] y (C i p) (cO _ (bX p));obtain⟨H,z,_,_,I⟩:=D.at (k:=.i64) i (by omega);have u:H=o8:=by simp[p]at z;exact z.symm
   subst u;simp only[ab,ae]at d;simp only[Sn.c,iV]at j v;cases A:(l.take i).any λx=>decide (x=y)
   .rw[A]at d t;simp[U.AE,d,p,q,w,I,v,aj,j]at b;subst b;exact .inl ⟨trivial,_,rfl,by simp[d,t]⟩
   rw[A]at d t;simp[U.AE,d,q,w]at b;subst b;exact .inl ⟨trivial,_,rfl,by simp[d,t]⟩)
  (λe r d b=>by
   simp only[ab,ae,j0]at d;simp[U.AE,d]at b;subst b;exact⟨_,rfl,by simp[d]⟩)
 rcases G with⟨_,_,_,_,h⟩|⟨_,e',J,M⟩
 .exact h.elim
 exact⟨e',J,M⟩
end
def Hu{a:Ar}{x:Mn}{m:Mv}(h:jq a x m=true)(b:cz m=false):x.op≠ []:=by intro h0;unfold jq at h;rw[h0,b]at h;simp at h
def zg(l:j8)(b:Sn)(e:Eg):j8:=
 if l.any λx=>decide (x=⟨e.to,hZ b.mn e.m⟩)then l else l++[⟨e.to,hZ b.mn e.m⟩]
def j9(b:Sn)(l:j8)(es:bA):j8:=es.foldl (λl e=>zg l b e) l
def IX(b:Sn)(l:j8)(es:bA)(e:Eg):j9 b l (es++[e])=zg (j9 b l es) b e:=by simp[j9]
def Ec(x:Mn)(m:Mv):(hZ x m).op.length<=x.op.length+1:=by
 unfold hZ
 split
 .simp
 simp;omega
section
variable{s:HS}{aw:bc}{L:cS}{K:dV}
def aI.tail{k:Ky×List HV}(h:aI s aw L (k::K)):aI s aw L K:=
 ⟨h.mem,λa o c j=>h.bz (a+1) o c j,λa b o c d j p=>by have:=h.nd (a+1) (b+1) o c d j p;omega⟩
end
structure Ed(l:j8)(au:aR)(D:Nat):Prop where
 len:au.length=l.length
 row:∀i,(h:i<l.length)->ν (au[i]'(by omega)) l[i]
 op:∀x∈l,x.mn.op.length<=D
def Ed.snoc{l:j8}{au:aR}{D:Nat}(h:Ed l au D){y:Sn}(j:y.mn.op.length<=D):Ed (l++[y]) (au++[y.c]) D:=by
 refine⟨by simp[h.len],λi k=>?_,λx p=>?_⟩
 .by_cases b:i<l.length
  .rw[DS (by rw[h.len];exact b),DS b];exact h.row i b
  have q:i=l.length:=by simp at k;omega
  subst q;left;rw[Gg (by rw[h.len];exact aY _),Gg (aY _)];simp
 rcases cG.1 p with d|d
 .exact h.op x d
 rw[dE.1 d];exact j
def ahL(a:Ar)(ok:dj a)(hc:aB a=0)(x:Fa)(hx:cJ x)(b:Sn)(G:b.st<x.nx.length){D:Nat}(hD:D<400)(hb:b.mn.op.length<=D)(H:j8)(hB:∀k,(j9 b H (x.nx[b.st].take k)).length<3518437208883)
  {e:En}{s:HS}{o:Out}{o10:Ky}{v4 v5 v6 v7 v8 v9 vo:HV}{aw:bc}{E6 E7 au:aR}(h5:Ln vo b.mn.op)
  (u:bO e [(2,.ax a.c),(3,.ax x.c),(4,v4),(5,v5),(6,v6),(7,v7),(8,v8),(9,v9),(10,.ptr o10 0),(11,iV 0)])
  (F:aI s aw [(v6,1,E6),(v7,1,E7),(v8,5,au)] [(o10,[iV b.st,vo,.bool b.mn.lost,.bool b.mn.forced,.bool b.mn.begun])])(t:Ed H au (D+1))(h0:H≠ [])(ho:bK R (.loop U.AF) e s=o):
  (∃k,∃h:k<x.nx[b.st].length,jq a b.mn x.nx[b.st][k].m=false/\∃e' s',o=.code .ret e' s'/\look e' 4=some .ai/\look e' 5=some (.bool false))∨
  ((∀k,(h:k<x.nx[b.st].length)->jq a b.mn x.nx[b.st][k].m=true)/\∃(e':En) (s':HS) (aw:bc) (v8:HV) (au:aR),o=.code (.exit 2) e' s'/\bO e' [(2,.ax a.c),(3,.ax x.c),(4,v4),(5,v5),(6,v6),(7,v7),(8,v8),(9,v9)]/\
   aI s' aw [(v6,1,E6),(v7,1,E7),(v8,5,au)] []/\Ed (j9 b H x.nx[b.st]) au (D+1)):=by
 have h9:(b.st:Int)<x.nx.length:=by omega
 refine aX ho x.nx[b.st].length
  (λk e s=>(∀j,(h:j<x.nx[b.st].length)->j<k->jq a b.mn x.nx[b.st][j].m=true)/\∃(aw:bc) (v8:HV) (au:aR),bO e [(2,.ax a.c),(3,.ax x.c),(4,v4),(5,v5),(6,v6),(7,v7),(8,v8),(9,v9),(10,.ptr o10 0),(11,iV k)]/\
   aI s aw [(v6,1,E6),(v7,1,E7),(v8,5,au)] [(o10,[iV b.st,vo,.bool b.mn.lost,.bool b.mn.forced,.bool b.mn.begun])]/\Ed (j9 b H (x.nx[b.st].take k)) au (D+1)/\j9 b H (x.nx[b.st].take k)≠ [])
  (λo=>(∃k,∃h:k<x.nx[b.st].length,jq a b.mn x.nx[b.st][k].m=false/\∃e' s',o=.code .ret e' s'/\look e' 4=some .ai/\look e' 5=some (.bool false))∨
  ((∀k,(h:k<x.nx[b.st].length)->jq a b.mn x.nx[b.st][k].m=true)/\∃(e':En) (s':HS) (aw:bc) (v8:HV) (au:aR),o=.code (.exit 2) e' s'/\bO e' [(2,.ax a.c),(3,.ax x.c),(4,v4),(5,v5),(6,v6),(7,v7),(8,v8),(9,v9)]/\
   aI s' aw [(v6,1,E6),(v7,1,E7),(v8,5,au)] []/\Ed (j9 b H x.nx[b.st]) au (D+1)))
  0 (by omega) ⟨λj h hj=>by omega,aw,v8,au,u,F,t,h0⟩
  (λk e s r hk ⟨v,aw,v8,au,u,F,t,h0⟩ w=>by
   have W:(k:Int)<x.nx[b.st].length:=by omega
   have hd:=hx.row G;have hw:=bj (n:=6000) (show k<6000 by omega) (by omega);generalize hl:j9 b H (x.nx[b.st].take k)=l at t h0;have hf:l.length<3518437208883:=by rw[<-hl];exact hB k
   obtain⟨o8,rfl⟩:=(F.mem.own 2 _ _ _ rfl).fY (by intro h;have h1:=t.len;rw[h]at h1;exact h0 (iJ h1.symm));rw[t.len]at u F;have X:π [vo,.bool b.mn.lost,.bool b.mn.forced,.bool b.mn.begun] b.mn:=by
    rcases h5 with rfl|⟨h1,rfl⟩
    .exact .inl rfl
    exact .inr ⟨h1,rfl⟩
   have p:=σ a ok hc _ b.mn X (by omega) x.nx[b.st][k].m;have V:=(F.bz 0 o10 _ rfl).1.1;have A:=F.cY (x.nx[b.st][k]).c;have Y:=(F.cY [HV.int .i64 0,.int .i64 0,.int .u8 0,.int .i64 0,.int .i64 0]).bz 1 o10 _ rfl;have I:=(A.bz 1 o10 _ rfl).1.1;have J:=(A.bz 0 _ _ rfl).1.1;generalize Q:HS.mk (av (some (.cells (cR (x.nx[b.st][k]).c) 0 (x.nx[b.st][k]).c.length s.nx)) s.nx s.h) s.nx.succ (av (some [s.nx]) s.nx s.gr) s.ty=M at A I J;have hlen:=t.len;simp only[ab,ae]at u;simp only[aA,aE,bw,Nat.reduceAdd,Eg.c]at V I J Q;simp only[Ar.c,Mv.c]at p;cases B:jq a b.mn x.nx[b.st][k].m
   .rw[B]at p;simp[U.AF,u,G,hk,W,V,I,J,Q,ah,an,aj,p]at w;subst w;exact .inr ⟨by simp,.inl ⟨k,hk,B,_,_,rfl,by simp⟩⟩
   rw[B]at p;have O:=τ _ b.mn X (by omega) x.nx[b.st][k].m (λha=>Hu B ha);have Y:=A.cY [HV.int .i64 0,.ai,.bool false,.bool false,.bool false];have Z:=(Y.bz 2 o10 _ rfl).1.1;have P:=(Y.bz 1 _ _ rfl).1.1;generalize hy:(⟨(x.nx[b.st][k]).to,hZ b.mn x.nx[b.st][k].m⟩:Sn)=y;have h6:[iV (x.nx[b.st][k]).to,.psl ((hZ b.mn x.nx[b.st][k].m).op.map Mv.c),.bool (hZ b.mn x.nx[b.st][k].m).lost,.bool (hZ b.mn x.nx[b.st][k].m).forced,.bool (hZ b.mn x.nx[b.st][k].m).begun]=y.c:=by rw[<-hy];rfl
   have C:=A.cY y.c;have N:=(C.bz 0 _ _ rfl).1.1;generalize T:HS.mk (av (some (.cells (cR y.c) 0 y.c.length M.nx)) M.nx M.h) M.nx.succ (av (some [M.nx]) M.nx M.gr) M.ty=S2 at C N;rw[<-h6]at T;simp only[aA,aE,bw,Nat.reduceAdd,Eg.c,Mv.c,Mn.c,iV]at Z P T O;simp[U.AF,u,G,hk,W,V,I,J,Q,ah,an,aj,p,O,P,T]at w;generalize ho:bK R (.loop U.AE) _ _=o at w;obtain⟨e2,rfl,q⟩:=ahK (y:=y) (o8:=o8) (o13:=M.nx) (v2:=.ax a.c) (v3:=.ax x.c) (v4:=v4) (v5:=v5) (v6:=v6) (v7:=v7) (v9:=v9) (v10:=.ptr o10 0) (v11:=iV k) (v12:=.ptr s.nx 0) t.len t.row (λz Y=>by have:=t.op z Y;omega) (by omega) (by simp[u]) (C.mem.own 2 _ _ _ rfl) N ho;clear ho;have d:j9 b H (x.nx[b.st].take (k+1))=if l.any λx=>decide (x=y)then l else l++[y]:=by rw[eW hk,IX,hl,zg,hy]
   have E:∀(j:Nat) (h:j<x.nx[b.st].length),j<k+1->jq a b.mn x.nx[b.st][j].m=true:=λj h hj=>by
    by_cases h7:j=k
    .subst h7;exact B
    exact v j h (by omega)
   have h2:y.mn.op.length<=D+1:=by rw[<-hy];have:=Ec b.mn x.nx[b.st][k].m;simp only;omega
   simp only[ab,ae]at q;cases hp:l.any λx=>decide (x=y)
   .rw[hp]at q d;obtain⟨h8,s3,h3,a3,c3,h4⟩:=C.append 2 rfl (new:=[y.c]) (Sz.cons rfl Sz.nil) (by simp) (bx:=3518437208883) (by simp;omega);simp only[cb,aS]at h4;simp only[Sn.c,aA,aE,bw,Nat.reduceAdd,iV]at a3 N;simp[q,N,aj,a3,hw]at w;subst w;refine .inl ⟨_,_,rfl,E,h3,h8,au++[y.c],by simp[q],h4.tail.tail,?_,?_⟩
    .rw[d];exact t.snoc h2
    rw[d];simp
   rw[hp]at q d;simp[q,hw]at w;subst w;refine .inl ⟨_,_,rfl,E,_,_,au,by simp[q],C.tail.tail,?_,?_⟩
   .rw[d];exact t
   rw[d];exact h0)
  (λe s r ⟨v,aw,v8,au,u,F,t,h0⟩ w=>by
   have V:=(F.bz 0 o10 _ rfl).1.1;simp only[aA,aE,bw,Nat.reduceAdd]at V;simp only[ab,ae]at u;simp[U.AF,u,V,G]at w;subst w;rw[j0]at t;exact⟨by simp,.inr ⟨λj h=>v j h h,_,_,aw,v8,au,rfl,by simp[u],F.tail,t⟩⟩)
structure Lg where
 l:j8
 op:List aP
 kn:ck
def Ee(x:Fa)(g:Lg)(b:Sn):Bool:=
 (g.kn.getD b.st false&& !decide (oi (g.op.getD b.st [])=oi b.mn.op))||((x.fi.getD b.st false != b.mn.over)&& !(decide (x.nx.length=1)&& !(x.fi.getD 0 false)))
def qP(a:Ar)(x:Fa)(g:Lg)(i:Nat):Option Lg:=
 match g.l[i]?with
 |none=>some g
 |some b=>
  if Ee x g b then none
  else if(x.nx.getD b.st []).all λe=>jq a b.mn e.m then some ⟨j9 b g.l (x.nx.getD b.st []),g.op.set b.st b.mn.op,g.kn.set b.st true⟩else none
def fJ(a:Ar)(x:Fa):Nat->Option Lg
 |0=>some ⟨[⟨0,⟨[],false,false,false⟩⟩],List.replicate x.nx.length [],List.replicate x.nx.length false⟩
 |i+1=>(fJ a x i).bind λg=>qP a x g i
structure IY(op:List aP)(E6:aR):Prop where
 len:E6.length=op.length
 row:∀i,(h:i<op.length)->∃v,E6[i]'(by omega)=[v]/\Ln v op[i]/\cellsOf v=some [v]
def Ln.one{v:HV}{l:aP}(h:Ln v l):cellsOf v=some [v]:=by rcases h with rfl|⟨_,rfl⟩<;>rfl
def IY.set{op:List aP}{c:aR}(h:IY op c){i:Nat}{v:HV}{l:aP}(d:Ln v l):IY (op.set i l) (c.set i [v]):=by
 refine⟨by simp[h.len],λj k=>?_⟩;rw[iM]at k;by_cases b:i=j
 .subst b;exact⟨v,by simp,by simpa using d,d.one⟩
 obtain⟨w,p,q,r⟩:=h.row j k;exact⟨w,by rw[Lm b];exact p,by rw[Lm b];exact q,r⟩
def IY.start(n:Nat):IY (List.replicate n []) (List.replicate n [.ai]):=
 ⟨by simp,λi b=>⟨.ai,by simp,by simp[Ln],rfl⟩⟩
def ν.ex{row:ak}{x:Sn}(h:ν row x):∃b,Ln b x.mn.op/\row=[iV x.st,b,.bool x.mn.lost,.bool x.mn.forced,.bool x.mn.begun]:=by
 rcases h with rfl|⟨h0,rfl⟩
 .exact⟨_,.inl rfl,rfl⟩
 exact⟨_,.inr ⟨h0,rfl⟩,rfl⟩
def Ln.mn{b:HV}{x:Mn}(h:Ln b x.op):π [b,.bool x.lost,.bool x.forced,.bool x.begun] x:=by
 rcases h with rfl|⟨c,rfl⟩
 .exact .inl rfl
 exact .inr ⟨c,rfl⟩
structure Lo(a:Ar)(x:Fa)(N D:Nat):Prop where
 d:D<399
 n:N<=3518437208883
 st:∀i g,fJ a x i=some g->(∀y∈g.l,y.st<x.nx.length/\y.mn.op.length<=D)/\(∀l∈g.op,l.length<=D)/\g.l≠ []/\g.l.length<3518437208883/\g.op.length=x.nx.length/\g.kn.length=x.nx.length
 le:∀i g cur,fJ a x i=some g->g.l[i]?=some cur->∀k,(j9 cur g.l ((x.nx.getD cur.st []).take k)).length<3518437208883
 fin:∀g,fJ a x N=some g->g.l.length<=N
def ahM(a:Ar)(ok:dj a)(hc:aB a=0)(x:Fa)(hx:cJ x){N D:Nat}(hN:Lo a x N D){i:Nat}(hi:i<N){g:Lg}(hg:fJ a x i=some g){e:En}{s:HS}{r:Out}{v4 v5 v6 v7 v8:HV}{aw:bc}{E6 au:aR}
  (M:bO e [(2,.ax a.c),(3,.ax x.c),(4,v4),(5,v5),(6,v6),(7,v7),(8,v8),(9,iV i)])
  (X:aI s aw [(v6,1,E6),(v7,1,g.kn.map bC),(v8,5,au)] [])(hE:IY g.op E6)(hS:Ed g.l au D)(q:i<g.l.length)(B:bK R U.lX e s=r)(j:Ee x g g.l[i]=true):
  ∃e' s',r=.code .ret e' s'/\look e' 4=some .ai/\look e' 5=some (.bool false):=by
 obtain⟨h4,h5,h6,hl,h7,O⟩:=hN.st i g hg;have hD:=hN.d;have hn:=hx.n;have ho:=hx.nf;have hb:=hx.pos;generalize G:g.l[i]=b at j;have Y:b∈g.l:=by rw[<-G];exact bX q
 obtain⟨z,hq⟩:=h4 b Y;obtain⟨o6,rfl⟩:=(X.mem.own 0 _ _ _ rfl).fY (by intro h;have:=hE.len;rw[h]at this;simp at this;omega);obtain⟨o7,rfl⟩:=(X.mem.own 1 _ _ _ rfl).fY (by intro h;have:=ct List.length h;simp at this;rw[this]at O;simp at O;omega);obtain⟨o8,rfl⟩:=(X.mem.own 2 _ _ _ rfl).fY (by intro h;have P:=hS.len;rw[h]at P;exact h6 (iJ P.symm));rw[hE.len,h7,bH,O,hS.len]at M X;obtain⟨vo,Q,H⟩:=(hS.row i q).ex;rw[G]at Q H;obtain⟨ob,g1,_,_,T⟩:=(X.mem.own 2 _ _ _ rfl).at (k:=.i64) i (by rw[hS.len];exact q);have h8:ob=o8:=by simp[q]at g1;exact g1.symm
 subst h8;rw[H]at T;have C:=X.cY [iV b.st,vo,.bool b.mn.lost,.bool b.mn.forced,.bool b.mn.begun];have V:=(C.bz 0 _ _ rfl).1.1;generalize w:HS.mk _ _ _ _=S1 at C V;obtain⟨vq,h9,ha,hs⟩:=hE.row b.st (by omega);have g6:eN (ao S1.h o6) b.st=some vq:=by rw[(C.mem.own 0 _ _ _ rfl).cell b.st (by rw[hE.len];omega),h9];rfl
 have I:eN (ao S1.h o7) b.st=some (.bool (g.kn[b.st]'(by omega))):=lD (C.mem.own 1 _ _ _ rfl) (aO (by omega));have t:=O2 vq vo _ _ ha Q (by have:=h5 _ (bX (show b.st<g.op.length by omega));omega);have v:=O1 _ b.mn Q.mn;unfold Ee at j;rw[getD_at (by omega),getD_at (by omega),getD_at (by omega),getD_at (by omega)]at j;have u:(i:Int)<g.l.length:=by omega
 have hd:(b.st:Int)<x.nx.length:=by omega
 have E:b.st<x.fi.length:=by omega
 have hj:(b.st:Int)<x.fi.length:=by omega
 have Z:0<x.fi.length:=by omega
 simp only[ab,ae]at M;simp only[aA,aE,bw,Nat.reduceAdd,iV]at V w T;have A:(x.fi[b.st] != b.mn.over&& !(decide (x.nx.length=1)&& !x.fi[0]))=true->(g.kn[b.st]'(by omega)=true->oi g.op[b.st]=oi b.mn.op)->∃e' s',r=.code .ret e' s'/\look e' 4=some .ai/\look e' 5=some (.bool false):=by
  intro P h2;rw[aL]at P;obtain⟨P,h3⟩:=P;have F:¬x.fi[b.st]=b.mn.over:=by simpa using P
  cases J:g.kn[b.st]'(by omega)
  .rw[J]at I;by_cases W:x.nx.length=1
   .have p:(x.nx.length:Int)=1:=by omega
    have hf:x.fi[0]=true:=by simpa[W]using h3
    simp-implicitDefEqProofs[U.lX,M,q,u,T,w,ah,an,aj,V,z,I,v,E,F,p,Z,hf]at B;subst B;exact⟨_,_,rfl,by simp⟩
   have p:¬(x.nx.length:Int)=1:=by omega
   simp-implicitDefEqProofs[U.lX,M,q,u,T,w,ah,an,aj,V,z,I,v,E,F,p]at B;subst B;exact⟨_,_,rfl,by simp⟩
  have hp:=h2 J;rw[J]at I;rw[cV hp]at t;by_cases W:x.nx.length=1
  .have p:(x.nx.length:Int)=1:=by omega
   have hf:x.fi[0]=true:=by simpa[W]using h3
   simp-implicitDefEqProofs[U.lX,M,q,u,T,w,ah,an,aj,V,z,g6,I,t,v,E,F,p,Z,hf]at B;subst B;exact⟨_,_,rfl,by simp⟩
  have p:¬(x.nx.length:Int)=1:=by omega
  simp-implicitDefEqProofs[U.lX,M,q,u,T,w,ah,an,aj,V,z,g6,I,t,v,E,F,p]at B;subst B;exact⟨_,_,rfl,by simp⟩
 cases J:g.kn[b.st]'(by omega)
 .rw[J,yJ,wI]at j;exact A j (λh=>by rw[J]at h;cases h)
 by_cases hp:oi g.op[b.st]=oi b.mn.op
 .rw[J,cV hp,oC,yK,wI]at j;exact A j (λ_=>hp)
 rw[J]at I;rw[cu hp]at t;simp-implicitDefEqProofs[U.lX,M,q,u,T,w,ah,an,V,z,g6,I,t]at B;subst B;exact⟨_,_,rfl,by simp⟩
def Gh(h n:Nat):Nat:=min 9 (if h=0 then n else n-1)
def υ(c:Nat):Nat:=(32+c%32)*2^(c/32)
def ahN(l:ay):ay:=0::l.flatMap λc=>[υ c,υ c]
def Ul:dH:=[
 [4,54,92,127,161,194,226,259,292,325,357,390,422,454,486,518,550,582,614,646,677,708,731,750,770,787,805,824,842,862,878,898,915,932,943,960,971,986,999,1012,1028,1038,1054,1065,1076,1082,1089,1093,1098,1104,1113,1122,1129,1138,1144,1150,1154,1159,1164,1169],
 [0,38,73,107,140,173,206,239,272,305,338,370,402,434,466,498,530,562,594,625,655,676,693,712,731,748,769,785,804,821,840,853,868,881,897,908,923,936,948,963,974,979,985,992,997,1002,1010,1019,1028,1036,1041,1047,1052,1058,1063,1067,1072,1077,1083,1089],
 [0,38,73,107,140,173,206,239,272,305,337,369,401,433,465,497,529,560,590,611,628,647,666,683,704,719,739,756,771,783,800,811,826,839,850,866,877,882,888,894,900,905,913,922,931,939,944,949,955,961,966,970,975,980,985,992,995,999,1003,1006],
 [0,38,73,107,140,173,206,239,272,304,336,368,400,432,464,495,525,546,562,582,600,618,638,654,674,686,702,714,728,742,753,769,780,785,791,796,803,808,816,825,834,842,847,852,857,864,869,873,878,882,888,894,898,902,904,908,910,914,919,920],
 [0,38,73,107,140,173,206,239,271,303,335,367,399,430,460,481,497,517,535,553,573,588,605,617,631,645,656,672,683,688,693,699,706,711,719,728,737,745,750,754,760,766,772,776,780,785,791,795,801,803,807,808,812,816,817,818,824,825,827,832],
 [0,38,73,107,140,173,206,238,270,302,334,365,395,416,431,452,469,488,506,520,533,548,559,574,586,591,596,602,609,614,622,631,640,648,652,657,663,668,675,679,683,688,692,697,702,706,707,711,714,715,716,721,722,724,728,731,732,736,737,738],
 [0,38,73,107,140,173,205,237,269,300,330,350,366,387,404,422,436,451,462,477,489,494,499,505,512,517,525,534,543,551,555,560,565,571,578,582,586,590,594,599,603,606,610,613,614,615,619,620,622,625,628,629,632,633,636,638,640,641,642,643],
 [0,38,73,107,140,172,204,235,265,285,301,322,338,354,365,379,392,397,402,408,414,420,428,437,446,454,458,463,468,474,481,485,488,492,496,500,503,508,512,513,514,518,519,520,523,526,527,529,530,533,535,536,537,540,542,545,545,546,546,547],
 [0,38,73,107,139,170,200,219,236,257,268,282,295,300,305,311,313,323,331,340,349,357,361,366,371,377,384,387,391,394,398,400,405,408,410,412,417,418,419,422,424,425,427,428,431,432,433,434,437,439,441,442,443,444,446,448,449,450,451,451],
 [0,38,73,105,135,154,171,185,198,203,208,210,212,226,234,243,252,260,264,269,274,280,285,290,293,296,298,303,305,307,309,314,316,318,321,323,324,326,327,329,330,331,332,335,336,338,339,340,341,343,344,346,348,349,350,352,353,353,354,355],
 [0,38,69,87,101,106,107,108,115,129,137,146,155,163,167,172,177,182,187,192,195,197,201,203,205,207,211,213,215,217,221,223,225,226,228,229,230,231,233,234,236,237,238,239,240,241,243,245,246,247,248,249,250,251,254,255,256,257,257,258],
 [0,0,0,2,14,28,38,47,56,65,69,74,78,83,87,92,96,99,101,103,105,108,110,112,114,117,119,121,123,126,128,129,130,132,133,134,135,136,137,138,139,141,142,143,144,145,146,147,148,150,151,152,153,154,155,156,157,159,160,161]].map ahN++[List.range 121]
def Ef(n c:Nat):ay->ay->Bool
 |a::t,b::u=>decide (4*n+c*a<=b)&&Ef n c t u
 |_,_=>true
def A9{n c:Nat}:∀{t u:ay},Ef n c t u=true->∀r (h:r<t.length) (j:r<u.length),4*n+c*t[r]<=u[r]
 |a::t,b::u,d,0,_,_=>by simp[Ef]at d;exact d.1
 |a::t,b::u,d,r+1,h,j=>by simp[Ef]at d;simpa using A9 d.2 r (by simpa using h) (by simpa using j)
def Um(h:Nat)(b t:ay):Bool:=decide (b.length=121)&&decide (t.length=121)&&(List.range 121).all λn=>Ef n (Gh h n) b (t.drop n)
def Lp{h:Nat}{b t:ay}(c:Um h b t=true){n r:Nat}(k:n+r<=120):4*n+Gh h n*b.getD r 0<=t.getD (n+r) 0:=by simp only[Um,aL,bL,fw,gy]at c;obtain⟨⟨p,q⟩,j⟩:=c;have d:=A9 (j n (by omega)) r (by omega) (by simp;omega);rw[List.getElem_drop]at d;rw[dF,dF,aO (by omega),aO (by omega)];exact d
def Eh(h r:Nat):Nat:=(Ul.getD h []).getD r 0
def Un:((List.range 12).all λh=>Um h (Ul.getD (h+1) []) (Ul.getD h []))=true:=by decide+kernel
def NY:((List.range 121).all λr=>decide (Eh 12 r=r))=true:=by decide+kernel
def NZ:((List.range 121).all λr=>decide (Eh 0 r+130<3518437208883))=true:=by decide+kernel
def nu(f:Nat->Nat)(h:Nat):Nat->Nat
 |0=>0
 |k+1=>f h+nu f (h+1) k
def Ey(M:Nat->Nat)(h:Nat):Nat:=if h<12 then 4*M h else M h
def dp{N M c:Nat->Nat}(p:∀h,M (h+1)=M h*c h)(q:∀h,h<12->c h<=Gh h (N h)):∀k h,h+k=12->nu N h (k+1)<=120->nu (λh=>N h*Ey M h) h (k+1)<=M h*Eh h (nu N h (k+1))
 |0,h,u,d=>by
  have j:h=12:=by omega
  subst j;simp only[nu,fR,Ey,gR,bp]at*;have:=NY;simp only[fw,gy,bL]at this;rw[this _ (by omega),ER];exact aY _
 |k+1,h,u,d=>by
  have b:h<12:=by omega
  rw[nu]at d;have v:=dp p q k (h+1) (by omega) (by omega);rw[nu,nu.eq_def N h (k+1+1)];simp only;generalize nu N (h+1) (k+1)=r at*;have t:=Un;simp only[fw,gy]at t;have w:=Lp (t h b) (n:=N h) (r:=r) d
  calc N h*Ey M h+nu (λh=>N h*Ey M h) (h+1) (k+1)<=N h*Ey M h+M (h+1)*Eh (h+1) r:=K7 v _
   _=M h*(4*N h+c h*Eh (h+1) r):=by rw[p,Nat.mul_add,Ey,ar b,ER (N h),Uo,Uo,Nat.mul_left_comm 4]
   _<=M h*(4*N h+Gh h (N h)*Eh (h+1) r):=Uq _ (K7 (jU _ (q h b)) _)
   _<=M h*Eh h (N h+r):=Uq _ w
def Ba(M:Nat->Nat)(v:Nat)(l:ay):∀k h,nu (λh=>(v::l).count h*M h) h k=(if h<=v/\v<h+k then M v else 0)+nu (λh=>l.count h*M h) h k
 |0,h=>by rw[aq (by omega)];rfl
 |k+1,h=>by
  rw[nu,Ba M v l k (h+1),nu];by_cases b:v=h
  .subst b;rw[List.count_cons_self,aq (by omega),ar (by omega),qW];omega
  rw[List.count_cons_of_ne (λh=>b h)];by_cases c:h+1<=v/\v<h+1+k
  .rw[ar c,ar (by omega)];omega
  rw[aq c,aq (by omega)];omega
def Cy(M:Nat->Nat):∀l:ay,(∀v∈l,v<13)->(l.map M).sum=nu (λh=>l.count h*M h) 0 13
 |[],_=>by simp[nu]
 |v::l,h=>by have c:=h v (by simp);rw[Ba,ar (by omega),<-Cy M l (λw b=>h w (by simp[b]))];simp
def Gi{α:Type}{f g:α->Nat}:∀{l:List α},(∀x∈l,f x<=g x)->(l.map f).sum<=(l.map g).sum
 |[],_=>aY _
 |x::l,h=>by simp only[cL,Gj];exact Nat.add_le_add (h x (by simp)) (Gi λy b=>h y (by simp[b]))
def zh{α:Type}{p q r:α->Bool}(b:∀x,p x=true->r x=true)(c:∀x,q x=true->r x=true)(d:∀x,p x=true->q x=true->False):∀l:List α,l.countP p+l.countP q<=l.countP r
 |[]=>by simp
 |x::l=>by
  have t:=zh b c d l;simp only[pY];cases j:p x<;>cases k:q x
  .simp;omega
  .rw[c x k];simp;omega
  .rw[b x j];simp;omega
  exact(d x j k).elim
def sL{α:Type}[BEq α][LawfulBEq α]:∀{l l':List α},l.Nodup->(∀x∈l,x∈l')->l.length<=l'.length
 |[],_,_,_=>by simp
 |x::l,l',b,d=>by
  rw[mN]at b;have j:=d x (by simp);have:=sL b.2 (l':=l'.erase x) (λy k=>by
   have c:y≠x:=λh=>by subst h;exact b.1 k
   exact(List.mem_erase_of_ne c).2 (d y (by simp[k])))
  rw[List.length_erase_of_mem j]at this;have:=List.length_pos_of_mem j;simp;omega
def Ur{N M c:Nat->Nat}(h0:M 0=1)(p:∀h,M (h+1)=M h*c h)(l:ay)(d:∀h,N h=l.count h)(k:∀h,h<12->c h<=Gh h (N h))(j:∀v∈l,v<13)(hlen:l.length<=120):(l.map (Ey M)).sum+130<3518437208883:=by
 have b:nu N 0 13=l.length:=by
  have:=Cy (λ_=>1) l j;simp only[hU]at this;rw[show(l.map λ_=>1).sum=l.length by clear this hlen j k d;induction l with
   |nil=>rfl
   |cons _ _ q=>simp[q];omega]at this
  rw[this]
  congr 1
  exact funext d
 have r:nu (λh=>N h*Ey M h) 0 13<=M 0*Eh 0 (nu N 0 13):=dp p k 12 0 rfl (by show nu N 0 13<=120;rw[b];exact hlen);rw[b,h0,Nat.one_mul]at r;rw[Cy (Ey M) l j,show(λh=>l.count h*Ey M h)=λh=>N h*Ey M h from funext λh=>by rw[d]];have:=NZ;simp only[fw,gy,bL]at this;have:=this l.length (by omega);omega
def gl(x:Fa)(p:Nat):bA:=x.nx.getD p []
def CI:Sn:=⟨0,⟨[],false,false,false⟩⟩
structure qQ(a:Ar)(x:Fa)(i:Nat)(g:Lg):Prop where
 nd:g.l.Nodup
 ne:g.l≠ []
 DO:g.op.length=x.nx.length
 φ:g.kn.length=x.nx.length
 st:∀y∈g.l,y.st<x.nx.length
 gen:∀y∈g.l,y=CI∨∃z∈g.l.take i,∃e∈gl x z.st,y=⟨e.to,hZ z.mn e.m⟩
 can:∀z∈g.l.take i,∀e∈gl x z.st,jq a z.mn e.m=true
 kn:∀z∈g.l.take i,g.kn.getD z.st false=true/\oi (g.op.getD z.st [])=oi z.mn.op
 kz:∀p,g.kn.getD p false=true->∃z∈g.l.take i,z.st=p
 opz:∀l∈g.op,l=[]∨∃z∈g.l.take i,z.mn.op=l
 VT:∀y∈g.l,∀q m,y.mn.op=q++[m]->cz m=true/\∃z∈g.l.take i,z.mn.op=q/\∃e∈gl x z.st,e.m=m
def wx(c:Sn):∀(es:bA) (l:j8),l.Nodup->∃t,j9 c l es=l++t/\(l++t).Nodup/\(∀y∈t,∃e∈es,y=⟨e.to,hZ c.mn e.m⟩)/\t.length<=es.length
 |[],l,h=>⟨[],by simp[j9],by simpa using h,by simp⟩
 |e::es,l,h=>by
  have B:j9 c l (e::es)=j9 c (zg l c e) es:=by simp[j9]
  rw[B];unfold zg;generalize C:(⟨e.to,hZ c.mn e.m⟩:Sn)=y;cases A:l.any λx=>decide (x=y)
  .simp only[cy,bp];have k:y ∉ l:=by intro D;rw[rA]at A;exact A y D (by simp)
   obtain⟨t,p,q,r,E⟩:=wx c es (l++[y]) (by
    rw[BD];refine⟨h,by simp,λa F b G=>?_⟩;rw[dE.1 G];intro u;exact k (u▸F))
   refine⟨y::t,by rw[p];simp,by simpa using q,λz j=>?_,by simp;omega⟩;rcases bm.1 j with rfl|j
   .exact⟨e,by simp,C.symm⟩
   obtain⟨v,d,w⟩:=r z j;exact⟨v,by simp[d],w⟩
  simp only[bf];obtain⟨t,p,q,r,E⟩:=wx c es l h;refine⟨t,p,q,λz j=>?_,by simp;omega⟩;obtain⟨v,d,w⟩:=r z j;exact⟨v,by simp[d],w⟩
def jX{α:Type}(l:List α)(i j:Nat)(v d:α)(b:i<l.length):(l.set i v).getD j d=if i=j then v else l.getD j d:=by
 rw[dF,gS,dF];by_cases h:i=j
 .subst h;simp[b]
 simp[h]
def Lq{α:Type}{l q:List α}{a m:α}(h:l++[a]=q++[m]):l=q/\a=m:=by have b:=ct List.dropLast h;have c:=ct List.getLast? h;simp at b c;exact⟨b,c⟩
def qQ.start(a:Ar)(x:Fa)(c:0<x.nx.length):qQ a x 0 ⟨[CI],List.replicate x.nx.length [],List.replicate x.nx.length false⟩ where
 nd:=by simp
 ne:=by simp
 DO:=by simp
 φ:=by simp
 st:=by intro y b;rw[dE.1 b];exact c
 gen:=by intro y b;exact .inl (dE.1 b)
 can:=by simp
 kn:=by simp
 kz:=by
  intro p h;rw[dF,zc]at h
  split at h<;>simp at h
 opz:=by intro l hl;exact .inl (AX hl)
 VT:=by intro y b q m h;rw[dE.1 b]at h;simp[CI]at h
def qQ.step{a:Ar}{x:Fa}{i:Nat}{g Y:Lg}(h:qQ a x i g)(Z:cJ x)(v:qP a x g i=some Y):qQ a x (i+1) Y:=by
 unfold qP at v
 split at v
 .rename_i hn;cases v;have hlen:=F5.1 hn;have ht:g.l.take (i+1)=g.l.take i:=by rw[iZ (by omega),iZ hlen]
  refine⟨h.nd,h.ne,h.DO,h.φ,h.st,?_,?_,?_,?_,?_,?_⟩<;>rw[ht]
  .exact h.gen
  .exact h.can
  .exact h.kn
  .exact h.kz
  .exact h.opz
  exact h.VT
 rename_i b A
 split at v
 .cases v
 rename_i B
 split at v
 case isFalse=>cases v
 rename_i H;cases v;obtain⟨M,N⟩:=aV.1 A;have C:b∈g.l:=N▸bX M;have r:=h.st b C;obtain⟨t,O,P,E,_⟩:=wx b (x.nx.getD b.st []) g.l h.nd;have j:∀z,z∈(g.l++t).take (i+1)↔z∈g.l.take i∨z=b:=by intro z;rw[GX (by omega),Lr,A];simp
 have Q:g.kn.getD b.st false=true->oi (g.op.getD b.st [])=oi b.mn.op:=by intro Q;simp only[Ee,Q,iI,mJ,not_or]at B;simpa using B.1
 have cO:b.st<g.op.length:=by rw[h.DO];exact r
 have I:b.st<g.kn.length:=by rw[h.φ];exact r
 have F:∀e∈gl x b.st,jq a b.mn e.m=true:=λe D=>fw.1 H e D
 constructor<;>simp only[O]
 .exact P
 .simp[h.ne]
 .simp[h.DO]
 .simp[h.φ]
 .intro y c;rcases cG.1 c with c|c
  .exact h.st y c
  obtain⟨e,D,rfl⟩:=E y c;rw[getD_at r]at D;exact Z.to _ (bX r) e D
 .intro y c;rcases cG.1 c with c|c
  .rcases h.gen y c with h0|⟨z,d,h0⟩
   .exact .inl h0
   exact .inr ⟨z,(j z).2 (.inl d),h0⟩
  obtain⟨e,D,rfl⟩:=E y c;exact .inr ⟨b,(j b).2 (.inr rfl),e,D,rfl⟩
 .intro z d;rcases(j z).1 d with d|rfl
  .exact h.can z d
  exact F
 .intro z d;rw[jX _ _ _ _ _ cO,jX _ _ _ _ _ I];rcases(j z).1 d with d|rfl
  .obtain⟨G,J⟩:=h.kn z d;by_cases u:b.st=z.st
   .rw[ar u,ar u];refine⟨rfl,?_⟩;rw[<-Q (u▸G),u,J]
   rw[aq u,aq u];exact⟨G,J⟩
  simp
 .intro p T;rw[jX _ _ _ _ _ I]at T;by_cases u:b.st=p
  .exact⟨b,(j b).2 (.inr rfl),u⟩
  rw[aq u]at T;obtain⟨z,d,h0⟩:=h.kz p T;exact⟨z,(j z).2 (.inl d),h0⟩
 .intro l V;rcases qL V with V|rfl
  .rcases h.opz l V with h0|⟨z,d,h0⟩
   .exact .inl h0
   exact .inr ⟨z,(j z).2 (.inl d),h0⟩
  exact .inr ⟨b,(j b).2 (.inr rfl),rfl⟩
 intro y c q m k;rcases cG.1 c with c|c
 .obtain⟨G,z,d,h0⟩:=h.VT y c q m k;exact⟨G,z,(j z).2 (.inl d),h0⟩
 obtain⟨e,D,rfl⟩:=E y c;simp only[hZ]at k;cases W:cz e.m
 .rw[W]at k;simp only[cy,bp]at k;have X:b.mn.op≠ []:=by intro h0;rw[h0]at k;simp at k
  obtain⟨_,z,d,h0,_⟩:=h.VT b C _ _ (Ut X).symm;rw[k]at h0;obtain⟨G,w,hw,J⟩:=h.VT z (lR d) q m h0;exact⟨G,w,(j w).2 (.inl hw),J⟩
 rw[W]at k;simp only[bf]at k;obtain⟨rfl,rfl⟩:=Lq k;exact⟨W,b,(j b).2 (.inr rfl),rfl,e,D,rfl⟩
def qQ.run{a:Ar}{x:Fa}(c:cJ x):∀(i:Nat) {g:Lg},fJ a x i=some g->qQ a x i g
 |0,g,b=>by cases b;exact qQ.start a x c.pos
 |i+1,g,b=>by
  rw[fJ]at b;cases h:fJ a x i with
  |none=>rw[h]at b;cases b
  |some d=>rw[h]at b;exact(qQ.run c i h).step c b
def dd{α:Type}[DecidableEq α]:List α->List α
 |[]=>[]
 |x::l=>if x∈dd l then dd l else x::dd l
def zi{α:Type}[DecidableEq α]{y:α}:∀{l:List α},y∈dd l↔y∈l
 |[]=>by simp[dd]
 |x::l=>by
  rw[dd]
  split
  .rename_i h;rw[zi,bm];exact⟨.inr,λb=>b.elim (λc=>c▸zi.1 h) id⟩
  rw[bm,zi,bm]
def Ls{α:Type}[DecidableEq α]:∀l:List α,(dd l).Nodup
 |[]=>by simp[dd]
 |x::l=>by
  rw[dd]
  split
  .exact Ls l
  rename_i h;exact mN.2 ⟨h,Ls l⟩
def Lt{α:Type}[DecidableEq α]:∀l:List α,(dd l).length<=l.length
 |[]=>by simp[dd]
 |x::l=>by
  have:=Lt l;rw[dd]
  split<;>simp<;>omega
def ji{a:Ar}{x:Mn}{m:Mv}(h:jq a x m=true):eO a m=true:=by
 unfold jq at h
 split at h
 .assumption
 cases h
def zj{a:Ar}{x:Mn}{m:Mv}(h:jq a x m=true)(h0:x.op=[]):x.begun=false/\m.id=0:=by
 unfold jq at h;rw[ar (ji h)]at h;cases b:x.begun
 .simp[b]at h;exact⟨rfl,h.1⟩
 simp[b,h0]at h
def zk{a:Ar}{x:Mn}{m top:Mv}(h:jq a x m=true)(k:x.begun=true)(p:x.op.getLast?=some top)(c:cz m=true):
  x.lost=false/\x.forced=false/\((0<top.id/\top.arg=0)->m.id=top.id/\0<m.arg)/\(¬(0<top.id/\top.arg=0)->0<m.id/\m.arg=0):=by
 unfold jq at h;rw[ar (ji h),ar k,p]at h;simp only at h;have q:m.kind≠3:=by intro r;simp[cz,r]at c
 cases d:x.lost<;>cases j:x.forced
 .refine⟨rfl,rfl,λb=>?_,λb=>?_⟩
  .simp[d,j,c,b.1,b.2]at h;exact h
  simp only[d,j,c,FU,cy,bp,bf]at h;rw[aq (by simpa using b)]at h;simpa using h
 all_goals
  simp[d,j,z6,q]at h
section
variable{a:Ar}{x:Fa}{i:Nat}{g:Lg}(h:qQ a x i g)
include h
theorem qQ.begun{y:Sn}(b:y∈g.l)(h0:y.mn.op≠ []):y.mn.begun=true:=by
 rcases h.gen y b with rfl|⟨z,_,e,_,rfl⟩
 .exact(h0 rfl).elim
 simp only[hZ]
 split<;>rfl
theorem qQ.pre:∀(n:Nat) (y:Sn),y∈g.l->y.mn.op.length=n->∀(j:Nat) (m:Mv),y.mn.op[j]?=some m->cz m=true/\∃z∈g.l.take i,z.mn.op=y.mn.op.take j/\∃e∈gl x z.st,e.m=m
 |0,y,_,c,j,m,b=>by rw[iJ c]at b;simp at b
 |n+1,y,w,c,j,m,b=>by
  have d:y.mn.op≠ []:=by intro h0;rw[h0]at c;cases c
  have k:=(Ut d).symm;obtain⟨A,z,v,r,B⟩:=h.VT y w _ _ k;generalize y.mn.op.getLast d=last at*;generalize y.mn.op.dropLast=q at*;rw[k]at c b ⊢;simp at c;by_cases t:j<q.length
  .rw[ek t,<-r]at b;rw[GX (by omega),<-r];exact qQ.pre n z (lR v) (by rw[r];exact c) j m b
  obtain⟨p,_⟩:=aV.1 b;have u:j=q.length:=by simp at p;omega
  subst u;rw[gu (aY _),lg]at b;simp at b;subst b;rw[List.take_left];exact⟨A,z,v,r,B⟩
theorem qQ.ask{y:Sn}(u:y∈g.l){j:Nat}{m:Mv}(v:y.mn.op[j]?=some m):cz m=true/\eO a m=true/\(j=0->m.id=0)/\∀k top,k+1=j->y.mn.op[k]?=some top->
  ((0<top.id/\top.arg=0)->m.id=top.id/\0<m.arg)/\(¬(0<top.id/\top.arg=0)->0<m.id/\m.arg=0):=by
 obtain⟨p,z,q,r,e,w,rfl⟩:=h.pre _ y u rfl j m v;have d:=h.can z q e w;refine⟨p,ji d,λh0=>?_,λk top A t=>?_⟩
 .subst h0;exact(zj d (by rw[r];rfl)).2
 subst A;obtain⟨B,C⟩:=aV.1 t;have c:z.mn.op=y.mn.op.take k++[top]:=by rw[r,Lr,t];rfl
 have b:z.mn.op.getLast?=some top:=by rw[c];simp
 exact(zk d (h.begun (lR q) (by rw[c];simp)) b p).2.2
theorem qQ.par{y:Sn}(k:y∈g.l):∀{j:Nat} {m:Mv},y.mn.op[j]?=some m->((0<m.id/\m.arg=0)↔j%2=1)
 |0,m,b=>by
  have:=(h.ask k b).2.2.1 rfl;constructor
  .intro c;omega
  intro c;omega
 |j+1,m,b=>by
  obtain⟨q,_⟩:=aV.1 b;have p:=aO (show j<y.mn.op.length by omega);have c:=qQ.par k p;obtain⟨r,t⟩:=(h.ask k b).2.2.2 j _ rfl p;by_cases d:0<(y.mn.op[j]'(by omega)).id/\(y.mn.op[j]'(by omega)).arg=0
  .have:=r d;have:=c.1 d;constructor
   .intro u;omega
   intro u;omega
  have v:=t d;have:¬j%2=1:=λw=>d (c.2 w)
  constructor
  .intro _;omega
  intro _;exact v
theorem qQ.plc{z b:Sn}(d:z∈g.l.take i)(c:b∈g.l.take i)(j:z.st=b.st):oi z.mn.op=oi b.mn.op:=by rw[<-(h.kn z d).2,<-(h.kn b c).2,j]
end
def N1{a:Ar}(j:aB a=0){m:Mv}(d:eO a m=true)(r:0<m.arg){b:Bs}{e:Bool}(c:cI a m.id 0=some (b,e))(hid:0<m.id):b.cell=false:=by
 unfold eO cw lA at d;unfold cI at c d;rw[aq (by omega)]at c d;by_cases u:1<=m.id/\m.id<=a.ids.length
 .rw[ar u]at c d;cases k:a.ids[(m.id-1).toNat]?with
  |none=>rw[k]at c;cases c
  |some t=>
   rw[k]at c d;simp only[bf]at c;simp only[bT,oD]at c;obtain⟨rfl,_⟩:=c;simp only[aq (show¬m.arg=0 by omega)]at d;have p:t.ps≠ []:=by intro h0;rw[h0]at d;rw[aq (by simp;omega)]at d;simp at d
   unfold aB at j
   split at j
   .cases j
   split at j
   .cases j
   rename_i v;simp only[mJ,not_or,Cq,rA]at v;have w:=v.2 t (cH k);simp only[fy,Bool.not_eq_false',aL,mJ]at w;cases q:t.res.cell
   .rfl
   have z:t.ps.isEmpty=false:=by cases A:t.ps with|nil=>exact(p A).elim|cons _ _=>rfl
   simp[q,z]at w
 rw[aq u]at c;cases c
def Bb(a:Ar):Prop:=∀id arg b e,cI a id arg=some (b,e)->b.n<=8
def χ{a:Ar}{m:Mv}(j:eO a m=true)(d:cz m=true):m∈cw a m.id m.arg:=by
 unfold eO at j;simp only[bL,Bool.decide_or,mJ]at j;rcases j with b|b
 .exact b
 exfalso;unfold lA at b
 split at b
 .simp at b
 unfold lZ at b;rcases cG.1 b with c|c
 .split at c
  .rw[dE.1 c]at d;simp[cz]at d
  simp at c
 rw[dA]at c;obtain⟨k,_,p⟩:=c;rw[<-p]at d;simp[cz,oE]at d
def Uu{a:Ar}(c:Bb a)(id arg:Int):(cw a id arg).length<=9:=by
 unfold cw
 split
 .simp
 rename_i b e d;have:=c _ _ _ _ d;unfold dk
 split<;>simp<;>omega
def Uv{a:Ar}{id arg:Int}(c:∀b e,cI a id arg=some (b,e)->b.cell=false):(cw a id arg).length<=1:=by
 unfold cw
 split
 .simp
 rename_i b e h0;have:=c _ _ h0;simp[dk,this]
def zl:∀{l:ay} {x:Nat},x∈l->x<=l.sum
 |a::l,x,h=>by
  rw[Gj];rcases bm.1 h with rfl|h
  .omega
  have:=zl h;omega
def zm(v:Nat->aP):Nat->List aP
 |0=>[[]]
 |d+1=>(zm v d).flatMap λq=>(v d).map λm=>q++[m]
def zn{α β γ:Type}(f:α->β->γ)(vs:List β):∀l:List α,(l.flatMap λq=>vs.map (f q)).length=l.length*vs.length
 |[]=>by simp
 |x::l=>by rw[ni,cE,zn f vs l,bH,aA,jV];omega
def Ej{v:Nat->aP}{l:aP}:∀d,d<=l.length->(∀j m,j<d->l[j]?=some m->m∈v j)->l.take d∈zm v d
 |0,_,_=>by simp[zm]
 |d+1,p,b=>by have k:=Ej d (by omega) (λj m q=>b j m (by omega));have c:=aO (show d<l.length by omega);rw[zm,uU];refine⟨_,k,?_⟩;rw[dA];exact⟨_,b d _ (by omega) c,by rw[Lr,c];rfl⟩
def qR(c:Nat->Nat):Nat->Nat
 |0=>1
 |h+1=>qR c h*c h
def Hv{v:Nat->aP}{c:Nat->Nat}:∀d,(∀j,j<d->(v j).length<=if j%2=0 then c (j/2)else 1)->(zm v d).length<=qR c ((d+1)/2)
 |0,_=>by simp[zm,qR]
 |d+1,p=>by
  have k:=Hv d (λj r=>p j (by omega));have b:=p d (by omega);rw[zm,zn];by_cases q:d%2=0
  .rw[ar q]at b;rw[show(d+1+1)/2=d/2+1 by omega,qR];rw[show(d+1)/2=d/2 by omega]at k;exact Uw k b
  rw[aq q]at b;rw[show(d+1+1)/2=(d+1)/2 by omega];have:=Uw k b;omega
def Cz(x:Fa)(g:Lg):List (Nat×Eg):=(List.range x.nx.length).flatMap λp=>if g.kn.getD p false then(gl x p).map λe=>(p,e)else []
def Gk(g:Lg)(p:Nat):Nat:=(g.op.getD p []).length
def z8(g:Lg)(d:Nat)(q:Nat×Eg):Bool:=cz q.2.m&&decide (Gk g q.1=d)
def vq(a:Ar)(x:Fa)(g:Lg)(d:Nat)(ρ:Int×Int):aP:=
 dd ((((Cz x g).filter (z8 g d)).map λq=>q.2.m).filter λm=>decide (m.id=ρ.1/\m.arg=ρ.2)&&(eO a m&&cz m))
def vp(a:Ar)(x:Fa)(g:Lg)(p:Nat)(j:Nat):aP:=vq a x g j ((oi (g.op.getD p [])).getD j (0,0))
def aN(x:Fa)(g:Lg)(d:Nat):Nat:=(Cz x g).countP (z8 g d)
def cN(x:Fa)(g:Lg)(h:Nat):Nat:=min 9 (aN x g (2*h))
def um(g:Lg)(q:Nat×Eg):Nat:=if cz q.2.m then(Gk g q.1+1)/2 else Gk g q.1/2
def ψ(a:Ar)(x:Fa)(g:Lg)(q:Nat×Eg):j8:=
 if cz q.2.m then(zm (vp a x g q.1) (Gk g q.1)).map λl=>⟨q.2.to,⟨l++[q.2.m],false,false,true⟩⟩
 else(zm (vp a x g q.1) (Gk g q.1-1)).flatMap λl=>[(false,false),(false,true),(true,false),(true,true)].map λf=>⟨q.2.to,⟨l,f.1,f.2,true⟩⟩
def CA{x:Fa}{g:Lg}{p:Nat}{e:Eg}:(p,e)∈Cz x g↔p<x.nx.length/\g.kn.getD p false=true/\e∈gl x p:=by
 unfold Cz;rw[uU];constructor
 .rintro⟨q,c,h⟩
  split at h
  .rename_i d;rw[dA]at h;obtain⟨t,b,h⟩:=h;cases h;exact⟨gy.1 c,d,b⟩
  cases h
 rintro⟨j,k,r⟩
 exact⟨p,gy.2 j,by rw[ar k,dA];exact⟨e,r,rfl⟩⟩
def N2(x:Fa)(g:Lg):(Cz x g).length<=(x.nx.map List.length).sum:=by
 have b:(x.nx.map List.length)=(List.range x.nx.length).map λp=>(gl x p).length:=by
  refine qM (by simp) λi b c=>?_
  simp at b;simp[gl,b]
 rw[b];unfold Cz;rw[Ux];refine Gi λp _=>?_
 split<;>simp
def Hw(l:aP):(oi l).length=l.length:=by simp[oi]
def ω{a:Ar}{x:Fa}{g:Lg}(j:Nat)(ρ:Int×Int):(vq a x g j ρ).length<=aN x g j:=by unfold vq aN;refine fh (Lt _) (fh (K8 _ _) ?_);rw[bH,Ue];exact aY _
section
variable{a:Ar}{x:Fa}{i:Nat}{g:Lg}(h:qQ a x i g)
include h
theorem qQ.dep{z:Sn}(b:z∈g.l.take i):Gk g z.st=z.mn.op.length:=by have:=ct List.length (h.kn z b).2;rwa[Hw,Hw]at this
theorem qQ.known{z:Sn}(b:z∈g.l.take i){e:Eg}(c:e∈gl x z.st):(z.st,e)∈Cz x g:=CA.2 ⟨h.st z (lR b),(h.kn z b).1,c⟩
theorem qQ.inv{z:Sn}(k:z∈g.l.take i){j:Nat}{m:Mv}(c:z.mn.op[j]?=some m):m∈vp a x g z.st j:=by
 have d:=lR k;obtain⟨p,q,b,t,e,r,rfl⟩:=h.pre _ z d rfl j m c;obtain⟨u,_⟩:=aV.1 c;unfold vp vq;rw[zi,tp,dA,(h.kn z k).2];refine⟨⟨(q.st,e),tp.2 ⟨h.known b r,?_⟩,rfl⟩,?_⟩
 .simp only[z8,aL,bL];exact⟨p,by rw[h.dep b,t,oX];omega⟩
 have v:(oi z.mn.op).getD j (0,0)=(e.m.id,e.m.arg):=by rw[dF,oi,fW,c];rfl
 rw[v];simp[p,ji (h.can q b e r)]
theorem qQ.Γ(j:Nat)(ρ:Int×Int):(vq a x g j ρ).length<=(cw a ρ.1 ρ.2).length:=by
 refine sL (Ls _) λm b=>?_
 unfold vq at b;rw[zi,tp]at b;have c:=b.2;simp only[aL,bL]at c;obtain⟨⟨d,k⟩,p,q⟩:=c;rw[<-d,<-k];exact χ p q
theorem qQ.few(E:aB a=0)(F:Bb a){z:Sn}(v:z∈g.l.take i){d:Nat}(P:d<=z.mn.op.length)(G:d<z.mn.op.length∨d=0∨∃e∈gl x z.st,cz e.m=true):(zm (vp a x g z.st) d).length<=qR (cN x g) ((d+1)/2):=by
 have p:=lR v;refine Hv d λj Q=>?_
 split
 .rename_i H;unfold cN;rw[show 2*(j/2)=j by omega];exact Nat.le_min.2 ⟨fh (h.Γ j _) (Uu F _ _),ω j _⟩
 rename_i H;have q:=aO (show j<z.mn.op.length by omega);generalize z.mn.op[j]=top at q;obtain⟨hid,c⟩:=(h.par p q).2 (by omega);have w:(oi (g.op.getD z.st [])).getD j (0,0)=(top.id,top.arg):=by rw[(h.kn z v).2,dF,oi,fW,q];rfl
 unfold vp;rw[w];refine fh (h.Γ j _) ?_;simp only;have I:∃m:Mv,m.id=top.id/\0<m.arg/\eO a m=true:=by
  by_cases A:j+1<z.mn.op.length
  .have B:=aO A;obtain⟨_,C,_,J⟩:=h.ask p B;obtain⟨r,t⟩:=(J j top rfl q).1 ⟨hid,c⟩;exact⟨_,r,t,C⟩
  rcases G with C|C|⟨e,M,D⟩
  .omega
  .omega
  have k:=h.can z v e M;have N:z.mn.op.getLast?=some top:=by rw[T0,show z.mn.op.length-1=j by omega,q]
  obtain⟨r,t⟩:=(zk k (h.begun p (by intro h0;rw[h0]at q;simp at q)) N D).2.2.1 ⟨hid,c⟩;exact⟨_,r,t,ji k⟩
 obtain⟨m,r,t,O⟩:=I;refine Uv λb e u=>?_
 rw[c,<-r]at u;exact N1 E O t u (by omega)
theorem qQ.deep{z:Sn}(k:z∈g.l.take i):z.mn.op.length+1<=x.nx.length:=by
 have:=sL (l:=List.range (z.mn.op.length+1)) (l':=(List.range x.nx.length).map (Gk g)) List.nodup_range (λj q=>by
  rw[gy]at q;rw[dA];have b:=lR k;by_cases d:j<z.mn.op.length
  .obtain⟨_,p,c,r,_⟩:=h.pre _ z b rfl j _ (aO d);exact⟨p.st,gy.2 (h.st p (lR c)),by rw[h.dep c,r,oX];omega⟩
  exact⟨z.st,gy.2 (h.st z b),by rw[h.dep k];omega⟩)
 simpa using this
theorem qQ.big{y:Sn}(v:y∈g.l):y∈CI::(Cz x g).flatMap (ψ a x g):=by
 rcases h.gen y v with rfl|⟨z,k,e,t,rfl⟩
 .simp
 refine dh _ (uU.2 ⟨(z.st,e),h.known k t,?_⟩);have p:=lR k;have b:=h.can z k e t;have c:∀d,d<=z.mn.op.length->z.mn.op.take d∈zm (vp a x g z.st) d:=λd A=>Ej d A λj m _ B=>h.inv k B
 unfold ψ hZ;simp only;rw[h.dep k];cases C:cz e.m
 .simp only[cy,bp];rw[uU];refine⟨_,c (z.mn.op.length-1) (by omega),?_⟩;rw[dA];rw[KY];exact⟨(_,_),(show∀D E:Bool,(D,E)∈[(false,false),(false,true),(true,false),(true,true)] by decide) _ _,rfl⟩
 simp only[bf];rw[dA];refine⟨z.mn.op,by simpa using c z.mn.op.length (aY _),?_⟩;have F:z.mn.lost=false:=by
  by_cases h0:z.mn.op=[]
  .have q:=(zj b h0).1;rcases h.gen z p with r|⟨w,_,G,_,r⟩
   .rw[r];rfl
   rw[r]at q;simp only[hZ]at q
   split at q<;>cases q
  cases u:z.mn.op.getLast? with|none=>exact(h0 (List.getLast?_eq_none_iff.1 u)).elim|some top=>exact(zk b (h.begun p h0) u C).1
 rw[F]
theorem qQ.Lu(k:aB a=0)(r:Bb a)(D:x.nx.length<=24){q:Nat×Eg}(A:q∈Cz x g):(ψ a x g q).length<=Ey (qR (cN x g)) (um g q)/\um g q<13:=by
 obtain⟨p,e⟩:=q;obtain⟨E,B,t⟩:=CA.1 A;obtain⟨z,b,rfl⟩:=h.kz p B;have C:=h.deep b;have c:=h.can z b e t;unfold ψ um Ey;simp only;rw[h.dep b];cases u:cz e.m
 .simp only[cy,bp];have j:=Hu c u;have v:0<z.mn.op.length:=yB.2 j;have w:=h.few k r b (d:=z.mn.op.length-1) (by omega) (.inl (by omega));rw[show(z.mn.op.length-1+1)/2=z.mn.op.length/2 by omega]at w;rw[zn,ar (by omega)];simp only[aA,aE];omega
 simp only[bf,bH];have w:=h.few k r b (d:=z.mn.op.length) (aY _) (.inr (.inr ⟨e,t,u⟩))
 split<;>omega
theorem qQ.cap:∀k,k<12->cN x g k<=Gh k (((Cz x g).map (um g)).count k):=by
 intro k _;have j:((Cz x g).map (um g)).count k=(Cz x g).countP λq=>um g q==k:=by rw[Uc,Ud];rfl
 have b:∀d,(d+1)/2=k->∀q,z8 g d q=true->(um g q==k)=true:=by intro d G q c;simp only[z8,aL,bL]at c;simp only[um,c.1,bf,c.2,G,EI]
 unfold cN Gh;rw[j];refine Nat.le_min.2 ⟨EX _ _,?_⟩;by_cases A:k=0
 .subst A;rw[ar rfl];exact fh (Uy _ _) (List.countP_mono_left λq _ c=>b 0 rfl q c)
 rw[aq A];by_cases r:aN x g (2*k)=0
 .rw[r];simp
 have B:=zh (b (2*k) (by omega)) (b (2*k-1) (by omega)) (λq C u=>by
  simp only[z8,aL,bL]at C u;omega) (Cz x g)
 have D:1<=(Cz x g).countP (z8 g (2*k-1)):=by
  have h0:0<(Cz x g).countP (z8 g (2*k)):=by unfold aN at r;omega
  obtain⟨⟨p,e⟩,c,E⟩:=Uz.1 h0;obtain⟨C,u,O⟩:=CA.1 c;obtain⟨z,F,rfl⟩:=h.kz p u;simp only[z8,aL,bL]at E;rw[h.dep F]at E;have v:=lR F;obtain⟨H,I,t,J,M,w,N⟩:=h.pre _ z v rfl (2*k-1) _ (aO (by omega));refine Uz.2 ⟨(I.st,M),h.known t w,?_⟩;simp only[z8,aL,bL];exact⟨by rw[N];exact H,by rw[h.dep t,J,oX];omega⟩
 refine fh (Uy _ _) ?_;unfold aN;omega
theorem qQ.bound(d:aB a=0)(j:Bb a)(p:x.nx.length<=24)(t:(x.nx.map List.length).sum<=120):g.l.length+129<3518437208883:=by
 have u:=sL h.nd (λy w=>h.big w);rw[aA,Ux]at u;have B:((Cz x g).map λq=>(ψ a x g q).length).sum<=((Cz x g).map λq=>Ey (qR (cN x g)) (um g q)).sum:=Gi λq b=>(h.Lu d j p b).1
 have r:=Ur (N:=λk=>((Cz x g).map (um g)).count k) (M:=qR (cN x g)) (c:=cN x g) rfl (λ_=>rfl) ((Cz x g).map (um g)) (λ_=>rfl) h.cap (λv z=>by
  obtain⟨q,b,rfl⟩:=dA.1 z;exact(h.Lu d j p b).2) (by rw[bH];exact fh (N2 x g) t)
 rw[pc]at r;have A:(Ey (qR (cN x g))∘um g)=λq=>Ey (qR (cN x g)) (um g q):=rfl
 rw[A]at r;omega
end
def Δ{a:Ar}{x:Fa}(hx:cJ x)(hc:aB a=0)(ht:Bb a)(hn:x.nx.length<=24)(he:(x.nx.map List.length).sum<=120):Lo a x 3518437208883 24 where
 d:=by omega
 n:=aY _
 st:=λi g b=>by
  have h:=qQ.run hx i b;have hb:=h.bound hc ht hn he;refine⟨λy q=>⟨h.st y q,?_⟩,λl hl=>?_,h.ne,by omega,h.DO,h.φ⟩
  .rcases h.gen y q with rfl|⟨z,p,e,_,rfl⟩
   .simp[CI]
   have:=h.deep p;have:=Ec z.mn e.m;simp only;omega
  rcases h.opz l hl with rfl|⟨z,p,rfl⟩
  .simp
  have:=h.deep p;omega
 le:=λi g cur b c k=>by
  have h:=qQ.run hx i b;have hb:=h.bound hc ht hn he;obtain⟨t,r,_,_,u⟩:=wx cur ((x.nx.getD cur.st []).take k) g.l h.nd;rw[r,cE];have v:(x.nx.getD cur.st []).length<=120:=by have j:=h.st cur (cH c);rw[getD_at j];refine fh ?_ he;exact zl (dA.2 ⟨_,bX j,rfl⟩)
  have h4:=List.length_take_le k (x.nx.getD cur.st []);have h5:=List.length_take_le' k (x.nx.getD cur.st []);omega
 fin:=λg b=>by have:=(qQ.run hx _ b).bound hc ht hn he;omega
section
variable{s:HS}{aw:bc}{L:cS}{K:dV}
def Θ(h:aI s aw L K)(a:Mv)(t:aP)(F:t.length<=100000):∃v s' b,R (.call 204 [.psl (a.c::t.map Mv.c)] s)=.val v s'/\cellsOf v=some [v]/\aI s' b (L++[(v,4,(a::t).map Mv.c)]) K:=by
 obtain⟨z,A⟩:=h.KZ 4;generalize k:HS.mk _ _ _ _=G at A;have C:(L++[(HV.sl s.nx 0 0 4,4,([]:aR))])[L.length]?=some (.sl s.nx 0 0 4,4,[]):=by simp
 obtain⟨v,s2,d,p,D,B⟩:=A.wC L.length C (new:=(a::t).map Mv.c) (Sz.map (f:=Mv.c) (λx=>rfl) _) (bx:=4398046511104) (by simp;omega);have j:(L++[(HV.sl s.nx 0 0 4,4,([]:aR))]).set L.length (v,4,[]++(a::t).map Mv.c)=L++[(v,4,(a::t).map Mv.c)]:=by simp
 rw[j]at B;rw[cL]at p;have q:∃u,ev R U.J4 (bn [.psl (a.c::t.map Mv.c)] 0) s=.code .ret u s2/\look u 2=some v:=by generalize w:ev R U.J4 (bn [.psl (a.c::t.map Mv.c)] 0) s=r;simp only[Mv.c]at p w ⊢;simp[U.J4,k,p]at w;subst w;exact⟨_,rfl,by simp⟩
 obtain⟨u,q,E⟩:=q;exact⟨v,s2,d,afT ⟨.ret,_,s2,q,.inr rfl,by simp[E]⟩,D,B⟩
def Ξ(h:aI s aw L K)(l:aP)(j:l.length<=100000):∃v s' b d,R (.call 204 [.psl (l.map Mv.c)] s)=.val v s'/\cellsOf v=some [v]/\aI s' b (L++d) K/\((l=[]/\v=.psl []/\d=[])∨d=[(v,4,l.map Mv.c)]):=by cases l with|nil=>exact⟨.psl [],s,aw,[],afS,rfl,by simpa using h,.inl ⟨rfl,rfl,rfl⟩⟩|cons a t=>obtain⟨v,s',b,k,p,q⟩:=Θ h a t (by simp at j;omega);exact⟨v,s',b,[(v,4,(a::t).map Mv.c)],k,p,q,.inr rfl⟩
end
def ahO(m:Mv)(s:HS):R (.call 205 [.agg m.c] s)=.val (.bool (bQ m)) s:=by refine afU ?_;by_cases h:m.kind=3<;>simp[U.XG,h,aa,bQ]
def VU(m:Mv)(b:Bool):Bool:=decide (m.kind≠3)&&decide (0<m.id)&&(decide (0<m.arg)==b)
def Φ(m:Mv)(b:Bool)(s:HS):R (.call 206 [.agg m.c,.bool b] s)=.val (.bool (VU m b)) s:=by
 refine afV ?_;unfold VU;by_cases h:m.kind=3
 .simp[U.SA,h,aa]
 by_cases d:0<m.id<;>simp[U.SA,h,d,aa]
def oJ(x:Mn):ak:=[.psl (x.op.map Mv.c),.bool x.forced,.bool x.lost]
section
variable{a:Ar}{x:Mn}{m:Mv}
def zo(h:cz m=true):m.kind≠3:=by intro b;simp[cz,b]at h
def Ψ(ok:dj a)(D:aB a=0)(b:jq a ⟨[],false,false,false⟩ m=true)(s:HS):
  R (.call 168 [.agg (oJ ⟨[],false,false,false⟩),.agg a.c,.agg m.c,.bool true] s)=.val (.bN [.agg (oJ (hZ ⟨[],false,false,false⟩ m)),.bool true]) s:=by
 refine Tp ?_ rfl (by simp[oJ]);have d:=NC a ok m;rw[qq,ji b,D]at d;have hid:=(zj b rfl).2;have j:cz m=true:=by unfold jq at b;rw[ar (ji b)]at b;simp at b;exact b.2
 have E:=zo j;have h0:aI s0 (λ_=>none) [] []:=⟨dT.start (by simp),by simp,by simp⟩;have q:=h0.cY [.ai,.bool false,.bool false];generalize r:HS.mk _ _ _ _=w at q;obtain⟨F,k⟩:=q.Lc (sz:=4) (t:=[m.c]) (Sz.cons rfl Sz.nil);generalize u:HS.mk _ _ _ _=G at k;simp only[bD,aA,aE,bw]at k;obtain⟨s3,z,p⟩:=k.put (a:=0) rfl (v:=.agg [.sl w.nx 0 1 4,.bool false,.bool false]) (new:=[.sl w.nx 0 1 4,.bool false,.bool false]) (by simp[cellsOf]) rfl;have A:=eQ (l:=[.sl w.nx 0 1 4,.bool false,.bool false]) z rfl rfl;simp only[aS]at p;have B:=(p.bz 0 _ _ rfl).1.1;have C:=(p.mem.own 0 _ _ _ rfl).vw (n:=12) (by simp[eu,du,eh]);simp only[Mv.c,hid]at C;simp only[eV,iI,iV,Ar.c,Mv.c,hid]at d;simp only[aA,aE,bw,Nat.reduceAdd,dw,mV,Co,Mv.c,hid]at r u z A B;unfold hZ;rw[ar j];simp[U.rn,oJ,d,hid,E,r,u,z,B,aj];refine aC (.bN (.cons (.agg (.cons C (.data (by simp)))) (.data (by simp))))
end
section
variable{a:Ar}{m top:Mv}{l:aP}{n:Nat}
def Ω(ok:dj a)(hc:aB a=0)(hl:l.length<=400)(Q:l.length=n+1)(D:l[n]?=some top)(E:eO a m=true)(F:cz m=true)
  (h1:(0<top.id/\top.arg=0)->m.id=top.id/\0<m.arg)(h2:¬(0<top.id/\top.arg=0)->0<m.id/\m.arg=0)(s:HS):
  R (.call 168 [.agg [.psl (l.map Mv.c),.bool false,.bool false],.agg a.c,.agg m.c,.bool false] s)=.val (.bN [.agg [.psl ((l++[m]).map Mv.c),.bool false,.bool false],.bool true]) s:=by
 refine Tp ?_;have j:=NC a ok m;rw[qq,E,hc]at j;have G:=zo F;obtain⟨u,w⟩:=aV.1 D;have h4:(n:Int)<l.length:=by omega
 have h5:¬(l.length:Int)=0:=by omega
 have q:l≠ []:=λh=>by rw[h]at Q;cases Q
 have T:bR .i64 ((l.length:Int)-1)=n:=by rw[Q];simp;exact bM (by omega) (by omega)
 have h0:aI s0 (λ_=>none) [] []:=⟨dT.start (by simp),by simp,by simp⟩;have z:=h0.cY [.ai,.bool false,.bool false];generalize r:HS.mk _ _ _ _=S1 at z;have A:=z.cY top.c;have hz:=z.cY [.int .i64 0,.int .i64 0,.int .u8 0,.int .i64 0];have C:=(A.bz 0 _ _ rfl).1.1;generalize k:HS.mk _ _ _ _=S2 at A C;obtain⟨v,s3,c3,L',p,k3,H,V⟩:=Ξ A l (by omega);rcases V with⟨h,_⟩|rfl
 .exact(q h).elim
 have d3:=(H.bz 0 _ _ rfl).1.1;obtain⟨W,s4,c4,O,X,I⟩:=H.append 0 rfl (new:=[m.c]) (Sz.cons rfl Sz.nil) (by simp) (bx:=4398046511104) (by simp;omega);simp only[bD,aS]at I;obtain⟨s5,J,B⟩:=I.put (a:=1) rfl (v:=.agg [W,.bool false,.bool false]) (new:=[W,.bool false,.bool false]) (by simp[cellsOf]) rfl;have Y:=eQ (l:=[W,.bool false,.bool false]) J (by simp[cellsOf]) rfl;simp only[cb,aS]at B;have P:=(B.bz 1 _ _ rfl).1.1;have Z:=(B.mem.own 0 _ _ _ rfl).vw (n:=12) (by rw[show l.map Mv.c++[m.c]=(l++[m]).map Mv.c by simp];exact cq (λx=>by simp[du,eh]) _);have b:=Φ m false;have d:=Φ m true;have hQ:VU m false=(decide (0<m.id)&& !decide (0<m.arg)):=by unfold VU;simp[G]
 have h3:VU m true=(decide (0<m.id)&&decide (0<m.arg)):=by unfold VU;simp[G]
 rw[hQ]at b;rw[h3]at d;simp only[eV,iI,iV,Ar.c,Mv.c]at j;simp only[Mv.c]at b d O k C d3;simp only[aA,aE,bw,Nat.reduceAdd]at r k C d3 P;simp only[aA,aE,bw,Nat.reduceAdd]at J Y;by_cases M:0<top.id
 .by_cases t:top.arg=0
  .obtain⟨N,q2⟩:=h1 ⟨M,t⟩;have q3:0<m.id:=by omega
   simp only[q3,q2,eV,oC,yK,jS]at b d;simp[U.rn,j,q,T,u,w,G,r,k,C,ah,an,aj,M,df t,b,d,df N,p,O,X,J,P];exact aC (.bN (.cons (.agg (.cons (by simpa using Z) (.data (by simp)))) (.data (by simp))))
  obtain⟨N,q2⟩:=h2 (λh=>t h.2);have q4:¬0<m.arg:=by omega
  simp only[N,q4,eV,lb,yO,yK,jS]at b d;simp[U.rn,j,q,T,u,w,G,r,k,C,ah,an,aj,M,t,b,p,O,X,J,P];exact aC (.bN (.cons (.agg (.cons (by simpa using Z) (.data (by simp)))) (.data (by simp))))
 obtain⟨N,q2⟩:=h2 (λh=>M h.1);have q4:¬0<m.arg:=by omega
 simp only[N,q4,eV,lb,yO,yK,jS]at b d;simp[U.rn,j,q,T,u,w,G,r,k,C,ah,an,aj,M,b,p,O,X,J,P];exact aC (.bN (.cons (.agg (.cons (by simpa using Z) (.data (by simp)))) (.data (by simp))))
end
set_option maxHeartbeats 4000000
section
variable{a:Ar}{m top:Mv}{l:aP}{n:Nat}
def aaa(ok:dj a)(hc:aB a=0)(t E:Bool)(hl:l.length<=400)(hn:l.length=n+1)(ho:l[n]?=some top)(hd:eO a m=true)(W:m.kind=3)
  (J:m.id=top.id)(D:m.arg=top.arg)(h3:(E||t)=true->m.n= -1)
  (h4:(E||t)=false->m.n= -1->0<top.arg∨(top.arg=0/\0<top.id/\a.jumps=true))(h5:(E||t)=false->¬m.n= -1->top.kind=1∨m.n=0)(s:HS):
  R (.call 168 [.agg [.psl (l.map Mv.c),.bool E,.bool t],.agg a.c,.agg m.c,.bool false] s)=
   .val (.bN [.agg [.psl (l.dropLast.map Mv.c),.bool (bQ m&&decide (0<m.arg)),.bool (t||(bQ m&&decide (0<m.id)&&decide (m.arg=0)&& !E))],.bool true]) s:=by
 refine Tp ?_;have d:=NC a ok m;rw[qq,hd,hc]at d;obtain⟨g1,g2,g3,_,g5⟩:=fv hd;obtain⟨A,B⟩:=aV.1 ho;have hx:(n:Int)<l.length:=by omega
 have hy:¬(l.length:Int)=0:=by omega
 have C:l≠ []:=λh=>by rw[h]at hn;cases hn
 have hw:bR .i64 ((l.length:Int)-1)=n:=by rw[hn];simp;exact bM (by omega) (by omega)
 have h0:aI s0 (λ_=>none) [] []:=⟨dT.start (by simp),by simp,by simp⟩;have hp:=h0.cY [.ai,.bool false,.bool false];generalize u:HS.mk _ _ _ _=S1 at hp;have hf:=hp.cY top.c;have T:=(hf.bz 0 _ _ rfl).1.1;generalize r:HS.mk _ _ _ _=S2 at hf T;have hr:(l.map Mv.c).take n=l.dropLast.map Mv.c:=by rw[KY,hn];simp
 obtain⟨v,s3,c3,L',k,k3,hq,hs⟩:=Ξ hf l.dropLast (by simp;omega);have d3:=(hq.bz 0 _ _ rfl).1.1;have w:dt 4 (l.map Mv.c)=true:=ql (Sz.map (f:=Mv.c) (λ_=>rfl) l);have hg:=hq.cY [.ai,.bool false,.bool false];generalize z:HS.mk _ _ _ _=S4 at hg;have X:=(hg.bz 1 _ _ rfl).1.1;have H:∀Y Z:Bool,∃s5 s6,(qj 3 (some (.ptr s3.nx 0)) (some (.agg [v,.bool Y,.bool Z])) S4=.v .undef s5)/\(qj 3 (some (.ptr s0.nx 0)) (some (.agg [v,.bool Y,.bool Z])) s5=.v .undef s6)/\ao s5.h s3.nx=some (.cells (cR [v,.bool Y,.bool Z]) 0 3 s3.nx)/\ao s5.h S1.nx=some (.cells (cR top.c) 0 4 S1.nx)/\ao s6.h S1.nx=some (.cells (cR top.c) 0 4 S1.nx)/\ao s6.h s0.nx=some (.cells (cR [v,.bool Y,.bool Z]) 0 3 s0.nx)/\∀b,AL (.val (.bN [.agg [v,.bool Y,.bool Z],.bool b]) s6)=some (.bN [.agg [.psl (l.map Mv.c).dropLast,.bool Y,.bool Z],.bool b]):=by
  intro Y Z;rw[<-List.map_dropLast];obtain⟨s5,I,h8⟩:=hg.put (a:=0) rfl (v:=.agg [v,.bool Y,.bool Z]) (new:=[v,.bool Y,.bool Z]) (by simp[cellsOf]) rfl;simp only[aS]at h8;obtain⟨s6,b6,h9⟩:=h8.put (a:=2) rfl (v:=.agg [v,.bool Y,.bool Z]) (new:=[v,.bool Y,.bool Z]) (by simp[cellsOf]) rfl;simp only[cb,aS]at h9;refine⟨s5,s6,I,b6,(h8.bz 0 _ _ rfl).1.1,(h8.bz 1 _ _ rfl).1.1,(h9.bz 1 _ _ rfl).1.1,(h9.bz 2 _ _ rfl).1.1,λb=>aC (.bN (.cons (.agg (.cons ?_ (.data (by simp)))) (.data (by simp))))⟩;rcases hs with⟨h,rfl,rfl⟩|rfl
  .rw[h];exact .data rfl
  exact(h9.mem.own 0 _ _ _ rfl).vw (n:=12) (cq (λx=>by simp[du,eh]) _)
 have j:=ahO m;have p:n<=l.length:=by omega
 rw[<-hr]at k;simp only[eV,iI,iV,Ar.c,Mv.c]at d;simp only[Mv.c]at r T k j w;simp only[aA,aE,bw,Nat.reduceAdd]at u r z T d3 X;by_cases F:m.n= -1
 .have h6:bQ m=true:=by simp[bQ,W,F]
  rw[h6]at j ⊢;simp only[iI];by_cases V:0<top.arg
  .have q:¬top.arg=0:=by omega
   have G:0<top.id:=by rw[<-J];exact g3 (by rw[D];exact V)
   have hb:decide (0<m.arg)=true:=by rw[D];simpa using V
   have h7:(t||(decide (0<m.id)&&decide (m.arg=0)&& !E))=t:=by rw[D];simp[q]
   rw[hb,h7];obtain⟨s5,s6,I,b6,M,N,O,P,Q⟩:=H true t;cases E<;>cases t<;>simp-implicitDefEqProofs[U.rn,d,C,hw,A,p,B,df W,u,r,z,T,d3,k3,ah,an,aj,df F,V,q,G,df J,df D,k,j,w,I,b6,X,M,N,O,P]<;>exact Q _
  have q:top.arg=0:=by rw[D]at g2;omega
  have hb:decide (0<m.arg)=false:=by rw[D];simpa using V
  by_cases G:0<top.id
  .have h7:(t||(decide (0<m.id)&&decide (m.arg=0)&& !E))=(t|| !E):=by rw[J,D];simp[q,G]
   rw[hb,h7];cases E
   .obtain⟨s5,s6,I,b6,M,N,O,P,Q⟩:=H false true;cases t
    .have hj:a.jumps=true:=by rcases h4 rfl F with h|⟨_,_,h⟩;exact(V h).elim;exact h
     rw[hj]at d;simp-implicitDefEqProofs[U.rn,d,C,hw,A,p,B,df W,u,r,z,T,d3,k3,ah,an,aj,df F,V,df q,G,hj,df J,df D,k,j,w,I,b6,X,M,N,O,P];exact Q _
    simp-implicitDefEqProofs[U.rn,d,C,hw,A,p,B,df W,u,r,z,T,d3,k3,ah,an,aj,df F,V,df q,G,df J,df D,k,j,w,I,b6,X,M,N,O,P];exact Q _
   obtain⟨s5,s6,I,b6,M,N,O,P,Q⟩:=H false t;cases t<;>simp-implicitDefEqProofs[U.rn,d,C,hw,A,p,B,df W,u,r,z,T,d3,k3,ah,an,aj,df F,V,df q,G,df J,df D,k,j,w,I,b6,X,M,N,O,P]<;>exact Q _
  have h7:(t||(decide (0<m.id)&&decide (m.arg=0)&& !E))=t:=by rw[J];simp[G]
  rw[hb,h7];obtain⟨s5,s6,I,b6,M,N,O,P,Q⟩:=H false t;have hj:E=true∨t=true:=by
   cases E<;>cases t<;>simp;rcases h4 rfl F with h|⟨_,h,_⟩
   .exact(V h).elim
   exact(G h).elim
  rcases hj with rfl|rfl
  .cases t<;>simp-implicitDefEqProofs[U.rn,d,C,hw,A,p,B,df W,u,r,z,T,d3,k3,ah,an,aj,df F,V,G,df J,df D,k,j,w,I,b6,X,M,N,O,P]<;>exact Q _
  cases E<;>simp-implicitDefEqProofs[U.rn,d,C,hw,A,p,B,df W,u,r,z,T,d3,k3,ah,an,aj,df F,V,G,df J,df D,k,j,w,I,b6,X,M,N,O,P]<;>exact Q _
 have h6:bQ m=false:=by simp[bQ,W,F]
 rw[h6]at j ⊢;have ht:(E||t)=false:=by cases h:(E||t)with|false=>rfl|true=>exact(F (h3 h)).elim
 obtain⟨rfl,rfl⟩:E=false/\t=false:=by simpa using ht
 simp only[yJ,FU];obtain⟨s5,s6,I,b6,M,N,O,P,Q⟩:=H false false;by_cases V:0<top.arg
 .have q:¬top.arg=0:=by omega
  have G:0<top.id:=by rw[<-J];exact g3 (by rw[D];exact V)
  by_cases hu:top.kind=1
  .simp-implicitDefEqProofs[U.rn,d,C,hw,A,p,B,df W,u,r,z,T,k3,ah,an,aj,F,df hu,q,G,df J,df D,k,j,w,I,b6,X,M,N,O,P];exact Q _
  simp-implicitDefEqProofs[U.rn,d,C,hw,A,p,B,df W,u,r,z,T,k3,ah,an,aj,F,hu,df ((h5 rfl F).resolve_left hu),q,G,df J,df D,k,j,w,I,b6,X,M,N,O,P];exact Q _
 have q:top.arg=0:=by rw[D]at g2;omega
 by_cases hu:top.kind=1
 .by_cases G:0<top.id<;>simp-implicitDefEqProofs[U.rn,d,C,hw,A,p,B,df W,u,r,z,T,k3,ah,an,aj,F,df hu,df q,G,df J,df D,k,j,w,I,b6,X,M,N,O,P]<;>exact Q _
 by_cases G:0<top.id<;>simp-implicitDefEqProofs[U.rn,d,C,hw,A,p,B,df W,u,r,z,T,k3,ah,an,aj,F,hu,df ((h5 rfl F).resolve_left hu),df q,G,df J,df D,k,j,w,I,b6,X,M,N,O,P]<;>exact Q _
end
section
variable{a:Ar}{x:Mn}{m:Mv}
def ahP(ok:dj a)(z:aB a=0)(b:jq a x m=true)(hlen:x.op.length<=400)(I:x.begun=false->x.op=[]/\x.forced=false/\x.lost=false)(s:HS):
  R (.call 168 [.agg (oJ x),.agg a.c,.agg m.c,.bool (!x.begun)] s)=.val (.bN [.agg (oJ (hZ x m)),.bool true]) s:=by
 obtain⟨op,p,q,J⟩:=x;cases J with
 |false=>obtain⟨C,D,E⟩:=I rfl;simp only at C D E;subst C D E;exact Ψ ok z b s
 |true=>
  have d:=ji b;obtain⟨g1,M,g3,N,O⟩:=fv d;unfold jq at b;rw[ar d]at b;simp only[bf]at b hlen;cases w:op.getLast? with
  |none=>rw[w]at b;cases b
  |some top=>
   rw[w]at b;simp only at b;have F:op.length=op.length-1+1:=by cases op with|nil=>simp at w|cons _ _=>simp
   have k:op[op.length-1]?=some top:=by rw[<-List.getLast?_eq_getElem?];exact w
   have u:bQ m=true->m.kind=3/\m.n= -1:=by intro h;simpa[bQ]using h
   have A:cz m=true->m.kind≠3:=zo;have v:z6 top m=true->m.id=top.id/\m.arg=top.arg/\m.kind=3/\(top.kind=1∨m.n<=0):=by intro h;simpa[z6,and_assoc]using h
   cases r:cz m with
   |true=>
    have j:(p||q)=false:=by cases h:(p||q)with|false=>rfl|true=>rw[h]at b;simp at b;exact(A r (u b.2).1).elim
    obtain⟨rfl,rfl⟩:p=false/\q=false:=by simpa using j
    simp only[Bool.or_self,cy,bp,r,bf]at b;have:=Ω ok z hlen F k d r (λh=>by simpa[h.1,h.2]using b) (λh=>by
     rw[aq (by simpa using h)]at b;simpa using b) s
    unfold hZ;rw[ar r];exact this
   |false=>
    have t:m.kind=3:=by
     have:¬(m.kind=1∨m.kind=2):=by intro h;simp[cz,h]at r
     rcases N with h|h|h
     .exact(this (.inl h)).elim
     .exact(this (.inr h)).elim
     exact h
    have P:z6 top m=true/\((p||q)=true->bQ m=true)/\((p||q)=false->bQ m=true->top.arg=0->0<top.id/\a.jumps=true):=by
     cases j:(p||q)with
     |true=>rw[j]at b;simp at b;exact⟨b.1,λ_=>b.2,λh=>by cases h⟩
     |false=>
      rw[j]at b;simp only[cy,bp,r]at b;cases B:bQ m with
      |false=>rw[B]at b;simp at b;exact⟨b,λh=>(by cases h),λ_ h=>(by cases h)⟩
      |true=>
       by_cases h0:top.arg=0
       .rw[B,h0]at b;simp at b;exact⟨b.1.1,λh=>(by cases h),λ_ _ _=>⟨b.1.2,b.2⟩⟩
       rw[B]at b;simp[h0]at b;exact⟨b,λh=>(by cases h),λ_ _ h=>(h0 h).elim⟩
    obtain⟨Q,T,V⟩:=P;obtain⟨W,G,i3,X⟩:=v Q;have:=aaa ok z p q hlen F k d t W G (λh=>(u (T (by rw[FZ];exact h))).2) (λh H=>by
      by_cases h0:top.arg=0
      .obtain⟨Y,Z⟩:=V (by rw[FZ];exact h) (by simp[bQ,t,H]) h0;exact .inr ⟨h0,Y,Z⟩
      .rw[G]at M;exact .inl (by omega)) (λh H=>by
      rcases X with h|h
      .exact .inl h
      have:=O t;exact .inr (by omega)) s
    unfold hZ;rw[aq (by rw[r];decide)];exact this
end
def me(n:Nat):ay:=if n<128 then [n]else [192+n/64,128+n%64]
def N3(v:bV)(s:HS):da:=match v with|some (.int _ (.ofNat n))=>bif Nat.blt n 128 then .v (.str [n]) s else bif Nat.blt n 2048 then .v (.str [192+n/64,128+n%64]) s else .bad|_=>.bad
@[simp]def abx{e:En}{s:HS}{x:X}:cO (.cis x) e s=N3 (bq x e) s:=rfl
def Ek{s:HS}{k:IntKind}{n:Nat}(h:n<2048):N3 (some (.int k (n:Int))) s=.v (.str (me n)) s:=by
 show(bif Nat.blt n 128 then da.v (.str [n]) s else bif Nat.blt n 2048 then .v (.str [192+n/64,128+n%64]) s else .bad)=_;unfold me;by_cases b:n<128
 .rw[cp.2 b,ar b];rfl
 have:Nat.blt n 128=false:=by cases c:Nat.blt n 128 with|false=>rfl|true=>exact(b (cp.1 c)).elim
 rw[this,cp.2 h,aq b];rfl
def El{n:Nat}(h:n<2048):∀k∈me n,k<256:=by
 intro k b;unfold me at b
 split at b
 .simp at b;omega
 simp at b;omega
def uo(n:Nat):(me n).length<=2:=by unfold me;split<;>simp
section
variable{s:HS}{aw:bc}{L:cS}{K:dV}
def oq.keep{s':HS}{o:Ky}{p v:HV}{F:cg}{au:aR}(j:oq s o p v)(A:o.toNat<s.nx.toNat)(u:bY s v 1 F au)(w:∀k,k.toNat<s.nx.toNat->ao s'.ty k=ao s.ty k):oq s' o p v:=by
 refine⟨by rw[w o A];exact j.ty,j.pp,λq a b c d=>?_⟩;have r:q.toNat<s.nx.toNat:=by
  rcases u.2.2 with⟨h,_⟩|⟨D,t,E,g,z,B,_,_,_,_,_,C,_⟩
  .rw[h]at d;cases d
  rw[B]at d;cases d;exact u.2.1 _ (C _ (by simp))
 rw[w q r];exact j.tv q a b c d
def O3{a i:Nat}{o:Ky}{p v:HV}{l:ay}(H:aI s aw L K)(z:K[a]?=some (o,[p,v]))(O:L[i]?=some (v,1,l.map uC))(A:oq s o p v)(t:ay)(P:l.length+t.length<=140737488355328):
  ∃c s' d,R (.call 207 [.ptr o 0,.str t] s)=.val (.bN [iV t.length,.gj]) s'/\aI s' d (L.set i (c,1,(l++t).map uC)) (K.set a (o,[.ptr o 0,c]))/\oq s' o (.ptr o 0) c/\(∀k,k.toNat<s.nx.toNat->ao s'.ty k=ao s.ty k):=by
 obtain⟨s1,Q,j,B,I⟩:=Uf H z A;have C:=(aV.1 z).1;have D:=(H.bz a o _ z).1.2.2;have q:(K.set a (o,[.ptr o 0,v]))[a]?=some (o,[.ptr o 0,v]):=by rw[gF C]
 have J:=(j.bz a o _ q).1.1;obtain⟨c,s2,u,T,V,E,tv,M,n2⟩:=La j O (by rw[B];exact A.tv) t P;obtain⟨s3,W,b,F,n3⟩:=E.NS q 1 (by simp) V;rw[Cv]at b;simp only[cb,aS]at b;simp only[aA,aE,bw,Nat.reduceAdd]at J;have G:∃w,ev R U.Fu (bn [.ptr o 0,.str t] 0) s=.code .ret w s3/\look w 4=some (iV t.length)/\look w 5=some .gj:=by generalize N:ev R U.Fu (bn [.ptr o 0,.str t] 0) s=r;simp[U.Fu,Q,J,T,W]at N;subst N;exact⟨_,rfl,by simp⟩
 obtain⟨w,G,X,Y⟩:=G;refine⟨c,s3,u,YN rfl ⟨.ret,_,s3,G,.inr rfl,by simp[X,Y]⟩,b,⟨?_,.inr rfl,by rw[F];exact tv⟩,λk Z=>by rw[F,M k (by rw[I];exact Z),B]⟩;rw[F,M o (by rw[I];exact D),B];exact A.ty
def O4{F:cg}{o:Ky}{p v:HV}{l:ay}(q:gD s o [p,v])(j:bY s v 1 F (l.map uC))(B:oq s o p v)(h0:v=.ai∨l≠ [])(C:l.length<=4611686018427387904)(D:∀n∈l,n<256):
  ∃s',R (.call 136 [.ptr o 0] s)=.val (.str l) s'/\di F s s':=by
 have E:=q.1;have d:s.load o 1 none=some v:=by show s.cell o 1=_;rw[B8,E];simp
 rcases h0 with rfl|h0
 .have r:l=[]:=by
   rcases j.2.2 with⟨_,h⟩|⟨G,t,u,g,c,w,_⟩
   .exact Gb.1 h
   cases w
  subst r;refine⟨s,dB ?_ trivial,aY _,rfl,λ_ _ _=>rfl,λ_ _ _=>rfl⟩;show mj LU [.ptr o 0] s=_;unfold mj;simp only[d]
 obtain⟨z,rfl⟩:=j.fY (by intro h;exact h0 (Gb.1 h));obtain⟨m,H⟩:=B.tv _ _ _ _ rfl;have b:=j.cells.2;rcases j.2.2 with⟨h,_⟩|⟨G,t,u,g,c,w,A,N,O,I,_,J,_⟩
 .cases h
 cases w;refine⟨{h:=fB s.h (z::c),nx:=s.nx,gr:=s.gr,ty:=s.ty},dB ?_ trivial,aY _,rfl,λk _ M=>(jC s.h (z::c) k).2 (λh=>M (J _ h)),λ_ _ _=>rfl⟩;show mj LU [.ptr o 0] s=_;unfold mj;have hlen:0<l.length:=yB.2 h0;rw[bH]at d b;rw[hU,wu,A]at b;simp only[d,H,iv,b,ze l D,A,I];rw[show Nat.beq 5 LU.I5=true from rfl,cp.2 hlen,show Nat.ble l.length 4611686018427387904=true from Af C];rfl
end
def mvS(m:Mv):Prop:=0<=m.id/\m.id<=8/\0<=m.arg/\m.arg<=8/\1<=m.kind/\m.kind<=3
def zp(m:Mv):ay:=me (64*m.id+m.arg+1).toNat++[32]
def sM(m:Mv):ay:=me m.kind.toNat
def Lw(b:Bool):ay:=if b then [121]else [110]
def wrap32{n:Int}(h0:0<=n)(b:n<2048):bR .i32 n=n:=by show IntKind.wrap .i32 n=n;obtain⟨k,rfl⟩:=Int.eq_ofNat_of_zero_le h0;simp[IntKind.wrap,IntKind.bits,IntKind.signed];omega
def nw{f:Mv->ay}{c:Nat}(b:∀m,(f m).length<=c):∀l:aP,(l.flatMap f).length<=c*l.length
 |[]=>by simp
 |a::l=>by have:=nw b l;have:=b a;rw[ni,cE,aA,Nat.mul_succ];omega
def zq(m:Mv):(zp m).length<=3:=by have:=uo (64*m.id+m.arg+1).toNat;simp[zp];omega
def zr(m:Mv):(sM m).length<=2:=uo _
def aab{l:aP}(hl:l.length<=400)(hS:∀m∈l,mvS m){e:En}{s:HS}{o:Out}{q t:Ky}{j b p d v1:HV}{aw:bc}
  (z:bO e [(1,v1),(4,.ptr q 0),(5,.ptr t 0),(10,.psl (l.map Mv.c)),(11,iV l.length),(12,iV 0)])
  (E:aI s aw [(b,1,[]),(d,1,[])] [(t,[p,d]),(q,[j,b])])(A:oq s q j b)(B:oq s t p d)(h0:b=.ai/\d=.ai)(ho:bK R (.loop U.xS) e s=o):
  ∃(e':En) (s':HS) (aw:bc) (j b p d:HV),o=.code (.exit 0) e' s'/\bO e' [(1,v1),(4,.ptr q 0),(5,.ptr t 0)]/\
   aI s' aw [(b,1,(l.flatMap zp).map uC),(d,1,(l.flatMap sM).map uC)] [(t,[p,d]),(q,[j,b])]/\oq s' q j b/\oq s' t p d/\(l=[]->b=.ai/\d=.ai):=by
 refine aX ho l.length
  (λi e s=>∃(aw:bc) (j b p d:HV),bO e [(1,v1),(4,.ptr q 0),(5,.ptr t 0),(10,.psl (l.map Mv.c)),(11,iV l.length),(12,iV i)]/\
   aI s aw [(b,1,((l.take i).flatMap zp).map uC),(d,1,((l.take i).flatMap sM).map uC)] [(t,[p,d]),(q,[j,b])]/\oq s q j b/\oq s t p d/\(l=[]->b=.ai/\d=.ai))
  (λo=>∃(e':En) (s':HS) (aw:bc) (j b p d:HV),o=.code (.exit 0) e' s'/\bO e' [(1,v1),(4,.ptr q 0),(5,.ptr t 0)]/\
   aI s' aw [(b,1,(l.flatMap zp).map uC),(d,1,(l.flatMap sM).map uC)] [(t,[p,d]),(q,[j,b])]/\oq s' q j b/\oq s' t p d/\(l=[]->b=.ai/\d=.ai))
  0 (by omega) ⟨aw,j,b,p,d,z,by simpa using E,A,B,λ_=>h0⟩
  (λi e s r C ⟨aw,j,b,p,d,z,E,A,B,h0⟩ F=>by
   have N:(i:Int)<l.length:=by omega
   have O:=aO C;obtain⟨g1,g2,g3,g4,g5,g6⟩:=hS _ (bX C);have P:(l.map Mv.c)[i]?=some (l[i]).c:=by rw[fW,O];rfl
   have Q:l.take (i+1)=l.take i++[l[i]]:=eW C;generalize he:l[i]=m at*;have hd:=nw zq (l.take i);have hf:=nw zr (l.take i);have hg:(l.take i).length<=400:=by simp;omega
   have u:=E.cY m.c;have D:=(u.bz 0 _ _ rfl).1.1;have G:oq {h:=av (some (.cells (cR m.c) 0 m.c.length s.nx)) s.nx s.h,nx:=s.nx.succ,gr:=av (some [s.nx]) s.nx s.gr,ty:=s.ty} q j b:=⟨A.ty,A.pp,A.tv⟩;have H:oq {h:=av (some (.cells (cR m.c) 0 m.c.length s.nx)) s.nx s.h,nx:=s.nx.succ,gr:=av (some [s.nx]) s.nx s.gr,ty:=s.ty} t p d:=⟨B.ty,B.pp,B.tv⟩;generalize I:HS.mk _ _ _ _=S1 at u D G H;have k1:=zq m;have k2:=zr m;obtain⟨T,s2,c2,h2,w,V,t2⟩:=O3 (a:=2) (i:=0) u rfl rfl G (zp m) (by omega);have W:=H.keep (u.bz 1 _ _ rfl).1.2.2 (u.mem.own 1 _ _ _ rfl) t2;simp only[aS,cb]at w;have J:=(w.bz 0 _ _ rfl).1.1;have X:=(w.bz 2 _ _ rfl).1.2.2;obtain⟨Y,s3,c3,h3,M,Z,t3⟩:=O3 (a:=1) (i:=1) w rfl rfl W (sM m) (by omega);have h1:=V.keep X (w.mem.own 0 _ _ _ rfl) t3;simp only[aS,cb]at M;have h4:bR .i64 (64*m.id)=64*m.id:=bM (by omega) (by omega);have h5:bR .i64 (64*m.id+m.arg)=64*m.id+m.arg:=bM (by omega) (by omega);have h6:bR .i64 (64*m.id+m.arg+1)=64*m.id+m.arg+1:=bM (by omega) (by omega);have h7:bR .i32 (64*m.id+m.arg+1)=64*m.id+m.arg+1:=wrap32 (by omega) (by omega);have h8:bR .i32 m.kind=m.kind:=wrap32 (by omega) (by omega);have h9:∀s,N3 (some (.int .i32 (64*m.id+m.arg+1))) s=.v (.str (me (64*m.id+m.arg+1).toNat)) s:=by intro s;have:=Ek (s:=s) (k:=.i32) (n:=(64*m.id+m.arg+1).toNat) (by omega);rwa[Ks (by omega)]at this
   have ha:∀s,N3 (some (.int .i32 m.kind)) s=.v (.str (me m.kind.toNat)) s:=by intro s;have:=Ek (s:=s) (k:=.i32) (n:=m.kind.toNat) (by omega);rwa[Ks (by omega)]at this
   have hj:=uo (64*m.id+m.arg+1).toNat;have hb:∀s,n8 false .add (some (.str (me (64*m.id+m.arg+1).toNat))) (some (.str [32])) s=.v (.str (me (64*m.id+m.arg+1).toNat++[32])) s:=λs=>pX (by simp;omega)
   have hw:=bj C (by omega);simp only[Mv.c,aA,aE,bw,Nat.reduceAdd]at D J I P;unfold zp at h2;unfold sM at h3;simp only[ab,ae]at z;simp[U.xS,z,C,N,he,I,D,ah,an,h4,h5,h6,h7,h8,h9,ha,hb,h2,J,h3,hw]at F;subst F;refine .inl ⟨_,_,rfl,c3,_,T,_,Y,by simp[z],?_,h1,Z,λh=>by rw[h]at C;exact(Nat.not_lt_zero _ C).elim⟩;rw[Q,uc,uc];simpa using M.Hi)
  (λe s r ⟨aw,j,b,p,d,z,E,A,B,h0⟩ F=>by
   simp only[ab,ae]at z;simp[U.xS,z]at F;subst F;rw[iZ (aY _)]at E;exact⟨by simp,_,_,aw,j,b,p,d,rfl,by simp[z],E,A,B,h0⟩)
end Go.Proofs.YtclepinjnoiakaaGreatDoor.K.Hm.S
