/- PactWitness returns true for every pact, strategy and side, part 2. -/
import Derived.Test.YtcfbbbjhnaienaaGreatDoorCaa
import Derived.Lib.ItoaNum
import Derived.Sort.Grow
import Derived.Deep.Draws
import Derived.Lib.LaidTab
import Derived.Shelf.Strings.Builder1
import Derived.Laws.Externs
import Derived.KernelRfl
import Derived.WalkKit
import Derived.Lib.Walk
import Derived.Lib.SliceRun
import Derived.Deep.Upon
import Derived.Test.YtcfbbbjhnaienaaGreatDoorProg
import Derived.Lib.Builder
import Derived.Shelf.Small.Wraps
import Derived.Shelf.Strings.BuilderF
import Derived.Shelf.Strings.BuilderK
import Derived.Shelf.Strconv.Itoa0
import Derived.Shelf.Strconv.Itoa1
import Derived.Shelf.LaysM
import Derived.Shelf.Strconv.Itoa2
import Derived.Shelf.Strconv.Itoa3
import Derived.Shelf.Bits.Mul64
import Derived.Ground.Names2Prog
import Derived.Shelf.Slices.SearchI
import Derived.Ground.SlgnProg
import Derived.Shelf.SlicesE.Clone
set_option linter.all false
open Option renaming bind_some->Ey,getD_some->gB,map_some->me,map_eq_some_iff->PM
open List renaming contains_eq_mem->Pz,contains_cons->PA,filterMap_cons->PG,foldl_cons->nw
open Nat renaming sub_zero->I5,add_zero->iB,le_of_lt_succ->PJ,le_refl->ER
open Array renaming all_eq_true'->PD,size_setIfInBounds->PK
set_option maxRecDepth 10000
noncomputable section
namespace Go.Proofs.YtcfbbbjhnaienaaGreatDoor.K.Hm
open Go
section sound
variable{M:aG}{C:eR}{P:Program}{β:Bt}{s:HS}{w:World}{e:En}{a:Act}
def HD(c:bW M C β s w)(d:dN β (Live M s β) w e a){go:Oper}{op:lL}(b:ba P op go.op=true)(g:∀f l,dA op e s=.call f l->dQ P f):ov M C P β s w a go (dA op e s):=by cases op with|mv=>exact U5 c d b|pick=>exact Lo c d b|alloc=>exact IX (e:=e) c b|alb=>exact O6 (e:=e) c b|box=>exact O7 c d b|fbx=>exact OV c d b|build=>exact IZ c d b|bsl=>exact O9 c d b|fbl=>exact Pa c d b|ld=>exact U6 c d b|st=>exact Vb c d b|fa=>exact U7 c d b|ia=>exact U8 c d b|idx=>exact OP c d b|len=>exact OQ c d b|bin=>exact Pt c d b|un=>exact U9 c d b|mkf=>exact OU c d b|ext=>exact OR c d b|cnv=>exact OS c d b|nck=>exact OT c d b|mm=>exact Va c d b|app=>exact Pp c d b|mks=>exact Pr c d b|mkm=>exact O8 (e:=e) c b|lkp=>exact Pd c d b|mup=>exact Pg c d b|eqs=>exact Pe c d b|niq=>exact O4 c d b|slc=>exact OW c d b|sls=>exact O0 c d b|call=>exact Lt d b|dyn=>exact Px d b g|cis=>exact O2 c d b|men=>exact Ph c d b|mes=>exact Pk c d b|aps=>exact Pq c d b|cpy=>exact Pu c d b|cap=>exact trivial|bad=>exact trivial
def lH(ih:Task->Out)(o:aR)(e:En)(s:HS):Option (HV×HS):=match kU e o.g with
 |some true=>(match dA o.op e s with
  |.v v s'=>some (v,s')
  |.call f l=>(match ih (.call f l s)with|.val v s'=>some (v,s')|_=>none)
  |.round f l=>(match ih (.round f l s)with|.val v s'=>some (v,s')|_=>none)
  |.bad=>none)
 |some false=>some (.undef,s)
 |none=>none
def wF{ih:Task->Out}{o:aR}{K:En->HS->Out}{x:Ex}{c:En}{s2:HS}(h:one ih o e s K=.code x c s2):∃v s',lH ih o e s=some (v,s')/\K (e.put o.d v) s'=.code x c s2:=by
 unfold one at h;unfold lH;cases j:kU e o.g with
 |none=>rw[j]at h;cases h
 |some q=>
  rw[j]at h;cases q with
  |false=>exact⟨.undef,s,rfl,h⟩
  |true=>
   simp only[bR]at h;cases i:dA o.op e s with
   |v v s'=>rw[i]at h;exact⟨v,s',rfl,h⟩
   |bad=>rw[i]at h;cases h
   |call f l=>
    rw[i]at h;simp only[];have h:(ih (.call f l s)).n4 (λv s'=>K (e.put o.d v) s') (.bad 1)=.code x c s2:=h;cases b:ih (.call f l s)with
    |val v s'=>rw[b]at h;exact⟨v,s',rfl,h⟩
    |code=>rw[b]at h;cases h
    |bad=>rw[b]at h;cases h
   |round f l=>
    rw[i]at h;simp only[];have h:(ih (.round f l s)).n4 (λv s'=>K (e.put o.d v) s') (.bad 2)=.code x c s2:=h;cases b:ih (.round f l s)with
    |val v s'=>rw[b]at h;exact⟨v,s',rfl,h⟩
    |code=>rw[b]at h;cases h
    |bad=>rw[b]at h;cases h
def qw(M:aG)(C:eR)(β:Bt)(s:HS)(w:World)(v:HV)(s':HS):Ending->World->Prop:=
 λd c=>∃u b,d=.returned u/\bW M C b s' c/\Ext M β s w b s' c/\HR b (Live M s' b) c v u
def uw(c:Nat)(N:aG)(w:World)(d:List Deferred):Prop:=∃b:az,d=b.map (λr=>{target:=.collected r,args:= #[]})/\b.Nodup/\∀r∈b,c<=r/\w.heap[r]?=some (.deferred (some []))/\¬N r
def uw.nil{b:Nat}{N:aG}:uw b N w []:=⟨[],rfl,.nil,by simp⟩
def uw.ext{c:Nat}{d:Bt}{s':HS}{w':World}(h:Ext M β s w d s' w'){f:List Deferred}(j:uw c (Live M s β) w f):uw c (Live M s' d) w' f:=by obtain⟨k,l,m,o⟩:=j;refine⟨k,l,m,λr p=>?_⟩;obtain⟨q,g,i⟩:=o r p;have b:=lt_of_block g;exact⟨q,by rw[h.keeps.same r b i];exact g,λx=>i (h.less r b x)⟩
def FW(b:bL):Fence:={Fence.wide with round:=b}
def wG{b:bL}{n:Nat}{f:FuncId}{args:Array Value}{R:Ending->World->Prop}(h:Calls P f args w R):CallsIn (FW b) n P f args w R:=by have h:=callsIn_wide (n:=n).2 h;exact⟨trivial,λc _=>h.2 c (room_wide _)⟩
def EB{g:bL}{n l:Nat}{f:FuncId}{tmps:Array Value}{b d:Code}{R:Ending->World->Prop}(h:RoundIn Fence.wide n P l f tmps b d w R):RoundIn (FW g) n P l f tmps b d w R:=
 ⟨trivial,λc i _=>h.2 c i (room_wide _)⟩
def Ex.to:Ex->Exit
 |.normal=>.normal
 |.ret=>.ret
 |.exit i=>.exit i
structure At(M:aG)(C:eR)(nt:Nat)(keep:az)(ro:bL)(lo:Nat)(β:Bt)(s:HS)(e:En)(a:Act)(w:World):Prop where
 rel:bW M C β s w
 env:nm β (Live M s β) w keep e a.tmps
 size:a.tmps.size=nt
 marks:uw lo (Live M s β) w a.defers
 lo_le:lo<=w.heap.size
 fix:jG C (Live M s β) w
 HE:∀l,ro=some l->∃r,w.heap[l]?=some (.loop r)
def At.later{nt:Nat}{keep:az}{d:bL}{f:Nat}(h:At M C nt keep d f β s e a w){c:Bt}{s':HS}{w':World}(g:bW M C c s' w')(b:Ext M β s w c s' w'):At M C nt keep d f c s' e a w':=
 ⟨g,h.env.ext b,h.size,h.marks.ext b,fu h.lo_le b.keeps.size,h.fix.ext b,λl i=>let⟨r,j⟩:=h.HE l i;b.loops l r j⟩
def mD(C:eR)(P:Program)(nt:Nat)(keep:az)(code:Code)(e:En)(s:HS)(x:Ex)(e':En)(s':HS):Prop:=
 ∀(M:aG) (b:bL) (c:Nat) (β:Bt) (a:Act) (w:World),At M C nt keep b c β s e a w->
  code.wpIn (FW b) 0 P (λg h d=>g=x.to/\∃f,At M C nt keep b c f s' e' h d/\Ext M β s w f s' d) a w
def nB(F:Fence)(n:Nat)(P:Program)(c:Code)(Q:Exit->Act->World->Prop)(a:Act)(w:World):Prop:=
 ∀(b:Frame) (k:List Item) (d:List Frame),b.roundOf=F.round->F.fn b.fn->F.room (d.length+1+n)->
  ∃e f g,Q e f g/\ArrivesIn (Machine.fenced P F) P (lone (b.atR a (.code c::.inLoop c::k)) d w) b k d e f g
def EC(M:aG)(C:eR)(nt:Nat)(keep:az)(d:bL)(f:Nat)(β:Bt)(s:HS)(w:World)(x:Ex)(e':En)(s':HS):Exit->Act->World->Prop:=
 λg h b=>g=x.to/\∃c,At M C nt keep d f c s' e' h b/\Ext M β s w c s' b
def oX(C:eR)(P:Program)(nt:Nat)(keep:az)(code:Code)(e:En)(s:HS)(x:Ex)(e':En)(s':HS):Prop:=
 ∀(M:aG) (b:bL) (c:Nat) (β:Bt) (a:Act) (w:World),At M C nt keep b c β s e a w->nB (FW b) 0 P code (EC M C nt keep b c β s w x e' s') a w
def nD(w0 w:World):Prop:=w0.heap.size<=w.heap.size/\(∀b,b<w0.heap.size->w.heap[b]?=w0.heap[b]?)/\w.os=w0.os/\w.tape=w0.tape/\w.output=w0.output
def qx(w0:World)(s:HS)(β:Bt):Prop:=∀b,iO s β b->w0.heap.size<=b
def I3(M:aG)(C:eR)(nt:Nat)(keep:az)(d:bL)(f:Nat)(w0:World)(x:Ex)(e':En)(s':HS):Exit->Act->World->Prop:=
 λg h b=>g=x.to/\∃c,At M C nt keep d f c s' e' h b/\nD w0 b/\qx w0 s' c
def oY(C:eR)(P:Program)(nt:Nat)(keep:az)(code:Code)(e:En)(s:HS)(x:Ex)(e':En)(s':HS):Prop:=
 ∀(M:aG) (c:bL) (d:Nat) (β:Bt) (a:Act) (w w0:World),At M C nt keep c d β s e a w->nD w0 w->qx w0 s β->(∀b,M b->b<w0.heap.size)->code.wpIn (FW c) 0 P (I3 M C nt keep c d w0 x e' s') a w
def oZ(C:eR)(P:Program)(nt:Nat)(keep:az)(code:Code)(e:En)(s:HS)(x:Ex)(e':En)(s':HS):Prop:=
 ∀(M:aG) (c:bL) (d:Nat) (β:Bt) (a:Act) (w w0:World),At M C nt keep c d β s e a w->nD w0 w->qx w0 s β->(∀b,M b->b<w0.heap.size)->nB (FW c) 0 P code (I3 M C nt keep c d w0 x e' s') a w
structure hU(C:eR)(P:Program)(ih:Task->Out):Prop where
 call:∀f args s v s',ih (.call f args s)=.val v s'->dQ P f/\∀(M:aG) β w (vs:List Value),bW M C β s w->jG C (Live M s β) w->eQ β (Live M s β) w args vs->Calls P f vs.toArray w (qw M C β s w v s')
 round:∀l args s v s',ih (.round l args s)=.val v s'->∀(M:aG) β w pl (vs:List Value),bW M C β s w->jG C (Live M s β) w->β l=some pl->eQ β (Live M s β) w args vs->
  ∃r:Loop,w.heap[pl.b]?=some (.loop r)/\r.params.size=vs.length/\RoundIn Fence.wide 0 P pl.b r.fn ((r.params.zip vs.toArray).foldl (λtmps (t,x)=>tmps.setIfInBounds t x) r.tmps) r.assign r.body w (qw M C β s w v s')
 loop:∀nt keep c code,C.rel nt keep c code->∀e s x e' s',ih (.loop c e s)=.code x e' s'->oX C P nt keep code e s x e' s'
 oJ:∀nt keep c code,C.rel nt keep c code->∀e s x e' s',ih (.oJ c e s)=.code x e' s'->oZ C P nt keep code e s x e' s'
def ux{op:lL}{go:Op}(h:ba P op go=true)(d:op≠ .bad)(f:∀x,op≠ .cap x):∀c,go≠ .defer c:=by intro c b;subst b;cases op<;>first|(simp[ba]at h;done)|exact d rfl|exact f _ rfl|(rename_i k _;cases k<;>simp[ba]at h;done)|(rename_i n;cases n<;>simp[ba]at h)
def ED{goops:Array Oper}{t:Nat}{b:Bool}{go:Oper}(c:Ef goops (some (t,b)) go.guard=true)(a:Act):Region.wanted go (yielded goops a.tmps)=true↔a.tmps.getD t Go.undef=.bool b:=by
 obtain⟨j,g,d⟩:∃j g,go.guard=some (j,g):=by cases d:go.guard with|none=>rw[d]at c;simp[Ef]at c|some p=>exact⟨p.1,p.2,rfl⟩
 rw[d]at c;simp only[Ef,aL,bU]at c;obtain⟨rfl,c⟩:=c
 split at c
 .rename_i i h;have f:=bU.1 c;simp only[Region.wanted,d,yielded,h,Ey,f,fM,bU];cases k:a.tmps[t]?with
  |none=>simp[Go.undef]
  |some z=>simp only[gB];cases z<;>simp
 cases c
def ag4{goops:Array Oper}{g:Option (Nat×Bool)}{go:Oper}(d:Ef goops g go.guard=true){N:aG}(j:dN β N w e a){q:Bool}(h:kU e g=some q):Region.wanted go (yielded goops a.tmps)=q:=by
 cases g with
 |none=>
  cases h;have:go.guard=none:=by cases f:go.guard with|none=>rfl|some p=>rw[f]at d;simp[Ef]at d
  simp[Region.wanted,this]
 |some p=>
  obtain⟨t,b⟩:=p;have c:=ED d a;have h:(match look e t with|some (.bool q)=>some (q==b)|some .undef=>some false|_=>none)=some q:=h
  split at h
  .rename_i k i;cases h;have:=j t _ i;generalize a.tmps.getD t Go.undef=z at this c;cases this;rw[qy,c];simp
  .rename_i i;cases h;have:=j t _ i;generalize a.tmps.getD t Go.undef=z at this c;cases this;rw[qy,c];simp[Go.undef]
  cases h
def NX(b:bL)(P:Program)(goops:Array Oper)(go:Oper)(a:Act)(w:World)(next:Act->World->Prop)(Q:Exit->Act->World->Prop):Prop:=
 if Region.wanted go (yielded goops a.tmps)then go.wpIn (FW b) 0 P a w next Q else(∀f,go.about P w a.eval=some f->(FW b).fn f)/\next (a.put go.dst Go.undef) w
def pc{ih:Task->Out}(D:hU C P ih)(X:bL){goops:Array Oper}{o:aR}{go:Oper}(L:ba P o.op go.op=true)(N:Ef goops o.g go.guard=true)(B:bW M C β s w)(O:jG C (Live M s β) w)(E:dN β (Live M s β) w e a)
  {v:HV}{s':HS}(h:lH ih o e s=some (v,s')){next:Act->World->Prop}{Q:Exit->Act->World->Prop}(fin:∀b u w',bW M C b s' w'->Ext M β s w b s' w'->HR b (Live M s' b) w' v u->next (a.put go.dst u) w'):
  NX X P goops go a w next Q:=by
 unfold NX;unfold lH at h
 split at h
 .rename_i G;rw[ag4 N E G,au rfl];have y:∀f l,dA o.op e s=.call f l->dQ P f:=λf l p=>by
   rw[p]at h;simp only[]at h
   split at h
   .rename_i d;exact(D.call _ _ _ _ _ d).1
   cases h
  have q:=HD B E L y;have z:∀c,go.op≠ .defer c:=by
   refine ux L (λH=>?_) (λx H=>?_)
   .rw[H]at h;cases h
   rw[H]at h;cases h
  unfold Oper.wpIn;refine⟨λ_ _=>trivial,?_⟩;rw[Oper.semAt_eq _ _ _ z];cases p:dA o.op e s with
  |v V W=>
   rw[p]at h q;cases h;obtain⟨u,w',b,i,t,j,k⟩:=q;rcases i with i|⟨i,rfl⟩
   .rw[i];exact fin b u w' t j k
   rw[i];exact fin b _ w' t j k
  |bad=>rw[p]at h;cases h
  |call f l=>
   rw[p]at h q;simp only[]at h
   split at h
   .rename_i V W d;cases h;obtain⟨I,i,t⟩:=q;rw[i];refine⟨(λJ=>by cases J),wG (((D.call _ _ _ _ _ d).2 M β w I B O t).mono ?_)⟩;intro Y w' m;obtain⟨u,b,rfl,j,k,A⟩:=m;exact fin b u w' j k A
   cases h
  |round l args=>
   rw[p]at h q;simp only[]at h
   split at h
   .rename_i V W d;cases h;obtain⟨pl,I,i,t,j⟩:=q;obtain⟨r,k,A,Z⟩:=D.round _ _ _ _ _ d M β w pl I B O i t;rw[j r k A];refine⟨(λJ=>by cases J),EB (Z.mono ?_)⟩;intro Y w' m;obtain⟨u,b,rfl,j,k,A⟩:=m;exact fin b u w' j k A
   cases h
 .rename_i G;cases h;rw[ag4 N E G,ar (by simp)];exact⟨λ_ _=>trivial,fin β _ w B (Ext.refl _ _ _) .undef⟩
 cases h
structure Gh(M:aG)(C:eR)(keep outs:az)(ro:bL)(β0:Bt)(s0:HS)(e0:En)(a0:Act)(w0:World)(β:Bt)(s:HS)(e:En)(a:Act)(w:World):Prop where
 rel:bW M C β s w
 fix:jG C (Live M s β) w
 env:dN β (Live M s β) w e a
 ext:Ext M β0 s0 w0 β s w
 size:a.tmps.size=a0.tmps.size
 defers:a.defers=a0.defers
 same:∀t,t∈keep->outs.contains t=false->a.tmps.getD t Go.undef=a0.tmps.getD t Go.undef
 Py:∀t,(look e0 t).isSome=true->(look e t).isSome=true
def wH{keep outs:az}{d:bL}(c:Lm keep outs d=true){u:Value}{t:Nat}(f:t∈keep)(g:outs.contains t=false):(a.put d u).tmps.getD t Go.undef=a.tmps.getD t Go.undef:=by
 cases d with
 |none=>rfl
 |some d=>
  have b:d≠t:=by
   rintro rfl
   simp only[Lm,g,wq,pf,Pz,zV]at c;exact c f
  simp[Act.put,fM,oS b]
def dN.put{N:aG}(f:dN β N w e a){d:bL}{nt:Nat}(h:T5 nt d=true)(i:a.tmps.size=nt){v:HV}{u:Value}(j:HR β N w v u):dN β N w (e.put d v) (a.put d u):=by
 intro t g b;rw[oL]at b;cases d with
 |none=>simp at b;exact f t g b
 |some d=>
  simp only[T5,bY]at h;by_cases c:d=t
  .subst c;rw[au rfl]at b;cases b;have:d<a.tmps.size:=by omega
   simp[Act.put,fM,this];exact j
  rw[ar (by simpa using c)]at b;have:=f t g b;simpa[Act.put,fM,oS c]using this
def pg(d:bL)(u:Value):(a.put d u).defers=a.defers:=by cases d<;>rfl
def tc(d:bL)(u:Value):(a.put d u).tmps.size=a.tmps.size:=by cases d<;>simp[Act.put]
def Gh.step{keep outs:az}{c:bL}{β0:Bt}{s0:HS}{e0:En}{a0:Act}{w0:World}(h:Gh M C keep outs c β0 s0 e0 a0 w0 β s e a w){nt:Nat}(b:a0.tmps.size=nt){d:bL}(f:T5 nt d=true)(hk:Lm keep outs d=true)
  {β':Bt}{s':HS}{w':World}{v:HV}{u:Value}(g:bW M C β' s' w')(hx:Ext M β s w β' s' w')(hv:HR β' (Live M s' β') w' v u):Gh M C keep outs c β0 s0 e0 a0 w0 β' s' (e.put d v) (a.put d u) w' where
 rel:=g
 fix:=h.fix.ext hx
 env:=(h.env.ext hx).put f (h.size.trans b) hv
 ext:=h.ext.trans hx
 size:=(tc _ _).trans h.size
 defers:=(pg _ _).trans h.defers
 same:=λt ht ho=>(wH hk ht ho).trans (h.same t ht ho)
 Py:=λt ht=>by
  rw[oL];split
  .rfl
  exact h.Py t ht
def HG{ih:Task->Out}(y:hU C P ih)(j:bL){goops:Array Oper}{nt:Nat}{keep outs:az}{β0:Bt}{s0:HS}{e0:En}{a0:Act}{w0:World}(k:a0.tmps.size=nt){K:En->HS->Out}{x:Ex}{r:En}{s2:HS}{Q:Exit->Act->World->Prop}
  (fin:∀β e a s w,K e s=.code x r s2->Gh M C keep outs j β0 s0 e0 a0 w0 β s e a w->Q .normal a w):
  ∀(l:List aR) (i:Nat) (β:Bt) (s:HS) (e:En) (a:Act) (w:World),rK P nt keep outs goops l (goops.toList.drop i)=true->mq ih K l e s=.code x r s2->Gh M C keep outs j β0 s0 e0 a0 w0 β s e a w->
   wpOpsIn (FW j) 0 P goops Q (List.range' i l.length) a w:=by
 intro l
 induction l with
 |nil=>intro i β s e a w _ h b;exact fin β e a s w h b
 |cons o l m=>
  intro i β s e a w d h b;have f:i<goops.toList.length:=by
   rcases jF i goops.toList.length with h|h
   .exact h
   rw[EE h]at d;simp[rK]at d
  rw[uv f]at d;simp only[rK,aL]at d;obtain⟨c,p⟩:=d;have g:goops[i]?=some goops.toList[i]:=by rw[<-Array.getElem?_toList];exact aX f
  generalize goops.toList[i]=go at c g;simp only[zj,aL,bU]at c;obtain⟨⟨⟨⟨z,q⟩,A⟩,dA⟩,B⟩:=c;obtain⟨v,s',D,t⟩:=wF (K:=mq ih K l) h;rw[List.length_cons,List.range'_succ];simp only[wpOpsIn,g];refine pc y j (goops:=goops) dA B b.rel b.fix b.env D (Q:=Q) λE u G H I J=>?_
  rw[z]at t;exact m (i+1) E s' _ _ G p t (b.step k q A H I J)
def EF:∀(outs:az) (e' e:En) (t:Nat),look (ic outs e' e) t=if outs.contains t=true/\(look e' t).isSome=true then look e' t else look e t:=by
 intro outs e'
 induction outs with
 |nil=>intro e t;simp[ic]
 |cons n r ih=>
  intro e t;have:ic (n::r) e' e=ic r e' (bR (look e' n) (λv=>e.oE n v) e):=rfl;rw[this,ih];by_cases b:r.contains t=true/\(look e' t).isSome=true
  .rw[au b,au ⟨by simp only[PA,b.1,Bool.or_true],b.2⟩]
  rw[ar b];by_cases c:n=t
  .subst c;cases d:look e' n with|none=>simp[bR]|some v=>simp[bR,rG]
  have f:((n::r).contains t=true/\(look e' t).isSome=true)↔(r.contains t=true/\(look e' t).isSome=true):=by
   have:(t==n)=false:=by simpa using λh=>c h.symm
   simp only[PA,this,wq]
  rw[ar (λh=>b (f.1 h))];cases d:look e' n with|none=>rfl|some v=>simp only[bR];rw[rG,ar (λh=>c h.symm)]
def Gh.done{keep outs:az}{f:bL}{β0:Bt}{s0:HS}{e0:En}{a0:Act}{w0:World}(h:Gh M C keep outs f β0 s0 e0 a0 w0 β s e a w){nt lo:Nat}(h0:At M C nt keep f lo β0 s0 e0 a0 w0)(b:Ht outs keep=true):At M C nt keep f lo β s (ic outs e e0) a w where
 rel:=h.rel
 env:=λt v ht=>by
  rw[EF]at ht
  split at ht
  .rename_i hc;refine⟨?_,h.env t v ht⟩;simp only[Ht,fG]at b;have:=b t (by simpa using hc.1);simpa using this
  rename_i hc;obtain⟨d,g⟩:=h0.env t v ht;refine⟨d,?_⟩;have hs:=h.Py t (by rw[ht];rfl);have c:outs.contains t=false:=by cases ho:outs.contains t with|false=>rfl|true=>exact absurd ⟨ho,hs⟩ hc
  rw[h.same t d c];exact g.ext h.ext
 size:=h.size.trans h0.size
 marks:=by rw[h.defers];exact h0.marks.ext h.ext
 lo_le:=fu h0.lo_le h.ext.keeps.size
 fix:=h.fix
 HE:=λl hl=>let⟨r,d⟩:=h0.HE l hl;h.ext.loops l r d
def Gh.start{keep outs:az}{b:bL}{c:Nat}{nt:Nat}(h:At M C nt keep b c β s e a w):Gh M C keep outs b β s e a w β s e a w:=
 ⟨h.rel,h.fix,λt v d=>(h.env t v d).2,Ext.refl _ _ _,rfl,rfl,λ_ _ _=>rfl,λ_ h=>h⟩
def I4{ih:Task->Out}(i:hU C P ih){goops:Array Oper}{nt:Nat}{keep outs:az}{l:List aR}{id:Nat}(g:rK P nt keep outs goops l goops.toList=true)(c:Ht outs keep=true){x:Ex}{e':En}{s':HS}
  (h:mq ih (λe' s'=>.code .normal (ic outs e' e) s') l e s=.code x e' s'):mD C P nt keep (.region id goops false) e s x e' s':=by
 intro M j q β a w b;have hlen:∀(l:List aR) (m:List Oper),rK P nt keep outs goops l m=true->l.length=m.length:=by
  intro l
  induction l with
  |nil=>intro m d;cases m with|nil=>rfl|cons=>simp[rK]at d
  |cons o l ih=>intro m d;cases m with|nil=>simp[rK]at d|cons y m=>simp only[rK,aL]at d;simp[ih m d.2]
 refine wpIn_region ?_;rw[List.range_eq_range',show goops.size=l.length by rw[hlen _ _ g];simp];refine HG i j (keep:=keep) (outs:=outs) b.size (λk r t u v p f=>?_) l 0 β s e a w g h (Gh.start b);cases p;exact⟨rfl,k,f.done b c,f.ext⟩
end sound
def jf:X->az
 |.t n=>[n]
 |.k _=>[]
def zo:List X->az
 |[]=>[]
 |x::r=>jf x++zo r
def HH:Option X->az
 |none=>[]
 |some x=>jf x
def HI:List Pc->az
 |[]=>[]
 |.z _::r=>HI r
 |.x o _::r=>jf o++HI r
def PB:lL->az
 |.mv x=>jf x
 |.pick c a b=>jf c++jf a++jf b
 |.alloc _=>[]
 |.alb _ _=>[]
 |.box x=>jf x
 |.fbx x=>jf x
 |.build h=>HI h
 |.bsl _ d=>zo d
 |.fbl _ d=>zo d
 |.ld x _=>jf x
 |.st _ a x=>jf a++jf x
 |.fa x _=>jf x
 |.ia x i _=>jf x++jf i
 |.idx x i=>jf x++jf i
 |.len _ x=>jf x
 |.bin _ _ x y=>jf x++jf y
 |.un _ x=>jf x
 |.mkf _ j o=>zo j++zo o
 |.ext x _=>jf x
 |.cnv _ x=>jf x
 |.nck x=>jf x
 |.mm _ x y=>jf x++jf y
 |.app _ _ _ x y=>jf x++jf y
 |.mks _ _ _ l c=>jf l++jf c
 |.mkm=>[]
 |.lkp _ m k _ _=>jf m++jf k
 |.mup _ m k v=>jf m++jf k++jf v
 |.eqs _ _ x y=>jf x++jf y
 |.niq _ _ x=>jf x
 |.slc x f g p _=>jf x++HH f++HH g++HH p
 |.sls x f g=>jf x++HH f++HH g
 |.call _ d=>zo d
 |.dyn x d=>jf x++zo d
 |.cis x=>jf x
 |.men _ m k _=>jf m++jf k
 |.mes m i v=>jf m++jf i++jf v
 |.aps _ _ x y=>jf x++jf y
 |.cpy _ x y=>jf x++jf y
 |.cap x=>jf x
 |.bad=>[]
section congr
variable{e e':En}
def aK{x:X}(h:∀t∈jf x,look e t=look e' t):bw x e=bw x e':=by cases x with|t n=>exact h n (by simp[jf])|k v=>rfl
def jr{l:List X}(h:∀t∈zo l,look e t=look e' t):gx l e=gx l e':=by induction l with|nil=>rfl|cons x r ih=>rw[pZ,pZ,aK λt b=>h t (by simp[zo,b]),ih λt b=>h t (by simp[zo,b])]
def nE{d:Nat}{x:Option X}(h:∀t∈HH x,look e t=look e' t):fw e d x=fw e' d x:=by cases x with|none=>rfl|some x=>simp only[fw];rw[aK h]
def AZ{l:List Pc}(h:∀t∈HI l,look e t=look e' t):eJ e l=eJ e' l:=by
 induction l with
 |nil=>rfl
 |cons x r ih=>cases x with|z l=>simp only[eJ];rw[ih h]|x o n=>simp only[eJ];rw[aK λt b=>h t (by simp[HI,b]),ih λt b=>h t (by simp[HI,b])]
def HJ{op:lL}(h:∀t∈PB op,look e t=look e' t)(s:HS):dA op e s=dA op e' s:=by
 cases op<;>simp only[PB,l5,or_imp,forall_and]at h
 case mv=>show TZ _ e s=TZ _ e' s;unfold TZ;rw[aK h]
 case pick=>show lM _ _ _ e s=lM _ _ _ e' s;unfold lM;rw[aK h.1.1,aK h.1.2,aK h.2]
 case alloc=>rfl
 case alb=>rfl
 case box=>show Hb _ e s=Hb _ e' s;unfold Hb;rw[aK h]
 case fbx=>show uT _ e s=uT _ e' s;unfold uT;rw[aK h]
 case build=>show mb _ e s=mb _ e' s;unfold mb;rw[AZ h]
 case bsl=>show Hc _ _ e s=Hc _ _ e' s;unfold Hc;rw[jr h]
 case fbl=>show uU _ _ e s=uU _ _ e' s;unfold uU;rw[jr h]
 case ld=>show NR _ _ e s=NR _ _ e' s;unfold NR;rw[aK h]
 case st=>show T0 _ _ _ e s=T0 _ _ _ e' s;unfold T0;rw[aK h.1,aK h.2]
 case fa=>show Is _ _ e s=Is _ _ e' s;unfold Is;rw[aK h]
 case ia=>show Ck _ _ _ e s=Ck _ _ _ e' s;unfold Ck;rw[aK h.1,aK h.2]
 case idx=>show hIdx _ _ e s=hIdx _ _ e' s;unfold hIdx;rw[aK h.1,aK h.2]
 case len=>show Cr _ _ e s=Cr _ _ e' s;unfold Cr;rw[aK h]
 case bin=>show uV _ _ _ _ e s=uV _ _ _ _ e' s;unfold uV;rw[aK h.1,aK h.2]
 case un=>show T2 _ _ e s=T2 _ _ e' s;unfold T2;rw[aK h]
 case mkf=>show uW _ _ _ e s=uW _ _ _ e' s;unfold uW;rw[jr h.1,jr h.2]
 case ext=>show uX _ _ e s=uX _ _ e' s;unfold uX;rw[aK h]
 case cnv=>show uY _ _ e s=uY _ _ e' s;unfold uY;rw[aK h]
 case nck=>show uZ _ e s=uZ _ e' s;unfold uZ;rw[aK h]
 case mm=>show T3 _ _ _ e s=T3 _ _ _ e' s;unfold T3;rw[aK h.1,aK h.2]
 case app=>show Hd _ _ _ _ _ e s=Hd _ _ _ _ _ e' s;unfold Hd;rw[aK h.1,aK h.2]
 case mks=>show He _ _ _ _ _ e s=He _ _ _ _ _ e' s;unfold He;rw[aK h.1,aK h.2]
 case mkm=>rfl
 case lkp=>show Cs _ _ _ _ _ e s=Cs _ _ _ _ _ e' s;unfold Cs;rw[aK h.1,aK h.2]
 case mup=>show Hf _ _ _ _ e s=Hf _ _ _ _ e' s;unfold Hf;rw[aK h.1.1,aK h.1.2,aK h.2]
 case eqs=>show Hg _ _ _ _ e s=Hg _ _ _ _ e' s;unfold Hg;rw[aK h.1,aK h.2]
 case niq=>show u9 _ _ _ e s=u9 _ _ _ e' s;unfold u9;rw[aK h]
 case slc=>show Ct _ _ _ _ _ e s=Ct _ _ _ _ _ e' s;unfold Ct;simp only[aK h.1.1.1,nE h.1.1.2,nE h.1.2]
 case sls=>show Cu _ _ _ e s=Cu _ _ _ e' s;unfold Cu;simp only[aK h.1.1,nE h.1.2,nE h.2]
 case call=>show zG _ _ e s=zG _ _ e' s;unfold zG;rw[jr h]
 case dyn=>show Ec _ _ e s=Ec _ _ e' s;unfold Ec;rw[aK h.1,jr h.2]
 case cis=>show Cv _ e s=Cv _ e' s;unfold Cv;rw[aK h]
 case men=>show Hj _ _ _ _ e s=Hj _ _ _ _ e' s;unfold Hj;rw[aK h.1,aK h.2]
 case mes=>show Hk _ _ _ e s=Hk _ _ _ e' s;unfold Hk;rw[aK h.1.1,aK h.1.2,aK h.2]
 case aps=>show Hi _ _ _ _ e s=Hi _ _ _ _ e' s;unfold Hi;rw[aK h.1,aK h.2]
 case cpy=>show Hl _ _ _ e s=Hl _ _ _ e' s;unfold Hl;rw[aK h.1,aK h.2]
 case cap=>rfl
 case bad=>rfl
end congr
def ZH(o:aR):az:=PB o.op++(match o.g with|some p=>[p.1]|none=>[])
def CS{e e':En}{g:Option (Nat×Bool)}(h:∀t∈(match g with|some p=>[p.1]|none=>([]:az)),look e t=look e' t):kU e g=kU e' g:=by
 cases g with
 |none=>rfl
 |some p=>obtain⟨t,b⟩:=p;show(match look e t with|some (.bool q)=>some (q==b)|some .undef=>some false|_=>none)=(match look e' t with|some (.bool q)=>some (q==b)|some .undef=>some false|_=>none);rw[h t (by simp)]
def wI{ih:Task->Out}{o:aR}{e e':En}(h:∀t∈ZH o,look e t=look e' t)(s:HS):lH ih o e s=lH ih o e' s:=by unfold lH;rw[CS λt b=>h t (A0 _ b),HJ (λt b=>h t (ph _ b)) s]
def ZI:lL->Bool
 |.mv _|.pick .. |.fa .. |.ia .. |.idx .. |.bin .. |.un .. |.ext .. |.cnv .. |.nck _|.mkf .. |.build _|.slc .. |.sls .. |.mm .. |.eqs .. |.niq .. |.cis _|.fbx _|.fbl .. =>true
 |_=>false
def ZJ:lL->Bool
 |.ld .. |.len .. |.lkp .. =>true
 |_=>false
def PC:lL->Bool
 |.alloc _=>true
 |.bsl _ []=>true
 |_=>false
def Gi(op:lL)(e:En):Prop:=(∃v,∀s,dA op e s=.v v s)∨∀s,dA op e s=.bad
def lh{op:lL}{e:En}(r:bS)(h:∀s,dA op e s=rv s r):Gi op e:=by cases r with|none=>exact .inr h|some v=>exact .inl ⟨v,h⟩
def NY{op:lL}(h:ZI op=true)(e:En):Gi op e:=by
 cases op<;>first|(cases h;done)|skip
 all_goals clear h
 case mv x=>exact lh (bw x e) λ_=>rfl
 case pick c a b=>
  cases E:bw c e with
  |none=>exact .inr λs=>by show lM c a b e s=_;unfold lM;rw[E]<;>rfl
  |some v=>
   cases v<;>first
    |(refine .inr λs=>?_;show lM c a b e s=_;unfold lM;rw[E]<;>rfl)
    |skip
   rename_i q;cases q with|true=>exact lh (bw a e) λs=>by show lM c a b e s=_;unfold lM;rw[E]<;>rfl|false=>exact lh (bw b e) λs=>by show lM c a b e s=_;unfold lM;rw[E]<;>rfl
 case fbx x=>
  cases d:bw x e with
  |none=>exact .inr λs=>by show uT x e s=_;unfold uT;rw[d]<;>rfl
  |some v=>cases L:cellsOf v with|none=>exact .inr λs=>by show uT x e s=_;unfold uT;rw[d];simp only[bR];rw[L]|some l=>exact .inl ⟨.aw l,λs=>by show uT x e s=_;unfold uT;rw[d];simp only[bR];rw[L]⟩
 case build Z=>cases d:eJ e Z with|none=>exact .inr λs=>by show mb Z e s=_;unfold mb;rw[d]<;>rfl|some l=>exact .inl ⟨_,λs=>by show mb Z e s=_;unfold mb;rw[d]<;>rfl⟩
 case fbl j V=>
  cases d:gx V e with
  |none=>exact .inr λs=>by show uU j V e s=_;unfold uU;rw[d]<;>rfl
  |some l=>cases L:jC j l with|none=>exact .inr λs=>by show uU j V e s=_;unfold uU;rw[d];simp only[bR];rw[L]|some m=>exact .inl ⟨_,λs=>by show uU j V e s=_;unfold uU;rw[d];simp only[bR];rw[L]⟩
 case fa x p=>
  cases d:bw x e with
  |none=>exact .inr λs=>by show Is x p e s=_;unfold Is;rw[d]<;>rfl
  |some v=>
   have gen:(∀o k,v≠ .ptr o k)->Gi (.fa x p) e:=λJ=>lh (faP v p) λs=>by show Is x p e s=_;unfold Is;rw[d];cases v<;>first|rfl|exact absurd rfl (J _ _)
   cases v<;>first|(refine gen λ_ _ h=>?_;cases h;done)|skip
   rename_i o k;exact .inl ⟨.ptr o (Nat.add k p),λs=>by show Is x p e s=_;unfold Is;rw[d]<;>rfl⟩
 case ia x i j=>
  cases d:bw x e with
  |none=>exact .inr λs=>by show Ck x i j e s=_;unfold Ck;rw[d]<;>rfl
  |some v=>
   have gen:(∀o p len G,v≠ .sl o p len G)->Gi (.ia x i j) e:=λJ=>lh (T1 v (bw i e) j) λs=>by show Ck x i j e s=_;unfold Ck;rw[d];cases v<;>first|rfl|exact absurd rfl (J _ _ _ _)
   cases v<;>first|(refine gen λ_ _ _ _ h=>?_;cases h;done)|skip
   rename_i o p len G;cases r:bw i e with
   |none=>exact .inr λs=>by show Ck x i j e s=_;unfold Ck;rw[d,r]<;>rfl
   |some q=>
    cases q<;>first|(refine .inr λs=>?_;show Ck x i j e s=_;unfold Ck;rw[d,r]<;>rfl)|skip
    rename_i k z;cases z with
    |negSucc n=>exact .inr λs=>by show Ck x i j e s=_;unfold Ck;rw[d,r]<;>rfl
    |ofNat n=>
     have key:∀s,dA (.ia x i j) e s=gW (Nat.blt n len) (gW (Nat.beq j G) (.v (.ptr o (Nat.add p (Nat.mul n j))) s) .bad) .bad:=λs=>by show Ck x i j e s=_;unfold Ck;rw[d,r]<;>rfl
     cases t:Nat.blt n len with
     |false=>exact .inr λs=>by rw[key,t]<;>rfl
     |true=>cases A:Nat.beq j G with|false=>exact .inr λs=>by rw[key,t,A]<;>rfl|true=>exact .inl ⟨_,λs=>by rw[key,t,A]<;>rfl⟩
 case idx x i=>
  cases d:bw x e with
  |none=>exact .inr λs=>by show hIdx x i e s=_;unfold hIdx;rw[d]<;>rfl
  |some v=>
   cases v<;>first|(refine .inr λs=>?_;show hIdx x i e s=_;unfold hIdx;rw[d]<;>rfl)|skip
   rename_i l;cases r:bw i e with
   |none=>exact .inr λs=>by show hIdx x i e s=_;unfold hIdx;rw[d,r]<;>rfl
   |some q=>
    cases q<;>first|(refine .inr λs=>?_;show hIdx x i e s=_;unfold hIdx;rw[d,r]<;>rfl)|skip
    rename_i k z;cases z with
    |negSucc n=>exact .inr λs=>by show hIdx x i e s=_;unfold hIdx;rw[d,r]<;>rfl
    |ofNat n=>
     have key:∀s,dA (.idx x i) e s=bR (zE l n) (λb=>.v (.int .u8 (.ofNat b)) s) .bad:=λs=>by show hIdx x i e s=_;unfold hIdx;rw[d,r]<;>rfl
     cases t:zE l n with|none=>exact .inr λs=>by rw[key,t]<;>rfl|some b=>exact .inl ⟨_,λs=>by rw[key,t]<;>rfl⟩
 case bin W op x y=>
  cases d:bw x e with
  |none=>exact .inr λs=>by show uV W op x y e s=_;unfold uV;rw[d]<;>rfl
  |some v=>cases H:bw y e with|none=>exact .inr λs=>by show uV W op x y e s=_;unfold uV;rw[d,H]<;>rfl|some u=>exact lh (Ha W op v u) λs=>by show uV W op x y e s=_;unfold uV;rw[d,H]<;>rfl
 case un op x=>
  have key:∀s,dA (.un op x) e s=(match(generalizing:=false) bw x e with
   |some (.bool b)=>(match(generalizing:=false) op with|.not=>.v (.bool (!b)) s|_=>.bad)
   |some (.int k n)=>(match(generalizing:=false) op with|.neg=>.v (.int k (bT k (0-n))) s|_=>.bad)
   |_=>.bad):=λs=>rfl
  cases d:bw x e with
  |none=>exact .inr λs=>by rw[key,d]<;>rfl
  |some v=>
   cases v with
   |int k n=>
    by_cases N:op=.neg
    .subst N;exact .inl ⟨.int k (bT k (0-n)),λs=>by rw[key,d]<;>rfl⟩
    refine .inr λs=>?_
    rw[key,d];cases op<;>first|rfl|exact absurd rfl N
   |bool b=>
    by_cases N:op=.not
    .subst N;exact .inl ⟨.bool (!b),λs=>by rw[key,d]<;>rfl⟩
    refine .inr λs=>?_
    rw[key,d];cases op<;>first|rfl|exact absurd rfl N
   |_=>exact .inr λs=>by rw[key,d]<;>rfl
 case mkf g X Y=>
  cases d:gx X e with
  |none=>exact .inr λs=>by show uW g X Y e s=_;unfold uW;rw[d]<;>rfl
  |some v=>cases H:gx Y e with|none=>exact .inr λs=>by show uW g X Y e s=_;unfold uW;rw[d,H]<;>rfl|some u=>exact .inl ⟨_,λs=>by show uW g X Y e s=_;unfold uW;rw[d,H]<;>rfl⟩
 case ext x i=>
  cases d:bw x e with
  |none=>exact .inr λs=>by show uX x i e s=_;unfold uX;rw[d]<;>rfl
  |some v=>
   cases v<;>first|(refine .inr λs=>?_;show uX x i e s=_;unfold uX;rw[d]<;>rfl)|skip
   rename_i l;exact lh (zE l i) λs=>by show uX x i e s=_;unfold uX;rw[d]<;>rfl
 case cnv k x=>
  cases d:bw x e with
  |none=>exact .inr λs=>by show uY k x e s=_;unfold uY;rw[d]<;>rfl
  |some v=>cases v<;>first|(refine .inr λs=>?_;show uY k x e s=_;unfold uY;rw[d]<;>rfl)|(exact .inl ⟨_,λs=>by show uY k x e s=_;unfold uY;rw[d]<;>rfl⟩)
 case nck x=>
  cases d:bw x e with
  |none=>exact .inr λs=>by show uZ x e s=_;unfold uZ;rw[d]<;>rfl
  |some v=>cases v<;>first|(refine .inr λs=>?_;show uZ x e s=_;unfold uZ;rw[d]<;>rfl)|(exact .inl ⟨_,λs=>by show uZ x e s=_;unfold uZ;rw[d]<;>rfl⟩)
 case mm m x y=>
  have key:∀s,dA (.mm m x y) e s=(match bw x e,bw y e with|some (.int k a),some (.int _ b)=>.v (.int k (bif m then(bif j9 a b then b else a)else(bif j9 a b then a else b))) s|_,_=>.bad):=λs=>rfl
  cases d:bw x e with
  |none=>exact .inr λs=>by rw[key,d]<;>rfl
  |some v=>
   cases H:bw y e with
   |none=>exact .inr λs=>by rw[key,d,H];cases v<;>rfl
   |some u=>cases v<;>first|(refine .inr λs=>?_;rw[key,d];done)|(cases u<;>first|(refine .inr λs=>?_;rw[key,d,H];done)|(exact .inl ⟨_,λs=>by rw[key,d,H]<;>rfl⟩))
 case eqs K neg x y=>
  have key:∀s,dA (.eqs K neg x y) e s=(match bw x e,bw y e with|some a,some b=>(match pW K a b with|some q=>.v (.bool (q != neg)) s|none=>.bad)|_,_=>.bad):=λs=>rfl
  cases d:bw x e with
  |none=>exact .inr λs=>by rw[key,d]<;>rfl
  |some v=>
   cases H:bw y e with
   |none=>exact .inr λs=>by rw[key,d,H]<;>rfl
   |some u=>cases O:pW K v u with|none=>exact .inr λs=>by rw[key,d,H];simp only[O]|some q=>exact .inl ⟨.bool (q != neg),λs=>by rw[key,d,H];simp only[O]⟩
 case niq k neg x=>
  cases d:bw x e with
  |none=>exact .inr λs=>by show u9 k neg x e s=_;unfold u9;rw[d]<;>rfl
  |some v=>cases O:nY k v with|none=>exact .inr λs=>by show u9 k neg x e s=_;unfold u9;rw[d];simp only[bR];rw[O]|some q=>exact .inl ⟨_,λs=>by show u9 k neg x e s=_;unfold u9;rw[d];simp only[bR];rw[O]⟩
 case slc x B r I j=>
  have key:∀s,dA (.slc x B r I j) e s=Ct x B r I j e s:=λ_=>rfl
  unfold Ct at key;cases d:bw x e with
  |none=>exact .inr λs=>by rw[key,d]<;>rfl
  |some v=>
   cases v with
   |ah=>
    have f:∀s,dA (.slc x B r I j) e s=(match(generalizing:=false) fw e 0 B,fw e 0 r,I with|some 0,some 0,none=>.v .ah s|_,_,_=>.bad):=λs=>by rw[key,d]<;>rfl
    by_cases E:fw e 0 B=some 0/\fw e 0 r=some 0/\I=none
    .obtain⟨a1,a2,rfl⟩:=E;exact .inl ⟨.ah,λs=>by rw[f,a1,a2]<;>rfl⟩
    refine .inr λs=>?_
    rw[f]
    split
    .rename_i a1 a2;exact absurd ⟨a1,a2,rfl⟩ E
    rfl
   |sl o p len G=>
    have f:∀s,dA (.slc x B r I j) e s=(match(generalizing:=false) fw e 0 B,fw e len r,I with
     |some a,some b,none=>bif Nat.ble a b&&Nat.ble b len&&Nat.beq j G then .v (.sl o (p+a*j) (b-a) j) s else .bad
     |_,_,_=>.bad):=λs=>by rw[key,d]<;>rfl
    cases t:fw e 0 B with
    |none=>exact .inr λs=>by rw[f,t]<;>rfl
    |some a=>
     cases A:fw e len r with
     |none=>exact .inr λs=>by rw[f,t,A]<;>rfl
     |some b=>
      cases I with
      |some m=>exact .inr λs=>by rw[f,t,A]<;>rfl
      |none=>cases E:(Nat.ble a b&&Nat.ble b len&&Nat.beq j G)with|true=>exact .inl ⟨.sl o (p+a*j) (b-a) j,λs=>by rw[f,t,A];simp only[E,cond_true]⟩|false=>exact .inr λs=>by rw[f,t,A];simp only[E,cond_false]
   |psl D=>
    have f:∀s,dA (.slc x B r I j) e s=(match(generalizing:=false) fw e 0 B,fw e (aM D) r,I with
     |some a,some b,none=>bif Nat.ble a b&&Nat.ble b (aM D)&&dk j D then .v (.psl (gX (b-a) (iL a D))) s else .bad
     |_,_,_=>.bad):=λs=>by rw[key,d]<;>rfl
    cases t:fw e 0 B with
    |none=>exact .inr λs=>by rw[f,t]<;>rfl
    |some a=>
     cases A:fw e (aM D) r with
     |none=>exact .inr λs=>by rw[f,t,A]<;>rfl
     |some b=>
      cases I with
      |some m=>exact .inr λs=>by rw[f,t,A]<;>rfl
      |none=>cases E:(Nat.ble a b&&Nat.ble b (aM D)&&dk j D)with|true=>exact .inl ⟨.psl (gX (b-a) (iL a D)),λs=>by rw[f,t,A];simp only[E,cond_true]⟩|false=>exact .inr λs=>by rw[f,t,A];simp only[E,cond_false]
   |_=>exact .inr λs=>by rw[key,d]<;>rfl
 case sls x B r=>
  have key:∀s,dA (.sls x B r) e s=Cu x B r e s:=λ_=>rfl
  unfold Cu at key;cases d:bw x e with
  |none=>exact .inr λs=>by rw[key,d]<;>rfl
  |some v=>
   cases v with
   |str l=>
    have f:∀s,dA (.sls x B r) e s=(match(generalizing:=false) fw e 0 B,fw e (aM l) r with
     |some a,some b=>bif Nat.ble a b&&Nat.ble b (aM l)then .v (.str (mw l a b)) s else .bad
     |_,_=>.bad):=λs=>by rw[key,d]<;>rfl
    cases t:fw e 0 B with
    |none=>exact .inr λs=>by rw[f,t]<;>rfl
    |some a=>
     cases A:fw e (aM l) r with
     |none=>exact .inr λs=>by rw[f,t,A]<;>rfl
     |some b=>cases E:(Nat.ble a b&&Nat.ble b (aM l))with|true=>exact .inl ⟨.str (mw l a b),λs=>by rw[f,t,A];simp only[E,cond_true]⟩|false=>exact .inr λs=>by rw[f,t,A];simp only[E,cond_false]
   |_=>exact .inr λs=>by rw[key,d]<;>rfl
 case cis x=>
  have key:∀s,dA (.cis x) e s=Cv x e s:=λ_=>rfl
  unfold Cv at key;cases d:bw x e with
  |none=>exact .inr λs=>by rw[key,d]<;>rfl
  |some v=>
   cases v with
   |int k z=>
    cases z with
    |negSucc n=>exact .inr λs=>by rw[key,d]<;>rfl
    |ofNat n=>
     have f:∀s,dA (.cis x) e s=bif Nat.blt n 128 then .v (.str [n]) s else bif Nat.blt n 2048 then .v (.str [192+n/64,128+n%64]) s else .bad:=λs=>by rw[key,d]<;>rfl
     cases t:Nat.blt n 128 with
     |true=>exact .inl ⟨.str [n],λs=>by rw[f,t,cond_true]<;>rfl⟩
     |false=>cases A:Nat.blt n 2048 with|true=>exact .inl ⟨.str [192+n/64,128+n%64],λs=>by rw[f,t,A,cond_false,cond_true]<;>rfl⟩|false=>exact .inr λs=>by rw[f,t,A,cond_false,cond_false]<;>rfl
   |_=>exact .inr λs=>by rw[key,d]<;>rfl
def pj(s:HS)(r:cX):Prop:=(∃v,r=.v v s)∨r=.bad
def pj.v{s:HS}(v:HV):pj s (.v v s):=.inl ⟨v,rfl⟩
def pj.bad{s:HS}:pj s .bad:=.inr rfl
def pj.rv{s:HS}(o:bS):pj s (rv s o):=by cases o with|none=>exact .bad|some v=>exact .v v
def pj.bif{s:HS}(q:Bool){r b:cX}(h:pj s r)(c:pj s b):pj s (bif q then r else b):=by cases q<;>assumption
def NZ{op:lL}(h:ZJ op=true)(e:En)(s:HS):pj s (dA op e s):=by
 cases op<;>first|(cases h;done)|skip
 case ld x n=>show pj s (NR x n e s);unfold NR;cases bw x e with|none=>exact .bad|some v=>show pj s (v.kS (λo k=>Hm.rv s (s.load o k n)) (Hm.rv s (my v n)));rw[CC];exact .rv _
 case len k x=>
  show pj s (Cr k x e s);unfold Cr;cases bw x e with
  |none=>exact .bad
  |some v=>simp only[bR];cases Lj k s v with|none=>exact .bad|some n=>exact .v _
 case lkp K m k z ok=>
  show pj s (Cs K m k z ok e s);unfold Cs;cases bw m e with
  |none=>exact .bad
  |some v=>
   cases bw k e with
   |none=>cases v<;>exact .bad
   |some u=>
    cases v<;>simp only[]<;>first|(exact .bad)|skip
    .exact .bif _ (.v _) .bad
    rename_i o;refine .bif _ ?_ .bad;cases aj s.h o with
    |none=>exact .bad
    |some ob=>
     cases ob with
     |mp es=>
      simp only[];cases dZ K es u 0 with
      |none=>exact .bad
      |some q=>obtain⟨i,q⟩:=q;cases q with|none=>exact .v _|some q=>exact .v _
     |cells=>exact .bad
     |loop=>exact .bad
mutual
def CU:∀(x y:HV),fJ x y=true->x=y
 |.int k a,.int j b,h=>by have h:(decide (k=j)&&ni a b)=true:=h;simp only[aL,bY,rH]at h;rw[h.1,h.2]
 |.bool a,.bool b,h=>by have h:(a==b)=true:=h;rw[bU.1 h]
 |.str a,.str b,h=>by rw[(oM a b).1 h]
 |.ah,.ah,_=>rfl
 |.dE,.dE,_=>rfl
 |.gY,.gY,_=>rfl
 |.fS,.fS,_=>rfl
 |.fU,.fU,_=>rfl
 |.undef,.undef,_=>rfl
 |.ptr o k,.ptr p j,h=>by have h:(o.beq p&&Nat.beq k j)=true:=h;simp only[aL,Ky.beq_iff,bf]at h;rw[h.1,h.2]
 |.sl o a b c,.sl p d e f,h=>by have h:(o.beq p&&Nat.beq a d&&Nat.beq b e&&Nat.beq c f)=true:=h;simp only[aL,Ky.beq_iff,bf]at h;rw[h.1.1.1,h.1.1.2,h.1.2,h.2]
 |.mp o,.mp p,h=>by rw[(Ky.beq_iff o p).1 h]
 |.fn f a b,.fn g c d,h=>by have h:(Nat.beq f g&&fJ.iM a c&&fJ.iM b d)=true:=h;simp only[aL,bf]at h;rw[h.1.1,lj a c h.1.2,lj b d h.2]
 |.iK a,.iK b,h=>by rw[(Ky.beq_iff a b).1 h]
 |.agg a,.agg b,h=>by rw[lj a b h]
 |.cO a,.cO b,h=>by rw[lj a b h]
 |.aw a,.aw b,h=>by rw[lj a b h]
 |.psl a,.psl b,h=>by rw[zW a b h]
def lj:∀(x y:ai),fJ.iM x y=true->x=y
 |[],[],_=>rfl
 |x::r,y::s,h=>by have h:(fJ x y&&fJ.iM r s)=true:=h;simp only[aL]at h;rw[CU x y h.1,lj r s h.2]
def zW:∀(x y:aP),fJ.qI x y=true->x=y
 |[],[],_=>rfl
 |x::r,y::s,h=>by have h:(fJ.iM x y&&fJ.qI r s)=true:=h;simp only[aL]at h;rw[lj x y h.1,zW r s h.2]
end
def fg(o:Oper):az:=(o.after.toList.filter λe=>Region.binds .any e).map (·.on)
def uy:ep->az->az
 |[],acc=>acc
 |a::r,acc=>uy r (acc++[a.foldl (λm j=>m|||(2^j|||acc.getD j 0)) 0])
def ti:∀(l:ep) (b:az) (i:Nat),i<b.length->(uy l b).getD i 0=b.getD i 0
 |[],_,_,_=>rfl
 |a::r,b,i,c=>by rw[uy,ti r _ i (by simp;omega)];simp[List.getD,dD c]
def wJ(acc:az)(j:Nat):∀(a:az) (m:Nat),(a.foldl (λm j=>m|||(2^j|||acc.getD j 0)) m).testBit j=true->m.testBit j=true∨∃k∈a,j=k∨(acc.getD k 0).testBit j=true
 |[],m,h=>.inl h
 |k::a,m,h=>by
  rcases wJ acc j a _ h with b|⟨c,b,d⟩
  .simp only[Nat.testBit_or,n9,Nat.testBit_two_pow]at b;rcases b with b|b|b
   .exact .inl b
   .exact .inr ⟨k,by simp,.inl (by simpa using b.symm:k=j).symm⟩
   exact .inr ⟨k,by simp,.inr b⟩
  exact .inr ⟨c,by simp[b],d⟩
def wK:∀(l:ep) (acc:az) (i:Nat) (j:Nat),acc.length<=i->(∀(p:Nat) (a:az),l[p]?=some a->∀k∈a,k<acc.length+p)->((uy l acc).getD i 0).testBit j=true->
  ∃a,l[i-acc.length]?=some a/\∃k∈a,j=k∨((uy l acc).getD k 0).testBit j=true
 |[],acc,i,j,f,_,h=>by rw[uy]at h;simp[List.getD,qz f]at h
 |a::r,acc,i,j,f,g,h=>by
  rw[uy]at h ⊢;rcases qO f with q|t
  .subst q;rw[ti _ _ _ (by simp)]at h;simp only[KP,iZ (aV _),kZ,List.getElem?_cons_zero,gB]at h;rcases wJ acc j a 0 (by simpa[KP]using h)with d|⟨k,d,c⟩
   .simp at d
   refine⟨a,by simp,k,d,?_⟩;rcases c with c|c
   .exact .inl c
   have o:=g 0 a rfl k d;refine .inr ?_;rw[ti _ _ _ (by simp;omega)];simpa[KP,dD (show k<acc.length by omega)]using c
  obtain⟨u,d,k,c,v⟩:=wK r _ i j (by simp;omega) (λp b x k o=>by have:=g (p+1) b x k o;simp;omega) h;refine⟨u,?_,k,c,v⟩;rw[show i-acc.length=(i-(acc++[a.foldl (λm j=>m|||(2^j|||acc.getD j 0)) 0]).length)+1 by simp;omega];simpa using d
def mh(goops:Array Oper):az:=uy (goops.toList.map fg) []
def rW(b:az)(i j:Nat):Bool:=(b.getD i 0).testBit j
def ll(goops:Array Oper):Bool:=(List.range goops.size).all λi=>match goops[i]?with|some o=>(fg o).all λk=>k<i|none=>false
def tj{goops:Array Oper}(b:ll goops=true){D:aG}(x:∀i o,goops[i]?=some o->D i->∀k∈fg o,D k):
  ∀i o,goops[i]?=some o->(∀k∈fg o,D k)->∀j,rW (mh goops) i j=true->D j:=by
 have t:∀(p:Nat) (a:az),(goops.toList.map fg)[p]?=some a->∀k∈a,k<p:=by intro p a h k l;simp only[fV,lR,mA]at h;obtain⟨o,c,rfl⟩:=h;simp only[ll,fG,fX]at b;have:=b p (rL.1 c).1;rw[c]at this;simp only[fG,bY]at this;exact this k l
 intro i
 induction i using Nat.strongRecOn with
 |_ i ih=>
  intro o m d j y;obtain⟨a,c,k,u,q⟩:=wK (goops.toList.map fg) [] i j (fN _) (λp a h k l=>by have:=t p a h k l;simpa using this) y;simp only[List.length_nil,I5,fV,lR,mA]at c;obtain⟨z,v,rfl⟩:=c;rw[m]at v;cases v;have f:=d k u;rcases q with rfl|q
  .exact f
  have r:=t i (fg o) (by simp[m]) k u;have g:k<goops.size:=by have:=(rL.1 m).1;omega
  exact ih k r goops[k] (fW g) (x k goops[k] (fW g) f) j q
def ajZ{o:Oper}{k:Nat}:k∈fg o↔∃x∈o.after,Region.binds .any x=true/\x.on=k:=by
 unfold fg;simp only[cU,tk,Array.mem_toList_iff];constructor
 .rintro⟨x,⟨b,c⟩,d⟩;exact⟨x,b,c,d⟩
 rintro⟨x,b,c,d⟩;exact⟨x,⟨b,c⟩,d⟩
def tn{goops:Array Oper}{listed:Array Bool}(j:listed.size=goops.size){i:Nat}:i∈Region.ready .any goops listed↔∃o,goops[i]?=some o/\listed.getD i false=false/\∀k∈fg o,listed.getD k false=true:=by
 unfold Region.ready;simp only[tk,fX,aL,pf];constructor
 .rintro⟨c,d,b⟩
  refine⟨goops[i],fW c,?_,?_⟩
  .have:i<listed.size:=by omega
   simpa[fM,this]using d
  intro k l;obtain⟨x,f,g,rfl⟩:=ajZ.1 l;simp only[fW c,me,gB]at b;rw[PD]at b;have:=b x f;simpa[g]using this
 rintro⟨o,h,d,b⟩
 obtain⟨c,rfl⟩:=rL.1 h;refine⟨c,?_,?_⟩
 .have:i<listed.size:=by omega
  simpa[fM,this]using d
 simp only[h,me,gB];rw[PD];intro x f;cases g:Region.binds .any x with|false=>rfl|true=>simpa using b _ (ajZ.2 ⟨x,f,g,rfl⟩)
def kA(d:dY):Bool:=match d.k with|.a=>true|_=>false
def kE(d:dY):Bool:=match d.k with|.e=>true|_=>false
def rE(d:dY):Bool:=match d.k with|.a=>true|.e=>true|_=>false
def ea:List dY->Nat->Nat
 |_,0=>0
 |[],_+1=>0
 |d::r,p+1=>(bif rE d then 1 else 0)+ea r p
def tp:az->Bool
 |[]=>true
 |x::r=> !r.contains x&&tp r
def qP(f:Nat->dY->Bool):List dY->Nat->Bool
 |[],_=>true
 |d::r,p=>f p d&&qP f r (p+1)
def tq(f:Nat->dY->Bool):List dY->Nat->Bool
 |[],_=>false
 |d::r,p=>f p d||tq f r (p+1)
def A1(main:List dY)(f:az)(q:Nat)(d:dY):Bool:=
  (ZH d.o).all (λt=>qP (λp b=> !(b.o.d==some t)||(decide (p<q)&&rW f d.i b.i&&(!kA b||qP (λm c=> !(decide (m<=p)&&rE c)||rW f d.i c.i) main 0))) main 0)&&
  (match d.k with
   |.r=>ZI d.o.op
   |.l h j=>ZJ d.o.op&&d.o.d.isSome&&(h==0||tq (λp b=>kE b&&rW f d.i b.i&&decide (h<=ea main (p+1))) main 0)&&
       (decide (ea main main.length<=j)||tq (λp b=>kE b&&rW f b.i d.i&&decide (ea main p<=j)) main 0)
   |.a=>PC d.o.op&&d.o.g.isNone&&d.o.d.isSome
   |.e=>qP (λp b=> !(decide (p<q)&&rE b)||rW f d.i b.i) main 0)
def Lu(P:Program)(nt:Nat)(keep outs:az)(goops:Array Oper)(main:List dY)(cy:List aR):Bool:=
  ll goops&&goops.size==main.length+cy.length&&
  main.all (λd=>decide (d.i<main.length))&&tp (main.map (·.i))&&(List.range main.length).all (λi=>main.any λd=>d.i==i)&&
  main.all (λd=>match goops[d.i]?with|some go=>zj P nt keep outs goops d.o go|none=>false)&&
  rK P nt keep outs goops cy (goops.toList.drop main.length)&&
  (let b:=mh goops
   (List.range cy.length).all (λk=>(List.range (main.length+k)).all λj=>rW b (main.length+k) j)&&
   qP (A1 main b) main 0)&&
  tp (main.filterMap (·.o.d))
def ln{f:Nat->dY->Bool}:∀{l:List dY} {n:Nat},qP f l n=true->∀(p:Nat) (d:dY),l[p]?=some d->f (n+p) d=true
 |[],_,_,p,d,h=>by simp at h
 |x::r,n,h,p,d,b=>by simp only[qP,aL]at h;cases p with|zero=>simp at b;subst b;exact h.1|succ p=>have:=ln h.2 p d (by simpa using b);rwa[Nat.add_assoc,wM 1]at this
def qQ{f:Nat->dY->Bool}:∀{l:List dY} {n:Nat},tq f l n=true->∃(p:Nat) (d:dY),l[p]?=some d/\f (n+p) d=true
 |[],_,h=>by simp[tq]at h
 |x::r,n,h=>by
  simp only[tq,n9]at h;rcases h with h|h
  .exact⟨0,x,rfl,h⟩
  obtain⟨p,d,b,c⟩:=qQ h;exact⟨p+1,d,by simpa using b,by rw[wM p 1,<-Nat.add_assoc];exact c⟩
def nG:∀{l:az},tp l=true->l.Nodup
 |[],_=>.nil
 |x::r,h=>by simp only[tp,aL,pf,Pz,zV]at h;exact mE.2 ⟨h.1,nG h.2⟩
def rX:∀(l:List dY) {p q:Nat},p<=q->ea l p<=ea l q
 |_,0,_,_=>by simp[ea]
 |[],_+1,0,h=>by omega
 |[],_+1,_+1,_=>by simp[ea]
 |d::r,p+1,0,h=>by omega
 |d::r,p+1,q+1,h=>by simp only[ea];have:=rX r (show p<=q by omega);omega
def CV:∀(l:List dY) (p:Nat) (d:dY),l[p]?=some d->ea l (p+1)=ea l p+(bif rE d then 1 else 0)
 |[],p,d,h=>by simp at h
 |x::r,0,d,h=>by simp at h;subst h;simp[ea]
 |x::r,p+1,d,h=>by have:=CV r p d (by simpa using h);simp only[ea]at this ⊢;omega
def EG:lL->ai
 |.alloc z=>z
 |_=>[]
def PE:lL->Ky->HV
 |.bsl b _,o=>.sl o 0 0 b
 |_,o=>.ptr o 0
def Vd:lL->Nat->Value
 |.bsl _ _,b=>.slice (some ⟨b,0,none⟩) 0 0
 |_,b=>.pointer (some ⟨b,0,none⟩)
def A2(op:lL)(cs:Array Value):Prop:=(EG op).length<=cs.size/\∀(j:Nat) (v:HV),(EG op)[j]?=some v->v.one=true/\∃u:Value,cs[j]?=some u/\∀β N w,HR β N w v u
def Ve{op:lL}(h:PC op=true)(e:En)(s:HS):dA op e s=s.new (EG op) (PE op):=by
 cases op<;>first|(cases h;done)|rfl|skip
 rename_i c b;cases b with
 |nil=>rfl
 |cons x r=>cases h
def Vf{P:Program}{op:lL}{go:Oper}(h:PC op=true)(b:ba P op go.op=true):∃cs,A2 op cs/\∀(a:Act) (w:World),∃E,(execOp a.eval go).run P w=.ok (.value (Vd op w.heap.size)) {w with heap:=w.heap.push (.cells cs E)}:=by
 cases op<;>first|(cases h;done)|skip
 .rename_i z;cases c:go.op<;>rw[c]at b<;>try cases b
  rename_i t;simp only[ba,rJ]at b
  split at b
  case h_2=>cases b
  rename_i v o;obtain⟨p,d,i⟩:=ag3.1 o;refine⟨v.cells,⟨?_,λj x f=>?_⟩,λa w=>⟨t,?_⟩⟩
  .have:=(dK b (λ_=>none) (λ_=>False) default).1;simp only[Array.length_toList]at this;rw[this];exact aV _
  .have f:z[j]?=some x:=f;refine⟨kP z _ b x (cE f),?_⟩;have hlen:=(dK b (λ_=>none) (λ_=>False) default).1;have g:j<v.cells.size:=by have:=(aU.1 f).1;simp at hlen;omega
   exact⟨v.cells[j],fW g,λβ N w=>(dK b β N w).2 j x _ f (by simp[g])⟩
  simp[execOp,c,Instr.alloc,zeroValue,typeInfo,d,i,newVar,Go.newRow,Vd]
 rename_i D q;cases q with
 |cons x r=>cases h
 |nil=>
  cases c:go.op<;>rw[c]at b<;>try cases b
  rename_i t n G;refine⟨#[],⟨by simp[EG],by simp[EG]⟩,λa w=>?_⟩;have u:dN (λ_=>none) (Live (λ_=>False) s0 (λ_=>none)) w .nil a:=λt v y=>by cases y
  obtain⟨k,H,E,cs,A,B,I,J⟩:=AW (P:=P) (M:=λ_=>False) (β:=λ_=>none) (s:=s0) u c b (l:=[]) rfl (m:=[]) rfl;simp at k;subst k;have:cs= #[]:=Array.eq_empty_of_size_eq_zero (by rw[B];simp);subst this;exact⟨E,A⟩
def Vg{op:lL}(h:PC op=true){β:Bt}{N:aG}{w:World}{o:Ky}{b:Nat}(c:β o=some ⟨b,0⟩){cs:Array Value}{E:TypeId}(d:w.heap[b]?=some (.cells cs E (0,0))):HR β N w (PE op o) (Vd op b):=by
 cases op<;>first|(cases h;done)|skip
 .exact HR.ptr o 0 ⟨b,0⟩ c (aV _)
 rename_i f g;exact HR.sl o 0 0 f 0 cs.size ⟨b,0⟩ c (aV _) (aV _) ⟨E,cs,(0,0),d,rfl⟩ (by simp)
def I6(s:HS)(op:lL):HS:={h:=av (some (.cells (dh (EG op) 0 .lf) 0 (aM (EG op)) s.nx)) s.nx s.h,nx:=s.nx.succ,gr:=av (some [s.nx]) s.nx s.gr,ty:=s.ty}
section F9
variable{C:eR}{β:Bt}{s:HS}{w:World}
def bW.weaken{M c:aG}(h:bW M C β s w)(hs:∀b,c b->M b):bW c C β s w where
 lt:=h.lt
 obj:=λo ob ho=>let⟨pl,d,f⟩:=h.obj o ob ho;⟨pl,d,f.keep (Bt.le_refl _) (λb _ hx=>hx.imp (hs b) id) (cJ.refl _ _) rfl⟩
 apart:=h.apart
 qK:=h.qK
 vg:=h.vg
 mlt:=λb hb=>h.mlt b (hs b hb)
 sO:=λb hb=>h.sO b (hs b hb)
 zl:=h.zl
def HK{op:lL}{b:Nat}(c:aj s.h s.nx=none)(x:Nat):iO (I6 s op) (β.add s.nx ⟨b,0⟩) x↔x=b∨iO s β x:=by
 unfold iO I6;constructor
 .rintro⟨o,ob,pl,d,f,rfl⟩
  simp only[af]at d;unfold Bt.add at f;by_cases g:o=s.nx
  .rw[au g]at f;cases f;exact .inl rfl
  rw[ar g]at d f;exact .inr ⟨o,ob,pl,d,f,rfl⟩
 rintro(rfl|⟨o,ob,pl,d,f,rfl⟩)
 .exact⟨s.nx,_,⟨x,0⟩,by rw[af,au rfl],by simp[Bt.add],rfl⟩
 have g:o≠s.nx:=λe=>by rw[e,c]at d;cases d
 exact⟨o,ob,pl,by rw[af,ar g];exact d,by unfold Bt.add;rw[ar g];exact f,rfl⟩
def bW.known{i d:aG}{b:Nat}(j:∀x,i x↔d x∨x=b)(l:¬d b)(h:bW i C β s w){op:lL}{cs:Array Value}{E:TypeId}(y:w.heap[b]?=some (.cells cs E (0,0)))(f:A2 op cs):
  bW d C (β.add s.nx ⟨b,0⟩) (I6 s op) w/\β.le (β.add s.nx ⟨b,0⟩)/\∀x,Live d (I6 s op) (β.add s.nx ⟨b,0⟩) x↔Live i s β x:=by
 have c:=h.fresh;have m:=HK (β:=β) (op:=op) (b:=b) h.dead;have p:¬iO s β b:=h.sO b ((j b).2 (.inr rfl));have g:∀x,Live i s β x↔x=b∨Live d s β x:=λx=>by
  unfold Live;rw[j];constructor
  .rintro((h|h)|h)
   .exact .inr (.inl h)
   .exact .inl h
   exact .inr (.inr h)
  rintro(h|h|h)
  .exact .inl (.inr h)
  .exact .inl (.inl h)
  exact .inr h
 refine⟨?_,Bt.jW c,λx=>?_⟩
 .refine(h.weaken λx q=>(j x).2 (.inl q)).F9 (lt_of_block y) (λz=>z.elim l p) (.inl rfl) ?_ (λo ob A=>?_) (.inl ⟨_,_,_,rfl,rfl⟩)
  .refine .cells _ 0 _ _ cs E (0,0) (aV _) y (.inl rfl) (by rw[bK];simpa using f.1) λk v _ r t=>?_
   rw[fC]at t;rw[bK]at r;rw[au (by omega)]at t;obtain⟨B,u,D,G⟩:=f.2 (k-0) v t;exact⟨B,u,D,G _ _ _⟩
  obtain⟨pl,H,r⟩:=h.obj o ob A;exact⟨pl,H,r.keep (Bt.le_refl _) (λx _ q=>(g x).2 q) (cJ.refl _ _) rfl⟩
 rw[g];unfold Live;rw[m];constructor
 .rintro(h|h|h)
  .exact .inr (.inl h)
  .exact .inl h
  exact .inr (.inr h)
 rintro(h|h|h)
 .exact .inr (.inl h)
 .exact .inl h
 exact .inr (.inr h)
def bW.unknown{g j:aG}(l:∀x,j x↔g x∨x=w.heap.size)(h:bW g C β s w)(x:Obj):
  bW j C β s {w with heap:=w.heap.push x}/\ie (Live j s β) (Live g s β) w:=by
 have d:ie (Live j s β) (Live g s β) w:=λb k i=>by
  rcases i with i|i
  .rcases(l b).1 i with c|c
   .exact .inl c
   omega
  exact .inr i
 refine⟨⟨λo pl f=>⟨(h.lt o pl f).1,by have:=(h.lt o pl f).2;simp;omega⟩,λo ob f=>?_,h.apart,h.qK,h.vg,λb k=>?_,λb k p=>?_,λo E n f=>let⟨pl,c,m,q⟩:=h.zl o E n f;⟨pl,c,m.keep (cJ.push (λ_=>True) w x),q⟩⟩,d⟩
 .obtain⟨pl,c,m⟩:=h.obj o ob f;exact⟨pl,c,m.keep (Bt.le_refl _) d (cJ.push _ _ _) (gN w x (h.lt o pl c).2)⟩
 .rcases(l b).1 k with c|c
  .have:=h.mlt b c;simp;omega
  simp;omega
 rcases(l b).1 k with c|c
 .exact h.sO b c p
 have:=Live.lt (M:=g) h (.inr p);omega
end F9
def HL{ih:Task->Out}{K:En->HS->List HS->Out}{x:Ex}{q:En}{s2:HS}:∀(l:List dY) (e:En) (s:HS) (vs:List HS),kV ih K l e s vs=.code x q s2->
  ∃(es:Nat->En) (ss:Nat->HS) (vv:Nat->HV) (nH:List HS),es 0=e/\ss 0=s/\K (es l.length) (ss l.length) nH=.code x q s2/\
   (∀(p:Nat) (d:dY),l[p]?=some d->lH ih d.o (es p) (ss p)=some (vv p,ss (p+1))/\es (p+1)=(es p).put d.o.d (vv p))/\
   (∀k,k<vs.length->nH[k]?=vs[k]?)/\∀(p:Nat) (d:dY),l[p]?=some d->rE d=true->nH[vs.length+ea l p]?=some (ss (p+1)):=by
 intro l
 induction l with
 |nil=>intro e s vs h;exact⟨λ_=>e,λ_=>s,λ_=>.undef,vs,rfl,rfl,h,by simp,λ_ _=>rfl,by simp⟩
 |cons d l i=>
  intro e s vs h;obtain⟨v,s',t,u⟩:=wF (K:=λe' s'=>kV ih K l e' s' (DK.rec (motive:=λ_=>List HS) vs (λ_ _=>vs) (vs++[s']) (vs++[s']) d.k)) h;obtain⟨es,ss,vv,nH,y,a2,a3,a4,a5,z⟩:=i _ _ _ u;refine⟨λn=>match n with|0=>e|n+1=>es n,λn=>match n with|0=>s|n+1=>ss n,λn=>match n with|0=>v|n+1=>vv n,nH,rfl,rfl,a3,?_,?_,?_⟩
  .intro p j f;cases p with|zero=>simp at f;subst f;exact⟨by simp only[a2];exact t,y⟩|succ p=>exact a4 p j (by simpa using f)
  .intro k hk;cases c:d.k with|r=>simp only[c]at a5;exact a5 k hk|l lo hi=>simp only[c]at a5;exact a5 k hk|a=>simp only[c]at a5;rw[a5 k (by simp;omega),dD hk]|e=>simp only[c]at a5;rw[a5 k (by simp;omega),dD hk]
  intro p j f hk;have b:rE d=true->(DK.rec (motive:=λ_=>List HS) vs (λ_ _=>vs) (vs++[s']) (vs++[s']) d.k)=vs++[s']:=λhk=>by unfold rE at hk;cases c:d.k<;>simp only[c]at hk ⊢ <;>cases hk
  have m:rE d=false->(DK.rec (motive:=λ_=>List HS) vs (λ_ _=>vs) (vs++[s']) (vs++[s']) d.k)=vs:=λhk=>by unfold rE at hk;cases c:d.k<;>simp only[c]at hk ⊢ <;>cases hk
  cases p with
  |zero=>simp at f;subst f;rw[b hk]at a5;simp only[ea,iB,a2];rw[a5 _ (by simp)];simp
  |succ p=>have:=z p j (by simpa using f) hk;simp only[ea];cases g:rE d with|true=>rw[b g,bZ,List.length_singleton]at this;rw[cond_true];rw[<-Nat.add_assoc];exact this|false=>rw[m g]at this;rw[cond_false,bn];exact this
def CW(main:List dY)(listed:Array Bool)(T:Nat)(t:Nat):Prop:=∀(p:Nat) (d:dY),main[p]?=some d->d.o.d=some t->listed.getD d.i false=true/\(kA d=true->p<T)
def MP(M:aG)(main:List dY)(listed:Array Bool)(T:Nat)(gE:Nat->Nat)(b:Nat):Prop:=M b∨∃(p:Nat) (d:dY),T<=p/\main[p]?=some d/\kA d=true/\listed.getD d.i false=true/\gE p=b
structure zp(M:aG)(C:eR)(goops:Array Oper)(main:List dY)(keep outs:az)(eF:En)(ss:Nat->HS)(β0:Bt)(s0:HS)(a0:Act)(w0:World)(listed:Array Bool)(T:Nat)(gE:Nat->Nat)(β:Bt)(a:Act)(w:World):Prop where
 mlt:∀b,M b->b<w0.heap.size
 I7:listed.size=goops.size
 closed:∀i o,goops[i]?=some o->listed.getD i false=true->∀k∈fg o,listed.getD k false=true
 HM:∀i,main.length<=i->listed.getD i false=false
 PF:T<=main.length
 done:∀(p:Nat) (d:dY),main[p]?=some d->p<T->rE d=true->listed.getD d.i false=true
 todo:∀(p:Nat) (d:dY),main[p]?=some d->T<=p->kE d=true->listed.getD d.i false=false
 rel:bW (MP M main listed T gE) C β (ss T) w
 ext:Ext M β0 s0 w0 β (ss T) w
 wc:∀(p:Nat) (d:dY),main[p]?=some d->T<=p->kA d=true->listed.getD d.i false=true->
  w0.heap.size<=gE p/\(∃cs E,w.heap[gE p]?=some (.cells cs E (0,0))/\A2 d.o.op cs)/\∀t,d.o.d=some t->a.tmps.getD t Go.undef=Vd d.o.op (gE p)
 inj:∀(p q:Nat) (d d':dY),main[p]?=some d->main[q]?=some d'->T<=p->T<=q->kA d=true->kA d'=true->listed.getD d.i false=true->listed.getD d'.i false=true->gE p=gE q->p=q
 env:∀t v,look eF t=some v->CW main listed T t->HR β (Live (MP M main listed T gE) (ss T) β) w v (a.tmps.getD t Go.undef)
 size:a.tmps.size=a0.tmps.size
 defers:a.defers=a0.defers
 same:∀t,t∈keep->outs.contains t=false->a.tmps.getD t Go.undef=a0.tmps.getD t Go.undef
structure Stat(P:Program)(nt:Nat)(keep outs:az)(goops:Array Oper)(main:List dY)(cy:List aR)(ih:Task->Out)(es:Nat->En)(ss:Nat->HS)(vv:Nat->HV)(nH:List HS):Prop where
 T9:ll goops=true
 sz:goops.size=main.length+cy.length
 lt:∀(p:Nat) (d:dY),main[p]?=some d->d.i<main.length
 Vh:∀(p q:Nat) (d d':dY),main[p]?=some d->main[q]?=some d'->d.i=d'.i->p=q
 aau:∀i,i<main.length->∃(p:Nat) (d:dY),main[p]?=some d/\d.i=i
 op:∀(p:Nat) (d:dY),main[p]?=some d->∃go,goops[d.i]?=some go/\zj P nt keep outs goops d.o go=true
 trl:rK P nt keep outs goops cy (goops.toList.drop main.length)=true
 tcl:∀k,k<cy.length->∀j,j<main.length+k->rW (mh goops) (main.length+k) j=true
 pos:∀(q:Nat) (d:dY),main[q]?=some d->A1 main (mh goops) q d=true
 dst:∀(p q:Nat) (d d':dY) (t:Nat),main[p]?=some d->main[q]?=some d'->d.o.d=some t->d'.o.d=some t->p=q
 step:∀(p:Nat) (d:dY),main[p]?=some d->lH ih d.o (es p) (ss p)=some (vv p,ss (p+1))/\es (p+1)=(es p).put d.o.d (vv p)
 vs0:nH[0]?=some (ss 0)
 vsk:∀(p:Nat) (d:dY),main[p]?=some d->rE d=true->nH[1+ea main p]?=some (ss (p+1))
 reads:bV (es main.length) nH main=true
def jX{f:dY->bL}:∀{l:List dY},(l.filterMap f).Nodup->∀(p q:Nat) (d g:dY) (t:Nat),l[p]?=some d->l[q]?=some g->f d=some t->f g=some t->p=q
 |[],_,p,q,d,g,t,h,_,_,_=>by simp at h
 |x::r,i,p,q,d,g,t,j,m,u,v=>by
  have b:∀(k:Nat) (c:dY),r[k]?=some c->f c=some t->t∈r.filterMap f:=λk c y z=>List.mem_filterMap.2 ⟨c,cE y,z⟩
  have A:(r.filterMap f).Nodup:=by
   rw[PG]at i
   split at i
   .exact i
   exact(mE.1 i).2
  have o:f x=some t->t ∉ r.filterMap f:=λo=>by rw[PG,o]at i;exact(mE.1 i).1
  cases p with
  |zero=>simp at j;subst j;cases q with|zero=>rfl|succ q=>exact absurd (b q g (by simpa using m) v) (o u)
  |succ p=>cases q with|zero=>simp at m;subst m;exact absurd (b p d (by simpa using j) u) (o v)|succ q=>rw[jX A p q d g t (by simpa using j) (by simpa using m) u v]
def HN{f:dY->Nat}{l:List dY}(c:(l.map f).Nodup)(p q:Nat)(d b:dY)(g:l[p]?=some d)(h:l[q]?=some b)(i:f d=f b):p=q:=by
 have e:l.map f=l.filterMap (λx=>some (f x)):=by simp[List.filterMap_eq_map']
 rw[e]at c;exact jX c p q d b (f d) g h rfl (by rw[i])
def Stat.mk'{P:Program}{nt:Nat}{keep outs:az}{goops:Array Oper}{main:List dY}{cy:List aR}{ih:Task->Out}{es:Nat->En}{ss:Nat->HS}{vv:Nat->HV}{nH:List HS}
  (r:Lu P nt keep outs goops main cy=true)
  (c:∀(p:Nat) (d:dY),main[p]?=some d->lH ih d.o (es p) (ss p)=some (vv p,ss (p+1))/\es (p+1)=(es p).put d.o.d (vv p))
  (g:nH[0]?=some (ss 0))(h:∀(p:Nat) (d:dY),main[p]?=some d->rE d=true->nH[1+ea main p]?=some (ss (p+1)))(b:bV (es main.length) nH main=true):
  Stat P nt keep outs goops main cy ih es ss vv nH:=by
 simp only[Lu,aL,bU,fG,bY,fX,ahf]at r;obtain⟨⟨⟨⟨⟨⟨⟨⟨t,u⟩,v⟩,x⟩,y⟩,z⟩,A⟩,B,D⟩,j⟩:=r;refine⟨t,u,λp d f=>v d (cE f),λp q d E f k l=>HN (nG x) p q d E f k l,λi l=>?_,λp d f=>?_,A,B,λq d k=>?_,jX (nG j),c,g,h,b⟩
 .obtain⟨d,G,H⟩:=y i l;obtain⟨p,f,rfl⟩:=oQ G;exact⟨p,main[p],aX f,by simpa using H⟩
 .have:=z d (cE f)
  split at this
  .rename_i go m;exact⟨go,m,this⟩
  cases this
 have:=ln D q d k;rwa[bn]at this
def EH{d:dY}(h:kE d=true):rE d=true:=by unfold kE at h;unfold rE;cases b:d.k<;>simp only[b]at h ⊢ <;>cases h
def I8{d:dY}(h:kA d=true):rE d=true:=by unfold kA at h;unfold rE;cases b:d.k<;>simp only[b]at h ⊢ <;>cases h
def uz{o:aR}{e:En}:∀{n:Nat} {l:List HS},iw o e n l=true->∀(k:Nat) (s:HS),k<=n->l[k]?=some s->∃d v u s',o.d=some d/\look e d=some v/\dA o.op e s=.v u s'/\fJ v u=true
 |_,[],_,k,s,_,h=>by simp at h
 |n,x::r,c,k,s,j,h=>by
  unfold iw at c;simp only[aL]at c;cases k with
  |zero=>
   simp at h;subst h;have b:=c.1
   split at b
   .rename_i d f
    split at b
    .rename_i v u s' g i;exact⟨d,v,u,s',f,g,i,b⟩
    cases b
   cases b
  |succ k=>cases n with|zero=>omega|succ n=>exact uz c.2 k s (by omega) (by simpa using h)
def rY{e:En}{vs:List HS}:∀{l:List dY},bV e vs l=true->∀(q:Nat) (d:dY) (b c:Nat),l[q]?=some d->d.k=.l b c->
  (kU e d.o.g=some true/\iw d.o e (c-b) (vs.drop b)=true)∨kU e d.o.g=some false
 |[],_,q,d,b,c,h,_=>by simp at h
 |x::r,i,q,d,b,c,h,m=>by
  simp only[bV,aL]at i;cases q with
  |zero=>
   simp at h;subst h;have f:=i.1;rw[m]at f;simp only[]at f
   split at f
   .rename_i j;exact .inl ⟨j,f⟩
   .rename_i j;exact .inr j
   cases f
  |succ q=>exact rY i.2 q d b c (by simpa using h) m
section stat
variable{P:Program}{nt:Nat}{keep outs:az}{goops:Array Oper}{main:List dY}{cy:List aR}{ih:Task->Out}{es:Nat->En}{ss:Nat->HS}{vv:Nat->HV}{nH:List HS}
def Stat.qb(S:Stat P nt keep outs goops main cy ih es ss vv nH){t:Nat}:∀(j p:Nat),p+j=main.length->(∀(r:Nat) (d:dY),p<=r->main[r]?=some d->d.o.d≠some t)->look (es main.length) t=look (es p) t
 |0,p,c,_=>by rw[<-c,iB]
 |j+1,p,c,h=>by
  have b:p<main.length:=by omega
  have f:=aX b;rw[S.qb j (p+1) (by omega) λr d g=>h r d (by omega),(S.step p _ f).2,oL,ar (h p _ (aV _) f)]
def Stat.wN(S:Stat P nt keep outs goops main cy ih es ss vv nH){p:Nat}{d:dY}(b:main[p]?=some d){t:Nat}(g:d.o.d=some t):look (es main.length) t=some (vv p):=by have h:p<main.length:=(aU.1 b).1;rw[S.qb (main.length-(p+1)) (p+1) (by omega) λr i j c f=>by have:=S.dst p r d i t b c g f;omega,(S.step p d b).2,oL,au g]
def Stat.CX(S:Stat P nt keep outs goops main cy ih es ss vv nH){q:Nat}{d:dY}(l:main[q]?=some d){t:Nat}(m:t∈ZH d.o){p:Nat}{b:dY}(r:main[p]?=some b)(u:b.o.d=some t):
  p<q/\rW (mh goops) d.i b.i=true/\(kA b=true->∀(g:Nat) (c:dY),main[g]?=some c->g<=p->rE c=true->rW (mh goops) d.i c.i=true):=by
 have h:=S.pos q d l;unfold A1 at h;rw[aL,fG]at h;have f:=ln (h.1 t m) p b r;rw[bn]at f;simp only[u,El,mB,wq,aL,bY,n9,pf]at f;refine⟨f.1.1,f.1.2,λv g c k hle x=>?_⟩;rcases f.2 with j|j
 .rw[v]at j;cases j
 have:=ln j g c k;rw[bn]at this;simpa[hle,x]using this
def Stat.wO(S:Stat P nt keep outs goops main cy ih es ss vv nH){q:Nat}{d:dY}(f:main[q]?=some d)(s:HS):lH ih d.o (es main.length) s=lH ih d.o (es q) s:=by have g:q<main.length:=(aU.1 f).1;refine wI (λt h=>?_) s;exact S.qb (main.length-q) q (by omega) λr b j i c=>by have:=(S.CX f h i c).1;omega
def Stat.kind(S:Stat P nt keep outs goops main cy ih es ss vv nH){q:Nat}{d:dY}(y:main[q]?=some d):
  (d.k=.r/\ZI d.o.op=true)∨
  (∃j m,d.k=.l j m/\ZJ d.o.op=true/\(j=0∨∃(p:Nat) (b:dY),main[p]?=some b/\kE b=true/\rW (mh goops) d.i b.i=true/\j<=ea main (p+1))/\
   (ea main main.length<=m∨∃(p:Nat) (b:dY),main[p]?=some b/\kE b=true/\rW (mh goops) b.i d.i=true/\ea main p<=m))∨
  (d.k=.a/\PC d.o.op=true/\d.o.g=none/\∃t,d.o.d=some t)∨
  (d.k=.e/\∀(p:Nat) (b:dY),main[p]?=some b->p<q->rE b=true->rW (mh goops) d.i b.i=true):=by
 have h:=S.pos q d y;unfold A1 at h;rw[aL]at h;have h:=h.2;cases u:d.k with
 |r=>rw[u]at h;exact .inl ⟨rfl,h⟩
 |l j m=>
  rw[u]at h;simp only[aL,n9,bU,bY]at h;refine .inr (.inl ⟨j,m,rfl,h.1.1.1,?_,?_⟩)
  .rcases h.1.2 with f|f
   .exact .inl f
   obtain⟨p,b,v,c⟩:=qQ f;simp only[bn,aL,bY]at c;exact .inr ⟨p,b,v,c.1.1,c.1.2,c.2⟩
  rcases h.2 with f|f
  .exact .inl f
  obtain⟨p,b,v,c⟩:=qQ f;simp only[bn,aL,bY]at c;exact .inr ⟨p,b,v,c.1.1,c.1.2,c.2⟩
 |a=>rw[u]at h;simp only[aL]at h;exact .inr (.inr (.inl ⟨rfl,h.1.1,by simpa using h.1.2,ahV.1 h.2⟩))
 |e=>rw[u]at h;refine .inr (.inr (.inr ⟨rfl,λp b z x A=>?_⟩));have:=ln h p b z;rw[bn]at this;simpa[x,A]using this
def Stat.still(S:Stat P nt keep outs goops main cy ih es ss vv nH){q:Nat}{d:dY}(i:main[q]?=some d)(j:rE d=false):ss (q+1)=ss q:=by
 have h:=(S.step q d i).1;unfold lH at h
 split at h
 .have k:pj (ss q) (dA d.o.op (es q) (ss q)):=by
   rcases S.kind i with⟨_,b⟩|⟨l,m,_,b,_⟩|⟨c,_⟩|⟨c,_⟩
   .rcases NY b (es q)with⟨v,f⟩|f
    .rw[f];exact .v v
    rw[f];exact .bad
   .exact NZ b (es q) (ss q)
   .simp[rE,c]at j
   simp[rE,c]at j
  rcases k with⟨v,g⟩|g
  .rw[g]at h;simp only[bQ,gj]at h;exact h.2.symm
  rw[g]at h;cases h
 .simp only[bQ,gj]at h;exact h.2.symm
 cases h
def Stat.version(S:Stat P nt keep outs goops main cy ih es ss vv nH):∀T,T<=main.length->nH[ea main T]?=some (ss T)
 |0,_=>by rw[ea];exact S.vs0
 |T+1,f=>by
  have b:T<main.length:=by omega
  have c:=aX b;rw[CV main T _ c];cases d:rE main[T]with|true=>rw[cond_true,wM];exact S.vsk T _ c d|false=>rw[cond_false,iB,S.still c d];exact S.version T (by omega)
def Stat.Vi(S:Stat P nt keep outs goops main cy ih es ss vv nH){q:Nat}{d:dY}(c:main[q]?=some d)(f:ZI d.o.op=true)(s:HS):lH ih d.o (es main.length) s=some (vv q,s):=by
 rw[S.wO c];have h:=(S.step q d c).1;unfold lH at h ⊢
 split at h
 .rcases NY f (es q)with⟨v,b⟩|b
  .rw[b]at h ⊢;simp only[bQ,gj]at h;rw[h.1]
  rw[b]at h;cases h
 .simp only[bQ,gj]at h;rw[h.1]
 cases h
def Stat.Vj(S:Stat P nt keep outs goops main cy ih es ss vv nH){q:Nat}{d:dY}(c:main[q]?=some d){b g:Nat}(p:d.k=.l b g)(r:ZJ d.o.op=true){T:Nat}(x:T<=main.length)(D:b<=ea main T)(E:ea main T<=g):
  lH ih d.o (es main.length) (ss T)=some (vv q,ss T):=by
 rcases rY S.reads q d b g c p with⟨i,y⟩|i
 .obtain⟨t,v,u,s',z,m,f,A⟩:=uz y (ea main T-b) (ss T) (by omega) (by
   rw[kX,show b+(ea main T-b)=ea main T by omega];exact S.version T x)
  have B:=CU v u A;subst B;rw[S.wN c z]at m;cases m;unfold lH;rw[i];simp only[];rcases NZ r (es main.length) (ss T)with⟨G,j⟩|j
  .rw[j]at f ⊢;cases f;rfl
  rw[j]at f;cases f
 have h:=(S.step q d c).1;rw[<-S.wO c]at h;unfold lH at h ⊢;rw[i]at h ⊢;simp only[bQ,gj]at h;rw[h.1]
def Stat.Vk(S:Stat P nt keep outs goops main cy ih es ss vv nH){q:Nat}{d:dY}(b:main[q]?=some d):lH ih d.o (es main.length) (ss q)=some (vv q,ss (q+1)):=by rw[S.wO b];exact(S.step q d b).1
def Stat.Vl(S:Stat P nt keep outs goops main cy ih es ss vv nH){q:Nat}{d:dY}(b:main[q]?=some d)(c:PC d.o.op=true)(f:d.o.g=none):vv q=PE d.o.op (ss q).nx/\ss (q+1)=I6 (ss q) d.o.op:=by have h:=(S.step q d b).1;unfold lH at h;rw[f]at h;have i:kU (es q) none=some true:=rfl;rw[i]at h;simp only[]at h;rw[Ve c,wA]at h;simp only[bQ,gj]at h;exact⟨h.1.symm,h.2.symm⟩
end stat
section draw
variable{M:aG}{C:eR}{P:Program}{nt:Nat}{keep outs:az}{goops:Array Oper}{main:List dY}{cy:List aR}{ih:Task->Out}{es:Nat->En}{ss:Nat->HS}{vv:Nat->HV}{nH:List HS}
 {β0:Bt}{s0:HS}{a0:Act}{w0:World}{listed:Array Bool}{T:Nat}{gE:Nat->Nat}{β:Bt}{a:Act}{w:World}
def N1{c:Array Bool}{r:Nat}{f:Nat->Nat}(h:∀(p:Nat) (d:dY),main[p]?=some d->kA d=true->((r<=p/\c.getD d.i false=true)↔(T<=p/\listed.getD d.i false=true)))
  (t:∀(p:Nat) (d:dY),main[p]?=some d->kA d=true->T<=p->listed.getD d.i false=true->f p=gE p):MP M main c r f=MP M main listed T gE:=by
 funext b
 unfold MP;refine propext (or_congr Iff.rfl ?_);constructor
 .rintro⟨p,d,k,g,j,l,q⟩
  obtain⟨m,o⟩:=(h p d g j).1 ⟨k,l⟩;exact⟨p,d,m,g,j,o,by rw[<-t p d g j m o];exact q⟩
 rintro⟨p,d,k,g,j,l,q⟩
 obtain⟨m,o⟩:=(h p d g j).2 ⟨k,l⟩;exact⟨p,d,m,g,j,o,by rw[t p d g j k l];exact q⟩
def Ext.through{d:aG}{s s':HS}{β':Bt}{w':World}(h:Ext M β0 s0 w0 β s w)(k:Ext d β s w β' s' w')(g:∀b,M b->d b)(c:∀b,d b->b<w0.heap.size->M b):Ext M β0 s0 w0 β' s' w' where
 le:=Bt.le_trans h.le k.le
 keeps:=by
  have f:∀b,b<w0.heap.size->Live d s β b->Live M s β b:=λb hb hl=>hl.imp (λhm=>c b hm hb) id
  exact⟨fu h.keeps.size k.keeps.size,λb hb i=>(k.keeps.same b (dJ hb h.keeps.size) (λx=>i (h.less b hb (f b hb x)))).trans (h.keeps.same b hb i),λb E n j=>k.keeps.has b E n (h.keeps.has b E n j)⟩
 less:=λb hb x=>h.less b hb ((k.less b (dJ hb h.keeps.size) (x.imp (g b) id)).imp (λhm=>c b hm hb) id)
 os:=k.os.trans h.os
 tape:=k.tape.trans h.tape
 output:=k.output.trans h.output
 loops:=λb r l=>let⟨r',m⟩:=h.loops b r l;k.loops b r' m
 nx:=fu h.nx k.nx
 oP:=λb hm=>(k.oP b (g b hm)).trans (h.oP b hm)
def zp.new(h:zp M C goops main keep outs (es main.length) ss β0 s0 a0 w0 listed T gE β a w):∀b,MP M main listed T gE b->b<w0.heap.size->M b:=by
 rintro b (c|⟨p,d,f,g,i,j,rfl⟩) k
 .exact c
 have:=(h.wc p d g f i j).1;omega
def zp.fixed(h:zp M C goops main keep outs (es main.length) ss β0 s0 a0 w0 listed T gE β a w)(d:jG C (Live M s0 β0) w0):jG C (Live (MP M main listed T gE) (ss T) β) w:=λb o f=>by obtain⟨g,i⟩:=d.ext h.ext b o f;have c:=lt_of_block (d b o f).1;exact⟨g,λj=>i (j.imp (λk=>h.new b k c) id)⟩
def zp.PH(S:Stat P nt keep outs goops main cy ih es ss vv nH)(h:zp M C goops main keep outs (es main.length) ss β0 s0 a0 w0 listed T gE β a w){d:dY}(u:main[T]?=some d)(Z:rE d=true->listed.getD d.i false=true):
  ∃β',zp M C goops main keep outs (es main.length) ss β0 s0 a0 w0 listed (T+1) gE β' a w:=by
 have L:T<main.length:=(aU.1 u).1;have A:∀(p:Nat) (d:dY),main[p]?=some d->p<T+1->rE d=true->listed.getD d.i false=true:=λp j c hg N=>by
  rcases jF p T with f|f
  .exact h.done p j c f N
  have:p=T:=by omega
  subst this;rw[u]at c;cases c;exact Z N
 have G:kE d=false:=by
  cases he:kE d with
  |false=>rfl
  |true=>have f:=h.todo T d u (aV _) he;rw[Z (EH he)]at f;cases f
 cases z:kA d with
 |false=>
  have h7:rE d=false:=by unfold kA at z;unfold kE at G;unfold rE;cases hd:d.k<;>simp only[hd]at z G ⊢ <;>first|rfl|(cases z;done)|(cases G;done)
  have y:ss (T+1)=ss T:=S.still u h7;have O:MP M main listed (T+1) gE=MP M main listed T gE:=N1 (λp j c m=>by
   constructor
   .rintro⟨f,r⟩;exact⟨by omega,r⟩
   rintro⟨f,r⟩
   refine⟨?_,r⟩;rcases qO f with l|l
   .subst l;rw[u]at c;cases c;rw[z]at m;cases m
   exact l) (λ_ _ _ _ _ _=>rfl)
  refine⟨β,h.mlt,h.I7,h.closed,h.HM,L,A,λp j c hle=>h.todo p j c (by omega),?_,?_,λp j c hle=>h.wc p j c (by omega),λp q d1 d2 c hq f r=>h.inj p q d1 d2 c hq (by omega) (by omega),λt v V hv=>?_,h.size,h.defers,h.same⟩
  .rw[O,y];exact h.rel
  .rw[y];exact h.ext
  rw[O,y];refine h.env t v V λp j c B=>?_
  obtain⟨f,r⟩:=hv p j c B;refine⟨f,λm=>?_⟩;have:=r m;rcases qO (PJ this)with l|l
  .subst l;rw[u]at c;cases c;rw[z]at m;cases m
  exact l
 |true=>
  have hl:=Z (I8 z);have H:PC d.o.op=true/\d.o.g=none:=by
   rcases S.kind u with⟨f,_⟩|⟨lo,hi,f,_⟩|⟨f,r,l,_⟩|⟨f,_⟩
   .simp[kA,f]at z
   .simp[kA,f]at z
   .exact⟨r,l⟩
   simp[kA,f]at z
  obtain⟨h8,y⟩:=S.Vl u H.1 H.2;obtain⟨p1,⟨cs,E,p2,p3⟩,p4⟩:=h.wc T d u (aV _) z hl;have hM:∀x,MP M main listed T gE x↔MP M main listed (T+1) gE x∨x=gE T:=λx=>by
   constructor
   .rintro(D|⟨p,j,f,r,l,W,J⟩)
    .exact .inl (.inl D)
    rcases qO f with h6|h6
    .subst h6;exact .inr J.symm
    exact .inl (.inr ⟨p,j,h6,r,l,W,J⟩)
   rintro((D|⟨p,j,f,r,l,W,J⟩)|rfl)
   .exact .inl D
   .exact .inr ⟨p,j,by omega,r,l,W,J⟩
   exact .inr ⟨T,d,aV _,u,z,hl,rfl⟩
  have X:¬MP M main listed (T+1) gE (gE T):=by
   rintro(D|⟨p,j,f,r,l,W,J⟩)
   .have:=h.mlt _ D;omega
   have:=h.inj p T j d r u (by omega) (aV _) l z W hl J;omega
  obtain⟨r1,r2,r3⟩:=h.rel.known hM X p2 p3;rw[<-y]at r1 r3;refine⟨β.add (ss T).nx ⟨gE T,0⟩,h.mlt,h.I7,h.closed,h.HM,L,A,λp j c hle=>h.todo p j c (by omega),r1,?_,λp j c hle=>h.wc p j c (by omega),λp q d1 d2 c hq f r=>h.inj p q d1 d2 c hq (by omega) (by omega),λt v V hv=>?_,h.size,h.defers,h.same⟩
  .exact⟨Bt.le_trans h.ext.le r2,h.ext.keeps,λb hb h9=>by
    rcases h9 with D|hf
    .exact .inl D
    have Y:Live (MP M main listed (T+1) gE) (ss (T+1)) (β.add (ss T).nx ⟨gE T,0⟩) b:=.inr hf;rw[r3]at Y;exact h.ext.less b hb (Y.imp (λD=>h.new b D hb) id),h.ext.os,h.ext.tape,h.ext.output,h.ext.loops,by rw[y];show s0.nx.toNat<=(ss T).nx.succ.toNat;rw[Ky.aS];have:=h.ext.nx;omega,h.ext.oP⟩
  by_cases I:d.o.d=some t
  .rw[S.wN u I,h8]at V;cases V;rw[p4 t I];exact Vg H.1 (by simp[Bt.add]) p2
  refine(h.env t v V λp j c B=>?_).keep r2 (λb _ Y=>(r3 b).1 Y) (cJ.refl _ _);obtain⟨f,r⟩:=hv p j c B;refine⟨f,λm=>?_⟩;have:=r m;rcases qO (PJ this)with l|l
  .subst l;rw[u]at c;cases c;exact absurd B I
  exact l
def zp.vC(S:Stat P nt keep outs goops main cy ih es ss vv nH):∀(j T:Nat) (β:Bt),T+j=main.length->zp M C goops main keep outs (es main.length) ss β0 s0 a0 w0 listed T gE β a w->
  ∃b g,zp M C goops main keep outs (es main.length) ss β0 s0 a0 w0 listed b gE g a w/\(b=main.length∨∃d,main[b]?=some d/\rE d=true/\listed.getD d.i false=false)
 |0,T,β,k,h=>⟨T,β,h,.inl (by omega)⟩
 |j+1,T,β,k,h=>by
  have f:=aX (show T<main.length by omega);by_cases c:rE main[T]=true/\listed.getD main[T].i false=false
  .exact⟨T,β,h,.inr ⟨_,f,c.1,c.2⟩⟩
  obtain⟨l,m⟩:=h.PH S f λo=>by cases p:listed.getD main[T].i false with|true=>rfl|false=>exact absurd ⟨o,p⟩ c
  exact zp.vC S j (T+1) l (by omega) m
def jO{i j:Nat}(b:i<listed.size):(listed.setIfInBounds i true).getD j false=if j=i then true else listed.getD j false:=by
 by_cases h:j=i
 .subst h;simp[fM,b]
 rw[ar h];simp[fM,oS (jY h)]
def qc{d:bL}{u:Value}{t:Nat}(h:d≠some t):(a.put d u).tmps.getD t Go.undef=a.tmps.getD t Go.undef:=by
 cases d with
 |none=>rfl
 |some d=>
  have b:d≠t:=λe=>h (by rw[e])
  simp[Act.put,fM,oS b]
def zp.Ja(S:Stat P nt keep outs goops main cy ih es ss vv nH)(h:zp M C goops main keep outs (es main.length) ss β0 s0 a0 w0 listed T gE β a w)(hf:a0.tmps.size=nt)
  {q:Nat}{d:dY}(D:main[q]?=some d)(hA:kA d=false){go:Oper}(hg:goops[d.i]?=some go)(V:zj P nt keep outs goops d.o go=true)(G:∀k∈fg go,listed.getD k false=true)
  {J:Nat}(y:(kE d=true/\T=q/\J=T+1)∨(kE d=false/\J=T)){W:Bt}{u:Value}{w':World}(r1:bW (MP M main listed T gE) C W (ss J) w')(r2:Ext (MP M main listed T gE) β (ss T) w W (ss J) w')
  (r3:HR W (Live (MP M main listed T gE) (ss J) W) w' (vv q) u):
  zp M C goops main keep outs (es main.length) ss β0 s0 a0 w0 (listed.setIfInBounds d.i true) J gE W (a.put go.dst u) w':=by
 have hy:q<main.length:=(aU.1 D).1;have hz:=S.lt q d D;have k0:=S.sz;have hi:d.i<listed.size:=by rw[h.I7];omega
 have f:=λj=>jO (j:=j) hi
 have c:∀(p:Nat) (l:dY),main[p]?=some l->p≠q->l.i≠d.i:=λp l g A he=>A (S.Vh p q l d g D he)
 have H:∀(p:Nat) (l:dY),main[p]?=some l->kA l=true->p≠q:=λp l g m e=>by subst e;rw[D]at g;cases g;rw[hA]at m;cases m
 simp only[zj,aL,bU]at V;obtain⟨⟨⟨⟨X,L⟩,hj⟩,_⟩,_⟩:=V;have Y:MP M main (listed.setIfInBounds d.i true) J gE=MP M main listed T gE:=N1 (λp l g m=>by
  have A:=H p l g m;rw[f,ar (c p l g A)];rcases y with⟨_,B,r⟩|⟨_,r⟩
  .constructor
   .rintro⟨a1,Z⟩;exact⟨by omega,Z⟩
   rintro⟨a1,Z⟩;exact⟨by omega,Z⟩
  rw[r]) (λ_ _ _ _ _ _=>rfl)
 have hx:T<=J:=by rcases y with⟨_,_,r⟩|⟨_,r⟩<;>omega
 refine⟨h.mlt,by simp[h.I7],λi o O N k m=>?_,λi hr=>?_,?_,λp l g h9 m=>?_,λp l g h9 m=>?_,?_,?_,λp l g h9 m N=>?_,λp p' d1 d2 B r h3 h4 h5 h6 h7 h8=>?_,λt v I hv=>?_,(tc _ _).trans h.size,(pg _ _).trans h.defers,λt I O=>(wH (X▸X▸hj) I O).trans (h.same t I O)⟩
 .rw[f]
  split
  .rfl
  rw[f]at N;by_cases hid:i=d.i
  .subst hid;rw[hg]at O;cases O;exact G k m
  rw[ar hid]at N;exact h.closed i o O N k m
 .rw[f,ar (by omega)];exact h.HM i hr
 .rcases y with⟨_,B,r⟩|⟨_,r⟩
  .omega
  rw[r];exact h.PF
 .rw[f]
  split
  .rfl
  rename_i A;rcases y with⟨_,B,r⟩|⟨_,r⟩
  .by_cases x:p=q
   .subst x;rw[D]at g;cases g;exact absurd rfl A
   exact h.done p l g (by omega) m
  exact h.done p l g (by omega) m
 .have x:p≠q:=by
   rintro rfl
   rw[D]at g;cases g;rcases y with⟨_,B,r⟩|⟨B,r⟩
   .omega
   rw[B]at m;cases m
  rw[f,ar (c p l g x)];exact h.todo p l g (by omega) m
 .rw[Y];exact r1
 .exact h.ext.through r2 (λb hb=>.inl hb) h.new
 .have x:=H p l g m;rw[f,ar (c p l g x)]at N;obtain⟨a1,⟨cs,E,Z,a3⟩,a4⟩:=h.wc p l g (by omega) m N;refine⟨a1,⟨cs,E,?_,a3⟩,λt I=>?_⟩
  .rw[r2.oP (gE p) (.inr ⟨p,l,by omega,g,m,N,rfl⟩)];exact Z
  rw[qc (by rw[<-X];exact λe=>x (S.dst p q l d t g D I e))];exact a4 t I
 .have e1:=H p d1 B h5;have e2:=H p' d2 r h6;rw[f,ar (c p d1 B e1)]at h7;rw[f,ar (c p' d2 r e2)]at h8;exact λhb=>h.inj p p' d1 d2 B r (by omega) (by omega) h5 h6 h7 h8 hb
 rw[Y];by_cases z:d.o.d=some t
 .rw[S.wN D z]at I;cases I;rw[X]at z;rw[z];have hs:t<a.tmps.size:=by rw[z]at L;simp only[T5,bY]at L;rw[h.size,hf];exact L
  have:(a.put (some t) u).tmps.getD t Go.undef=u:=by simp[Act.put,fM,hs]
  rw[this];exact r3
 rw[qc (by rw[<-X];exact z)];refine(h.env t v I λp l g ha=>?_).ext r2;obtain⟨b1,b2⟩:=hv p l g ha;have x:p≠q:=by rintro rfl;rw[D]at g;cases g;exact z ha
 rw[f,ar (c p l g x)]at b1;refine⟨b1,λm=>?_⟩;have:=b2 m;rcases y with⟨_,B,r⟩|⟨_,r⟩<;>omega
def zp.bH(S:Stat P nt keep outs goops main cy ih es ss vv nH)(h:zp M C goops main keep outs (es main.length) ss β0 s0 a0 w0 listed T gE β a w)(hg:a0.tmps.size=nt)
  {q:Nat}{d:dY}(z:main[q]?=some d)(Z:listed.getD d.i false=false)(V:kA d=true){go:Oper}(hj:goops[d.i]?=some go)(h9:zj P nt keep outs goops d.o go=true)(J:∀k∈fg go,listed.getD k false=true)
  {cs:Array Value}{E:TypeId}(hr:A2 d.o.op cs):
  zp M C goops main keep outs (es main.length) ss β0 s0 a0 w0 (listed.setIfInBounds d.i true) T (λp=>if p=q then w.heap.size else gE p) β (a.put go.dst (Vd d.o.op w.heap.size)) {w with heap:=w.heap.push (.cells cs E)}:=by
 have k2:q<main.length:=(aU.1 z).1;have k3:=S.lt q d z;have k4:=S.sz;have hi:d.i<listed.size:=by rw[h.I7];omega
 have c:=λj=>jO (j:=j) hi
 have g:∀(p:Nat) (l:dY),main[p]?=some l->p≠q->l.i≠d.i:=λp l m hs he=>hs (S.Vh p q l d m z he)
 have hx:T<=q:=by
  rcases jF q T with A|A
  .have:=h.done q d z A (I8 V);rw[Z]at this;cases this
  exact A
 simp only[zj,aL,bU]at h9;obtain⟨⟨⟨⟨hd,N⟩,hy⟩,_⟩,_⟩:=h9;have hM:∀x,MP M main (listed.setIfInBounds d.i true) T (λp=>if p=q then w.heap.size else gE p) x↔MP M main listed T gE x∨x=w.heap.size:=λx=>by
  constructor
  .rintro(hm|⟨p,l,A,B,O,H,y⟩)
   .exact .inl (.inl hm)
   have y:(if p=q then w.heap.size else gE p)=x:=y;by_cases f:p=q
   .subst f;rw[au rfl]at y;exact .inr y.symm
   rw[ar f]at y;rw[c,ar (g p l B f)]at H;exact .inl (.inr ⟨p,l,A,B,O,H,y⟩)
  rintro((hm|⟨p,l,A,B,O,H,y⟩)|rfl)
  .exact .inl hm
  .have f:p≠q:=by rintro rfl;rw[z]at B;cases B;rw[Z]at H;cases H
   exact .inr ⟨p,l,A,B,O,by rw[c,ar (g p l B f)];exact H,by simp only[ar f];exact y⟩
  exact .inr ⟨q,d,hx,z,V,by rw[c,au rfl],by simp⟩
 obtain⟨r1,r2⟩:=h.rel.unknown hM (.cells cs E);have D:Ext (MP M main listed T gE) β (ss T) w β (ss T) {w with heap:=w.heap.push (.cells cs E)}:=Ext.push h.rel.mlt β (ss T) _;refine⟨h.mlt,by simp[h.I7],λi o W I k u=>?_,λi hz=>?_,h.PF,λp l m r u=>?_,λp l m r u=>?_,r1,?_,λp l m r u I=>?_,λp p' d1 d2 A B O H y h6 h7 h8 X=>?_,λt v G hv=>?_,(tc _ _).trans h.size,(pg _ _).trans h.defers,λt G W=>(wH hy G W).trans (h.same t G W)⟩
 .rw[c]
  split
  .rfl
  rw[c]at I;by_cases hid:i=d.i
  .subst hid;rw[hj]at W;cases W;exact J k u
  rw[ar hid]at I;exact h.closed i o W I k u
 .rw[c,ar (by omega)];exact h.HM i hz
 .rw[c]
  split
  .rfl
  exact h.done p l m r u
 .have f:p≠q:=by
   rintro rfl
   rw[z]at m;cases m;unfold kA at V;unfold kE at u;cases k0:d.k<;>simp only[k0]at V u<;>first|(cases V;done)|(cases u;done)
  rw[c,ar (g p l m f)];exact h.todo p l m r u
 .exact h.ext.through D (λb X=>.inl X) h.new
 .by_cases f:p=q
  .subst f;rw[z]at m;cases m;refine⟨by simp only[bp];exact h.ext.keeps.size,⟨cs,E,?_,hr⟩,λt G=>?_⟩
   .simp only[bp];show(w.heap.push _)[w.heap.size]?=_;simp
   simp only[bp];rw[hd]at G;rw[G];have k1:t<a.tmps.size:=by rw[G]at N;simp only[T5,bY]at N;rw[h.size,hg];exact N
   simp[Act.put,fM,k1]
  rw[c,ar (g p l m f)]at I;obtain⟨a1,⟨ha,E',a2,a3⟩,a4⟩:=h.wc p l m r u I;simp only[ar f];refine⟨a1,⟨ha,E',?_,a3⟩,λt G=>?_⟩
  .rw[gN w _ (lt_of_block a2)];exact a2
  rw[qc (by rw[<-hd];exact λe=>f (S.dst p q l d t m z G e))];exact a4 t G
 .have key:∀(p:Nat) (l:dY),main[p]?=some l->T<=p->kA l=true->(listed.setIfInBounds d.i true).getD l.i false=true->p≠q->gE p<w.heap.size/\listed.getD l.i false=true:=λp l m r u I f=>by rw[c,ar (g p l m f)]at I;obtain⟨a1,⟨ha,E',a2,a3⟩,a4⟩:=h.wc p l m r u I;exact⟨lt_of_block a2,I⟩
  by_cases e1:p=q
  .by_cases Y:p'=q
   .omega
   have:=(key p' d2 B H h6 h8 Y).1;simp only[au e1,ar Y]at X;omega
  by_cases Y:p'=q
  .have:=(key p d1 A O y h7 e1).1;simp only[ar e1,au Y]at X;omega
  simp only[ar e1,ar Y]at X;exact h.inj p p' d1 d2 A B O H y h6 (key p d1 A O y h7 e1).2 (key p' d2 B H h6 h8 Y).2 X
 have L:d.o.d≠some t:=λL=>by have:=(hv q d z L).2 V;omega
 rw[qc (by rw[<-hd];exact L)];refine(h.env t v G λp l m hf=>?_).keep (Bt.le_refl _) r2 D.keeps;obtain⟨b1,b2⟩:=hv p l m hf;have f:p≠q:=by rintro rfl;rw[z]at m;cases m;exact L hf
 rw[c,ar (g p l m f)]at b1;exact⟨b1,b2⟩
end draw
def En.only(p:aG):En->En
 |.nil=>.nil
 |.cons n v r=>open Classical in if p n then .cons n v (r.only p)else r.only p
def qd(p:aG)(t:Nat):∀e:En,(p t->look (e.only p) t=look e t)/\(¬p t->look (e.only p) t=none)
 |.nil=>⟨λ_=>rfl,λ_=>rfl⟩
 |.cons n v r=>by
  obtain⟨d,f⟩:=qd p t r;unfold En.only;by_cases c:p n
  .rw[au c];simp only[ei];refine⟨λb=>?_,λb=>?_⟩
   .rw[d b]
   rw[f b,ar (λe:n=t=>b (e▸c))]
  rw[ar c];simp only[ei];refine⟨λb=>?_,λb=>f b⟩;rw[ar (λe:n=t=>c (e▸b))];exact d b
section draw
variable{M:aG}{C:eR}{P:Program}{nt:Nat}{keep outs:az}{goops:Array Oper}{main:List dY}{cy:List aR}{ih:Task->Out}{es:Nat->En}{ss:Nat->HS}{vv:Nat->HV}{nH:List HS}
 {β0:Bt}{s0:HS}{e0:En}{a0:Act}{w0:World}
def N2(hi:hU C P ih)(S:Stat P nt keep outs goops main cy ih es ss vv nH)(E:bL)(W:a0.tmps.size=nt){K:En->HS->Out}{x:Ex}{X:En}{s2:HS}{Q:Exit->Act->World->Prop}
  (fin:∀β e a s w,K e s=.code x X s2->Gh M C keep outs E β0 s0 e0 a0 w0 β s e a w->Q .normal a w):
  ∀(fuel k:Nat) (listed:Array Bool) (β:Bt) (s:HS) (e:En) (a:Act) (w:World),cy.length-k<=fuel->k<=cy.length->listed.size=goops.size->(∀i,i<goops.size->(listed.getD i false=true↔i<main.length+k))->
   rK P nt keep outs goops (cy.drop k) (goops.toList.drop (main.length+k))=true->mq ih K (cy.drop k) e s=.code x X s2->Gh M C keep outs E β0 s0 e0 a0 w0 β s e a w->
   wpAnyIn (FW E) 0 P .any goops Q fuel listed a w:=by
 have h6:=S.sz;have f:∀(k:Nat) (listed:Array Bool),k<=cy.length->listed.size=goops.size->(∀i,i<goops.size->(listed.getD i false=true↔i<main.length+k))->∀i,i∈Region.ready .any goops listed↔i=main.length+k/\k<cy.length:=by
  intro k listed r c m i;rw[tn c];constructor
  .rintro⟨o,ho,O,V⟩
   have d:i<goops.size:=(rL.1 ho).1;have Y:main.length+k<=i:=by
    rcases jF i (main.length+k)with h|h
    .rw[(m i d).2 h]at O;cases O
    exact h
   have p:k<cy.length:=by omega
   refine⟨?_,p⟩;rcases qO Y with h|h
   .exact h.symm
   have hD:∀i o,goops[i]?=some o->listed.getD i false=true->∀j∈fg o,listed.getD j false=true:=by intro Z o' G H j I;have t:Z<goops.size:=(rL.1 G).1;have l:=S.T9;simp only[ll,fG,fX]at l;have:=l Z t;rw[G]at this;simp only[fG,bY]at this;have J:=this j I;exact(m j (by omega)).2 (by have:=(m Z t).1 H;omega)
   have:=tj S.T9 (D:=λj=>listed.getD j false=true) hD i o ho V (main.length+k) (by
    obtain⟨k',rfl⟩:∃k',i=main.length+k':=⟨i-main.length,by omega⟩;exact S.tcl k' (by omega) (main.length+k) (by omega))
   have:=(m _ (by omega)).1 this;omega
  rintro⟨rfl,p⟩
  have d:main.length+k<goops.size:=by omega
  refine⟨goops[main.length+k],fW d,?_,λj I=>?_⟩
  .cases hc:listed.getD (main.length+k) false with|false=>rfl|true=>have:=(m _ d).1 hc;omega
  have l:=S.T9;simp only[ll,fG,fX]at l;have:=l _ d;rw[fW d]at this;simp only[fG,bY]at this;have J:=this j I;exact(m j (by omega)).2 J
 have y:∀(k:Nat) (listed:Array Bool) (β:Bt) (s:HS) (e:En) (a:Act) (w:World),k<=cy.length->listed.size=goops.size->(∀i,i<goops.size->(listed.getD i false=true↔i<main.length+k))->
   mq ih K (cy.drop k) e s=.code x X s2->Gh M C keep outs E β0 s0 e0 a0 w0 β s e a w->Region.ready .any goops listed=[]->Q .normal a w:=by
  intro k listed β s e a w r c m b g hr;have:k=cy.length:=by
   rcases qO r with h|h
   .exact h
   have:=(f k listed r c m (main.length+k)).2 ⟨rfl,h⟩;rw[hr]at this;cases this
  rw[this,Jb]at b;exact fin β e a s w b g
 intro fuel
 induction fuel with
 |zero=>
  intro k listed β s e a w hf r c m _ b g;have z:Region.ready .any goops listed=[]:=by apply List.eq_nil_iff_forall_not_mem.2;intro i A;have:=(f k listed r c m i).1 A;omega
  exact⟨z,y k listed β s e a w r c m b g z⟩
 |succ fuel h3=>
  intro k listed β s e a w hf r c m q b g;refine⟨y k listed β s e a w r c m b g,λi A=>?_⟩;obtain⟨rfl,p⟩:=(f k listed r c m i).1 A;have d:main.length+k<goops.toList.length:=by simp;omega
  rw[uv p]at b;rw[uv p,uv d]at q;simp only[rK,aL]at q;obtain⟨B,q⟩:=q;have L:goops[main.length+k]?=some goops.toList[main.length+k]:=by rw[<-Array.getElem?_toList];exact aX d
  generalize goops.toList[main.length+k]=go at B L;simp only[zj,aL,bU]at B;obtain⟨⟨⟨⟨hd,h4⟩,h5⟩,dA⟩,hg⟩:=B;obtain⟨v,s',O,V⟩:=wF (K:=mq ih K (cy.drop (k+1))) b;unfold wpOpIn;simp only[L];refine pc hi E (goops:=goops) dA hg g.rel g.fix g.env O (Q:=Q) λβ' u w' r1 r2 r3=>?_
  rw[hd]at V;have N:main.length+k<listed.size:=by rw[c];simpa using d
  refine h3 (k+1) _ β' s' _ _ w' (by omega) (by omega) (by simp[c]) (λj I=>?_) (by rw[<-Nat.add_assoc];exact q) V (g.step W h4 h5 r1 r2 r3);rw[jO N]
  split
  .rename_i e;subst e;exact⟨λ_=>by omega,λ_=>rfl⟩
  rename_i h7;rw[m j I];omega
def Stat.Py(S:Stat P nt keep outs goops main cy ih es ss vv nH):∀p,p<=main.length->∀t,(look (es 0) t).isSome=true->(look (es p) t).isSome=true
 |0,_,_,h=>h
 |p+1,c,t,h=>by
  have b:=aX (show p<main.length by omega);rw[(S.step p _ b).2,oL]
  split
  .rfl
  exact S.Py p (by omega) t h
def Vm(hi:hU C P ih)(S:Stat P nt keep outs goops main cy ih es ss vv nH)(ro:bL)(W:a0.tmps.size=nt)(h7:jG C (Live M s0 β0) w0)(ke:es 0=e0){K:En->HS->Out}{x:Ex}{e2:En}{s2:HS}{Q:Exit->Act->World->Prop}
  (fin:∀β e a s w,K e s=.code x e2 s2->Gh M C keep outs ro β0 s0 e0 a0 w0 β s e a w->Q .normal a w)(k4:mq ih K cy (es main.length) (ss main.length)=.code x e2 s2):
  ∀(fuel:Nat) (z:az) (listed:Array Bool) (T:Nat) (gE:Nat->Nat) (β:Bt) (a:Act) (w:World),z.length+cy.length<=fuel->(∀i,i<main.length->listed.getD i false=false->i∈z)->
   zp M C goops main keep outs (es main.length) ss β0 s0 a0 w0 listed T gE β a w->wpAnyIn (FW ro) 0 P .any goops Q fuel listed a w:=by
 have kz:=S.sz;intro fuel
 induction fuel with
 |zero=>
  intro z listed T gE β a w hf B h;have hr:z=[]:=ja (by omega);obtain⟨g,β1,f,X⟩:=zp.vC S (main.length-T) T β (by have:=h.PF;omega) h;have m:∀i,i<main.length->listed.getD i false=true:=λi h8=>by
   cases O:listed.getD i false with
   |true=>rfl
   |false=>have:=B i h8 O;rw[hr]at this;cases this
  have hT:g=main.length:=by
   rcases X with A|⟨d,A,_,l⟩
   .exact A
   rw[m d.i (S.lt g d A)]at l;cases l
  subst hT;have kc:MP M main listed main.length gE=M:=by
   funext b
   refine propext ⟨?_,.inl⟩
   rintro(hm|⟨p,d,A,l,_⟩)
   .exact hm
   have:=(aU.1 l).1;omega
  have H:=f.rel;have I:=f.env;rw[kc]at H I;refine N2 hi S ro W fin 0 0 listed β1 (ss main.length) (es main.length) a w (by omega) (fN _) f.I7 (λi _=>⟨λO=>?_,λO=>m i (by omega)⟩) S.trl k4 ⟨H,h7.ext f.ext,λt v G=>I t v G λp d hp _=>⟨m d.i (S.lt p d hp),λ_=>(aU.1 hp).1⟩,f.ext,f.size,f.defers,f.same,λt G=>S.Py main.length (aV _) t (ke▸G)⟩;rcases jF i main.length with A|A
  .omega
  rw[f.HM i A]at O;cases O
 |succ fuel k0=>
  intro z listed T gE β a w hf B h;by_cases m:∀i,i<main.length->listed.getD i false=true
  .obtain⟨g,β1,f,X⟩:=zp.vC S (main.length-T) T β (by have:=h.PF;omega) h;have hT:g=main.length:=by
    rcases X with A|⟨d,A,_,l⟩
    .exact A
    rw[m d.i (S.lt g d A)]at l;cases l
   subst hT;have kc:MP M main listed main.length gE=M:=by
    funext b
    refine propext ⟨?_,.inl⟩
    rintro(hm|⟨p,d,A,l,_⟩)
    .exact hm
    have:=(aU.1 l).1;omega
   have H:=f.rel;have I:=f.env;rw[kc]at H I;refine N2 hi S ro W fin (fuel+1) 0 listed β1 (ss main.length) (es main.length) a w (by omega) (fN _) f.I7 (λi _=>⟨λO=>?_,λO=>m i (by omega)⟩) S.trl k4 ⟨H,h7.ext f.ext,λt v G=>I t v G λp d hp _=>⟨m d.i (S.lt p d hp),λ_=>(aU.1 hp).1⟩,f.ext,f.size,f.defers,f.same,λt G=>S.Py main.length (aV _) t (ke▸G)⟩;rcases jF i main.length with A|A
   .omega
   rw[f.HM i A]at O;cases O
  
  have k5:=S.T9;simp only[ll,fG,fX]at k5;have kl:∃i,i<main.length/\listed.getD i false=false/\∀j,j<i->listed.getD j false=true:=by
   have kd:∃i,i<main.length/\listed.getD i false=false:=by
    apply A3;intro km;refine m λi h8=>?_
    cases O:listed.getD i false with|true=>rfl|false=>exact absurd ⟨i,h8,O⟩ km
   obtain⟨i0,kg,h9⟩:=kd
   induction i0 using Nat.strongRecOn with
   |_ i0 kn=>
    by_cases k6:∃j,j<i0/\listed.getD j false=false
    .obtain⟨j,hj,Y⟩:=k6;exact kn j hj (by omega) Y
    refine⟨i0,kg,h9,λj hj=>?_⟩;cases O:listed.getD j false with|true=>rfl|false=>exact absurd ⟨j,hj,O⟩ k6
  obtain⟨i0,kg,h9,k1⟩:=kl;have k7:i0∈Region.ready .any goops listed:=by
   rw[tn h.I7];have k2:i0<goops.size:=by omega
   refine⟨goops[i0],fW k2,h9,λk V=>k1 k ?_⟩;have:=k5 i0 k2;rw[fW k2]at this;simp only[fG,bY]at this;exact this k V
  refine⟨λki=>(by rw[ki]at k7;cases k7),λi h8=>?_⟩;obtain⟨go,J,ho,L⟩:=(tn h.I7).1 h8;have hs:∀j,rW (mh goops) i j=true->listed.getD j false=true:=tj S.T9 (D:=λj=>listed.getD j false=true) h.closed i go J L;have k8:i<main.length:=by
   rcases jF i main.length with f|f
   .exact f
   have k2:i<goops.size:=(rL.1 J).1;obtain⟨k',rfl⟩:∃k',i=main.length+k':=⟨i-main.length,by omega⟩;rw[hs i0 (S.tcl k' (by omega) i0 (by omega))]at h9;cases h9
  obtain⟨q,d,Z,rfl⟩:=S.aau i k8;obtain⟨g,β1,f,X⟩:=zp.vC S (main.length-T) T β (by have:=h.PF;omega) h;obtain⟨x0,k9,hx⟩:=S.op q d Z;rw[J]at k9;cases k9;have ka:=hx;simp only[zj,aL,bU]at ka;obtain⟨⟨⟨⟨hd,x1⟩,x2⟩,dA⟩,hg⟩:=ka;have kb:=B d.i k8 ho;have r:∀j,j<main.length->(listed.setIfInBounds d.i true).getD j false=false->j∈z.erase d.i:=λj hj Y=>by
   rw[jO (by rw[h.I7];omega)]at Y
   split at Y
   .cases Y
   rename_i kd;exact(List.mem_erase_of_ne kd).2 (B j hj Y)
  have hlen:(z.erase d.i).length+cy.length<=fuel:=by rw[List.length_erase_of_mem kb];have:=List.length_pos_of_mem kb;omega
  unfold wpOpIn;simp only[J];have kj:∀(p:Nat) (b:dY),main[p]?=some b->(∀(p':Nat) (c:dY),main[p']?=some c->p'<=p->rE c=true->listed.getD c.i false=true)->p<g:=λp b hp hle=>by
   rcases jF p g with A|A
   .exact A
   rcases X with l|⟨c,l,h4,h5⟩
   .have:=(aU.1 hp).1;omega
   rw[hle g c l A h4]at h5;cases h5
  have hvalid:∀t∈ZH d.o,CW main listed g t:=λt G p b hp hb=>by obtain⟨g1,g2,g3⟩:=S.CX Z G hp hb;exact⟨hs _ g2,λV=>kj p b hp λp' c ko hle hc=>hs _ (g3 V p' c ko hle hc)⟩
  have he:dN β1 (Live (MP M main listed g gE) (ss g) β1) w ((es main.length).only (CW main listed g)) a:=λt v G=>by
   by_cases hv:CW main listed g t
   .rw[(qd _ t _).1 hv]at G;exact f.env t v G hv
   rw[(qd _ t _).2 hv]at G;cases G
  have hy:∀s,lH ih d.o ((es main.length).only (CW main listed g)) s=lH ih d.o (es main.length) s:=λs=>wI (λt G=>(qd _ t _).1 (hvalid t G)) s
  rcases S.kind Z with⟨V,hr⟩|⟨lo,kp,V,O,kq,kr⟩|⟨V,ha,ks,t,x3⟩|⟨V,kt⟩
  .have hA:kA d=false:=by simp[kA,V]
   have hE:kE d=false:=by simp[kE,V]
   refine pc hi ro (goops:=goops) dA hg f.rel (f.fixed h7) he ((hy _).trans (S.Vi Z hr (ss g))) (Q:=Q) λβ' u w' r1 r2 r3=>?_
   exact k0 _ _ g gE β' _ w' hlen r (f.Ja S W Z hA J hx L (.inr ⟨hE,rfl⟩) r1 r2 r3)
  .have hA:kA d=false:=by simp[kA,V]
   have hE:kE d=false:=by simp[kE,V]
   have ku:lo<=ea main g:=by
    rcases kq with A|⟨p,b,g1,g2,g3,g4⟩
    .omega
    have k3:=hs _ g3;have:p<g:=by
     rcases jF p g with l|l
     .exact l
     rw[f.todo p b g1 l g2]at k3;cases k3
    have:=rX main (show p+1<=g by omega);omega
   have kv:ea main g<=kp:=by
    rcases kr with A|⟨p,b,g1,g2,g3,g4⟩
    .have:=rX main f.PF;omega
    have:g<=p:=by
     rcases jF p g with l|l
     .have k3:=f.done p b g1 l (EH g2);obtain⟨gb,kk,_⟩:=S.op p b g1;have:=tj S.T9 (D:=λj=>listed.getD j false=true) h.closed b.i gb kk (h.closed b.i gb kk k3) d.i g3;rw[ho]at this;cases this
     exact l
    have:=rX main this;omega
   refine pc hi ro (goops:=goops) dA hg f.rel (f.fixed h7) he ((hy _).trans (S.Vj Z V O f.PF ku kv)) (Q:=Q) λβ' u w' r1 r2 r3=>?_
   exact k0 _ _ g gE β' _ w' hlen r (f.Ja S W Z hA J hx L (.inr ⟨hE,rfl⟩) r1 r2 r3)
  .have hA:kA d=true:=by simp[kA,V]
   obtain⟨cs,kx,hz⟩:=Vf (P:=P) ha dA;obtain⟨E,hz⟩:=hz a w;have hw:Region.wanted go (yielded goops a.tmps)=true:=ag4 (e:=.nil) (β:=β1) (w:=w) (N:=λ_=>False) hg (λt v G=>by cases G) (by rw[ks];rfl);rw[hw,au rfl];refine⟨λ_ _=>trivial,?_⟩;rw[Oper.semAt_eq _ _ _ (ux dA (λhb=>by rw[hb]at ha;cases ha) (λy hb=>by rw[hb]at ha;cases ha)),hz];exact k0 _ _ g _ β1 _ _ hlen r (f.bH S W Z ho hA J hx L kx)
  have hA:kA d=false:=by simp[kA,V]
  have hE:kE d=true:=by simp[kE,V]
  have ky:g=q:=by
   have hle:g<=q:=by
    rcases jF q g with l|l
    .rw[f.done q d Z l (EH hE)]at ho;cases ho
    exact l
   rcases qO hle with l|l
   .exact l
   rcases X with h4|⟨c,h4,h5,h6⟩
   .have:=(aU.1 Z).1;omega
   rw[hs _ (kt g c h4 l h5)]at h6;cases h6
  subst ky;refine pc hi ro (goops:=goops) dA hg f.rel (f.fixed h7) he ((hy _).trans (S.Vk Z)) (Q:=Q) λβ' u w' r1 r2 r3=>?_
  exact k0 _ _ (g+1) gE β' _ w' hlen r (f.Ja S W Z hA J hx L (.inl ⟨hE,rfl,rfl⟩) r1 r2 r3)
def HO(E:hU C P ih)(G:P.follows .mixedOrders=true){id:Nat}(O:Lu P nt keep outs goops main cy=true)(u:Ht outs keep=true){e:En}{s:HS}{x:Ex}{e':En}{s':HS}
  (h:NV ih outs main cy e s=.code x e' s'):mD C P nt keep (.region id goops true) e s x e' s':=by
 intro M V lo β a w l;obtain⟨es,ss,vv,nH,J,A,B,W,X,Y⟩:=HL _ _ _ _ h;cases m:bV (es main.length) nH main with
 |false=>rw[m]at B;cases B
 |true=>
  rw[m]at B;have S:Stat P nt keep outs goops main cy ih es ss vv nH:=Stat.mk' O W (by rw[X 0 (by simp),<-A];rfl) (λp d D Z=>Y p d D Z) m;have gP:({w with drawn:=w.drawn+1}:World).heap=w.heap:=rfl;have f:=l.rel.drawn gP;have j:Ext M β s w β s {w with drawn:=w.drawn+1}:=Ext.drawn gP rfl rfl rfl;have g:=l.later f j;have h1:=S.sz;refine wpIn_region_any G ?_;have H:∀(F:Fence) (fuel:Nat) (listed:Array Bool) (a:Act) (w:World),True:=λ_ _ _ _ _=>trivial
  refine Vm E S V (β0:=β) (s0:=s) (e0:=e) (a0:=a) (w0:={w with drawn:=w.drawn+1}) (M:=M) (keep:=keep) (outs:=outs) l.size g.fix J
   (K:=λe' I=>.code .normal (ic outs e' e) I) (λβ' e1 a' s1 w' hK y=>?_) B goops.size (List.range main.length) _ 0 (λ_=>0) β a _ (by simp;omega) (λi E _=>by simpa using E) ?_
  .cases hK;exact⟨rfl,β',y.done g u,j.trans y.ext⟩
  have c:∀i,(Array.replicate goops.size false).getD i false=false:=λi=>by
   simp only[fM,Array.getElem?_replicate]
   split<;>rfl
  have z:MP M main (Array.replicate goops.size false) 0 (λ_=>0)=M:=by
   funext b
   refine propext ⟨?_,.inl⟩
   rintro(G|⟨p,d,_,_,_,L,_⟩)
   .exact G
   rw[c]at L;cases L
  refine⟨λb hb=>f.mlt b hb,by simp,λi o ho k=>?_,λi _=>c i,fN _,λp d _ D=>by omega,λp d D _ _=>c _,?_,?_,λp d D _ _ k=>?_,λp q d d' _ _ _ _ _ _ k=>?_,λt v N hv=>?_,rfl,rfl,λ_ _ _=>rfl⟩
  .rw[c]at k;cases k
  .rw[z,A];exact f
  .rw[A];exact Ext.refl _ _ _
  .rw[c]at k;cases k
  .rw[c]at k;cases k
  rw[z,A];rw[S.qb main.length 0 (by omega) (λr d _ hr hd=>by have:=(hv r d hr hd).1;rw[c]at this;cases this),J]at N;exact(g.env t v N).2
end draw
def HR.vj{β:Bt}{N:aG}{w w':World}(x:∀b k v,du w b k=some v->du w' b k=some v)(O:∀b E n,oO w b E n->oO w' b E n)(y:w.heap.size<=w'.heap.size){v:HV}{u:Value}(h:HR β N w v u):HR β N w' v u:=by induction h with|int k n=>exact .int k n|bool b=>exact .bool b|str s=>exact .str s|ah=>exact .ah|dE=>exact .dE|gY=>exact .gY|fS=>exact .fS|fU=>exact .fU|undef=>exact .undef|ptr o k pl h z=>exact .ptr o k pl h z|sl o c len q cap n pl h y V W x=>exact .sl o c len q cap n pl h y V (let⟨E,X⟩:=W;⟨E,O _ _ _ X⟩) x|pY o c q b k=>exact .pY o c q b k|mp o pl h=>exact .mp o pl h|fn f Y Z fs B r h2 _ _ D G=>exact .fn f Y Z fs B r h2 D G|iK l pl h=>exact .iK l pl h|agg l H h0 r _ ih=>exact .agg l H h0 r ih|cO l H r _ ih=>exact .cO l H r ih|psl0 A cap hn=>exact .psl0 A cap hn|psl I b o cap q g d m t J h0 p hv ih=>exact .psl I b o cap q g d (dJ m y) t J h0 (λi j hi L=>x _ _ _ (p i j hi L)) ih|aw cells b o g h0 d m p hv ih=>exact .aw cells b o g h0 d (dJ m y) (λj L=>x _ _ _ (p j L)) ih
def tw{w:World}{b:Nat}{o o':Obj}(h:w.heap[b]?=some o)(f:jK o=true)(x k:Nat)(v:Value)(c:du w x k=some v):du (dG w b o') x k=some v:=by
 by_cases d:x=b
 .subst d;simp only[du,World.cell?,h]at c;cases o<;>first|(cases f;done)|(cases c;done)
 rw[nk (bP w o' d)];exact c
section dead
variable{M:aG}{C:eR}{β:Bt}{s:HS}{w:World}
def nm.vj{N:aG}{w':World}(d:∀b k v,du w b k=some v->du w' b k=some v)(f:∀b E n,oO w b E n->oO w' b E n)(g:w.heap.size<=w'.heap.size){keep:az}{e:En}{tm:Array Value}(h:nm β N w keep e tm):nm β N w' keep e tm:=
 λt v c=>⟨(h t v c).1,(h t v c).2.vj d f g⟩
def bW.qe(h:bW M C β s w){b:Nat}{o o':Obj}(W:w.heap[b]?=some o)(X:jK o=true)(B:¬iO s β b):bW M C β s (dG w b o'):=by
 have A:=λx k v=>tw (o':=o') W X x k v
 have j:=λx E n=>jq (o':=o') W X x E n
 have c:(dG w b o').heap.size=w.heap.size:=by simp[dG]
 refine⟨λo pl f=>by rw[c];exact h.lt o pl f,λY ob f=>?_,h.apart,h.qK,h.vg,λx hx=>by rw[c];exact h.mlt x hx,h.sO,λo E n f=>let⟨pl,g1,⟨m,g2,g3⟩,g4⟩:=h.zl o E n f;⟨pl,g1,⟨m,j _ _ _ g2,g3⟩,g4⟩⟩;obtain⟨pl,Z,h3⟩:=h.obj Y ob f;have D:pl.b≠b:=λe=>B ⟨Y,ob,pl,f,Z,e⟩
 have d:(dG w b o').heap[pl.b]?=w.heap[pl.b]?:=bP w o' D;refine⟨pl,Z,?_⟩;cases h3 with|cells t lo G g cs E fr l p y H I=>exact .cells t lo G g cs E fr l (d.trans p) y H λk v b1 b2 b3=>let⟨q,u,J,L⟩:=I k v b1 b2 b3;⟨q,u,J,L.vj A j (pn c.symm)⟩|mp es N l p y=>exact .mp es N (d.trans l) p λi k v G=>let⟨e,J,L,c3,c4⟩:=y i k v G;⟨e,J,L.vj A j (pn c.symm),c3.vj A j (pn c.symm),c4⟩|loop st z tm ps O body r nt keep l p y H I a6 a7 a8 a9 V=>exact .loop st z tm ps O body r nt keep (d.trans l) p y (H.vj A j (pn c.symm)) I a6 a7 a8 a9 V
def Ext.qe{β0:Bt}{s0:HS}{w0:World}(h:Ext M β0 s0 w0 β s w){b:Nat}{o o':Obj}(hb:w.heap[b]?=some o)(f:jK o=true)(c:w0.heap.size<=b)(hm:∀x,M x->x<w0.heap.size):Ext M β0 s0 w0 β s (dG w b o') where
 le:=h.le
 keeps:=⟨by simp only[dG,PK];exact h.keeps.size,λx hx g=>(bP w o' (by omega)).trans (h.keeps.same x hx g),λx E n i=>jq hb f x E n (h.keeps.has x E n i)⟩
 less:=h.less
 os:=h.os
 tape:=h.tape
 output:=h.output
 loops:=λx r d=>by obtain⟨r',j⟩:=h.loops x r d;have hx:x<w0.heap.size:=lt_of_block d;exact⟨r',(bP w o' (by omega)).trans j⟩
 nx:=h.nx
 oP:=λx hx=>(bP w o' (by have:=hm x hx;omega)).trans (h.oP x hx)
end dead
def rZ:HC->Bool
 |.K8 _=>true
 |.OB _ _ _=>true
 |.gh _=>true
 |_=>false
def et(P:Program)(nt:Nat)(keep:az):HC->Code->Bool
 |.skip,.skip=>true
 |.ret,.ret=>true
 |.exit i,.exit j=>i==j
 |.seq a b,c=>bif rZ a then et P nt keep b c else(match c with|.seq x y=>et P nt keep a x&&et P nt keep b y|_=>false)
 |.cond c a b,.cond d x y=>cW c d&&et P nt keep a x&&et P nt keep b y
 |.block i c,.block j d=>i==j&&et P nt keep c d
 |.loop c,.loop d=>et P nt keep c d
 |.rg outs l,.region _ goops false=>rK P nt keep outs goops l goops.toList&&Ht outs keep
 |.Li outs main cy,.region _ goops true=>Lu P nt keep outs goops main cy&&Ht outs keep
 |.rf x h k body,.rangeFunc g params assign f=>cW x g&&params.toList==h&&h.all (λp=>keep.contains p&&decide (p<nt))&&tp h&&et P nt keep k assign&&et P nt keep body f
 |_,_=>false
def CY(P:Program)(nt:Nat)(keep:az)(c d:HC)(code:Code):et P nt keep (.seq c d) code=bif rZ c then et P nt keep d code else(match code with|.seq x y=>et P nt keep c x&&et P nt keep d y|_=>false):=by cases code<;>simp[et]
def CR(fx:Nat->Option Obj)(P:Program):eR:=⟨λnt keep c code=>et P nt keep c code=true,fx⟩
section rules
variable{F:Fence}{n:Nat}{P:Program}{Q:Exit->Act->World->Prop}{a:Act}{w:World}
def uA{c:Code}(h:c.wpIn F n P (Exit.then (λa w=>nB F n P c Q a w) Q) a w):nB F n P c Q a w:=by intro b k r i o p;obtain⟨e,j,m,g,d⟩:=h b (.inLoop c::k) r i o p;cases e with|normal=>obtain⟨t,u,v,q,f⟩:=g b k r i o p;exact⟨t,u,v,q,.of_steps (StepsIn.trans d (.one (fenced_calm o p rfl) stepR_inLoop)) f⟩|exit id=>exact⟨_,j,m,g,.pass (x:=.inLoop c) rfl (λ_ _=>.inl (by simp)) d⟩|goto l=>exact⟨_,j,m,g,.pass (x:=.inLoop c) rfl (λ_ _=>.inl (by simp)) d⟩|ret=>exact⟨_,j,m,g,.pass (x:=.inLoop c) rfl (λ_ _=>.inl (by simp)) d⟩|panic y=>exact⟨_,j,m,g,.pass (x:=.inLoop c) rfl (λ_ _=>.inl (by simp)) d⟩|outgrown=>exact⟨_,j,m,g,.pass (x:=.inLoop c) rfl (λ_ _=>.inl (by simp)) d⟩
def uB{c:Code}(h:nB F n P c Q a w):(Code.loop c).wpIn F n P Q a w:=by intro b k j f g i;obtain⟨e,l,m,o,d⟩:=h b k j f g i;exact⟨e,l,m,o,.of_steps (.one (fenced_calm g i rfl) stepR_loop) d⟩
def nB.mono{c:Code}{f:Exit->Act->World->Prop}(h:nB F n P c Q a w)(g:∀e a w,Q e a w->f e a w):nB F n P c f a w:=
 λb k i d j l=>let⟨e,m,o,q,r⟩:=h b k i d j l;⟨e,m,o,g _ _ _ q,r⟩
end rules
def EC.after{M:aG}{C:eR}{nt:Nat}{keep:az}{b:bL}{c:Nat}{β d:Bt}{s s1:HS}{w w1:World}{x:Ex}{e':En}{s':HS}{f:Exit}{g:Act}{w':World}(i:Ext M β s w d s1 w1)(h:EC M C nt keep b c d s1 w1 x e' s' f g w'):EC M C nt keep b c β s w x e' s' f g w':=
 let⟨j,k,l,m⟩:=h;⟨j,k,l,i.trans m⟩
def eD{o:Out}{f:En->HS->Out}{x:Ex}{e':En}{s':HS}(h:o.cA f=.code x e' s'):(∃b s1,o=.code .normal b s1/\f b s1=.code x e' s')∨(o=.code x e' s'/\x≠ .normal):=by
 cases o with
 |val=>cases h
 |bad=>cases h
 |code y b s1=>
  cases y with
  |normal=>exact .inl ⟨b,s1,rfl,h⟩
  |ret=>cases h;exact .inr ⟨rfl,by simp⟩
  |exit i=>cases h;exact .inr ⟨rfl,by simp⟩
section code
variable{fx:Nat->Option Obj}{P:Program}{nt:Nat}{keep:az}{ih:Task->Out}
def mD.then{x:Code}{e:En}{s:HS}{z:Ex}{g:En}{s1:HS}(h:mD (CR fx P) P nt keep x e s z g s1){Q:Exit->Act->World->Prop}{M:aG}{d:bL}{f:Nat}{β:Bt}{a:Act}{w:World}(j:At M (CR fx P) nt keep d f β s e a w)
  {K:Act->World->Prop}(p:z=.normal->∀c b w',At M (CR fx P) nt keep d f c s1 g b w'->Ext M β s w c s1 w'->K b w')(o:z≠ .normal->∀b w',EC M (CR fx P) nt keep d f β s w z g s1 z.to b w'->Q z.to b w'):
  x.wpIn (FW d) 0 P (Exit.then K Q) a w:=by
 refine wpIn_mono (h M d f β a w j) ?_;intro q b w' k;obtain⟨rfl,c,l,m⟩:=k;cases z with|normal=>exact p rfl c b w' l m|ret=>exact o (by simp) b w' ⟨rfl,c,l,m⟩|exit i=>exact o (by simp) b w' ⟨rfl,c,l,m⟩
end code
def iS:∀{l:ai},cI l=true->∀v∈l,cm v=true
 |[],_,v,b=>by cases b
 |x::r,h,v,b=>by
  simp only[cI,aL]at h;rcases bk.1 b with rfl|b
  .exact h.1
  exact iS h.2 v b
def wP:∀{l:aP},iA l=true->∀v∈l,cI v=true
 |[],_,v,b=>by cases b
 |x::r,h,v,b=>by
  simp only[iA,aL]at h;rcases bk.1 b with rfl|b
  .exact h.1
  exact wP h.2 v b
mutual
def CZ:∀(v:HV),eo v=true->cm v=true
 |.fn _ a b,h=>by simp only[eo,aL]at h;simp only[cm,dU a h.1,dU b h.2,jL]
 |.agg l,h=>by simp only[eo]at h;simp only[cm,dU l h]
 |.cO l,h=>by simp only[eo]at h;simp only[cm,dU l h]
 |.aw l,h=>by simp only[eo]at h;simp only[cm,dU l h]
 |.psl l,h=>by simp only[eo]at h;simp only[cm,gF l h]
 |.int _ _,_=>rfl
 |.bool _,_=>rfl
 |.str _,_=>rfl
 |.ah,_=>rfl
 |.dE,_=>rfl
 |.gY,_=>rfl
 |.fS,_=>rfl
 |.fU,_=>rfl
 |.undef,_=>rfl
 |.ptr _ _,h=>by simp[eo]at h
 |.sl _ _ _ _,h=>by simp[eo]at h
 |.mp _,h=>by simp[eo]at h
 |.iK _,h=>by simp[eo]at h
def dU:∀(l:ai),dv l=true->cI l=true
 |[],_=>rfl
 |v::r,h=>by simp only[dv,aL]at h;simp only[cI,CZ v h.1,dU r h.2,jL]
def gF:∀(l:aP),eT l=true->iA l=true
 |[],_=>rfl
 |v::r,h=>by simp only[eT,aL]at h;simp only[iA,dU v h.1,gF r h.2,jL]
end
mutual
def A4:∀(v:HV),cm v=true->cm (nn v)=true
 |.fn _ a b,h=>h
 |.agg l,h=>by simp only[cm]at h;simp only[nn,cm,po l h]
 |.cO l,h=>by simp only[cm]at h;simp only[nn,cm,po l h]
 |.aw l,h=>by simp only[cm]at h;simp only[nn,cm,po l h]
 |.psl l,h=>by simp only[cm]at h;simp only[nn,cm,zX l h]
 |.int _ _,_=>rfl
 |.bool _,_=>rfl
 |.str _,_=>rfl
 |.ah,_=>rfl
 |.dE,_=>rfl
 |.gY,_=>rfl
 |.fS,_=>rfl
 |.fU,_=>rfl
 |.undef,_=>rfl
 |.ptr _ _,h=>by simp[cm]at h
 |.sl _ _ _ _,h=>by simp[cm]at h
 |.mp _,h=>by simp[cm]at h
 |.iK _,h=>by simp[cm]at h
def po:∀(l:ai),cI l=true->cI (oH l)=true
 |[],_=>rfl
 |v::r,h=>by simp only[cI,aL]at h;simp only[oH,cI,A4 v h.1,po r h.2,jL]
def zX:∀(l:aP),iA l=true->iA (qp l)=true
 |[],_=>rfl
 |v::r,h=>by simp only[iA,aL]at h;simp only[qp,iA,po v h.1,zX r h.2,jL]
end
def EI(v:HV)(h:v.one=true):(nn v).one=true:=by cases v<;>first|exact h|rfl
def jc:∀(l:ai),oH l=l.map nn
 |[]=>rfl
 |v::r=>by simp only[oH,jc r,bX]
def r6:∀(l:aP),qp l=l.map oH
 |[]=>rfl
 |v::r=>by simp only[qp,r6 r,bX]
def HR.nn{β:Bt}{N:aG}{w:World}{v:HV}{u:Value}(h:HR β N w v u):HR β N w (nn v) u:=by
 induction h with
 |ah=>exact .psl0 none 0 (λ_=>rfl)
 |int k n=>exact .int k n
 |bool b=>exact .bool b
 |str s=>exact .str s
 |dE=>exact .dE
 |gY=>exact .gY
 |fS=>exact .fS
 |fU=>exact .fU
 |undef=>exact .undef
 |ptr o k pl h J=>exact .ptr o k pl h J
 |sl o r len D cap n pl h Z t hb E=>exact .sl o r len D cap n pl h Z t hb E
 |pY o r D b k=>exact .pY o r D b k
 |mp o pl h=>exact .mp o pl h
 |fn f fi ca fs L G h2 h3 h4 _ _=>exact .fn f fi ca fs L G h2 h3 h4
 |iK l pl h=>exact .iK l pl h
 |agg l O h0 G _ ih=>
  refine .agg (oH l) O (λv p=>?_) (by rw[jc,bz];exact G) (λi v u p V=>?_)
  .rw[jc]at p;obtain⟨x,c,rfl⟩:=cU.1 p;exact EI x (h0 x c)
  rw[jc,fV]at p;obtain⟨x,c,rfl⟩:=lR.1 p;exact ih i x u c V
 |cO l O G _ ih=>refine .cO (oH l) O (by rw[jc,bz];exact G) (λi v u p V=>?_);rw[jc,fV]at p;obtain⟨x,c,rfl⟩:=lR.1 p;exact ih i x u c V
 |psl0 A cap hn=>exact .psl0 A cap hn
 |psl d b o cap D g z B H W h0 E p ih=>
  have t:(qp d).length=d.length:=by rw[r6,bz]
  show HR β N w (.psl (qp d)) (.slice (some ⟨b,o,none⟩) d.length cap);rw[<-t];refine .psl (qp d) b o cap D g z B (by rw[t];exact H) (λi row h=>?_) (λrow Y v m=>?_) (λi j I q=>E i j (by rw[<-t];exact I) q) (λi row j a I q=>?_)
  .rw[r6,fV]at h;obtain⟨x,c,rfl⟩:=lR.1 h;rw[jc,bz];exact W i x c
  .rw[r6]at Y;obtain⟨x,c,rfl⟩:=cU.1 Y;rw[jc]at m;obtain⟨y,X,rfl⟩:=cU.1 m;exact EI y (h0 x c y X)
  rw[r6,fV]at I;obtain⟨x,c,rfl⟩:=lR.1 I;rw[jc,fV]at q;obtain⟨y,X,rfl⟩:=lR.1 q;exact ih i x j y c X
 |aw cells b o g h0 z B E p ih=>
  have t:(oH cells).length=cells.length:=by rw[jc,bz]
  refine .aw (oH cells) b o g (λv m=>?_) z B (λj q=>E j (by rw[<-t];exact q)) (λj a q=>?_)
  .rw[jc]at m;obtain⟨x,c,rfl⟩:=cU.1 m;exact EI x (h0 x c)
  rw[jc,fV]at q;obtain⟨x,c,rfl⟩:=lR.1 q;exact ih j x c
def HR.pure{β:Bt}{N:aG}{w:World}{v:HV}{u:Value}(h:HR β N w v u)(W:Bt){L:aG}(O:ie L N w):cm v=true->HR W L w v u:=by induction h with|int k n=>exact λ_=>.int k n|bool b=>exact λ_=>.bool b|str s=>exact λ_=>.str s|ah=>exact λ_=>.ah|dE=>exact λ_=>.dE|gY=>exact λ_=>.gY|fS=>exact λ_=>.fS|fU=>exact λ_=>.fU|undef=>exact λ_=>.undef|ptr o k pl h X=>intro h;simp[cm]at h|sl o z len B cap n pl h hs hl hb y=>intro h;simp[cm]at h|pY o z B b k=>intro h;simp[cm]at h|mp o pl h=>intro h;simp[cm]at h|fn f Y Z fs D q h2 h3 h4 E G=>intro h;simp only[cm,aL]at h;exact .fn f Y Z fs D q h2 (λi v u c m=>E i v u c m (iS h.1 v (cE c))) (λi v u c m=>G i v u c m (iS h.2 v (cE c)))|iK l pl h=>intro h;simp[cm]at h|agg l H h0 q _ ih=>intro h;simp only[cm]at h;exact .agg l H h0 q (λi v u c m=>ih i v u c m (iS h v (cE c)))|cO l H q _ ih=>intro h;simp only[cm]at h;exact .cO l H q (λi v u c m=>ih i v u c m (iS h v (cE c)))|psl0 A cap hn=>exact λ_=>.psl0 A cap hn|psl I b o cap B g p d r J h0 y c ih=>intro h;simp only[cm]at h;exact .psl I b o cap B g (λx=>p (O b d x)) d r J h0 y (λi row j a V t=>ih i row j a V t (iS (wP h row (cE V)) a (cE t)))|aw cells b o g h0 p d y c ih=>intro h;simp only[cm]at h;exact .aw cells b o g h0 (λx=>p (O b d x)) d y (λj a t=>ih j a t (iS h a (cE t)))
def eu(sz:Nat):∀(n:Nat) (l:ai),(jD sz n l).length=n
 |0,_=>rfl
 |n+1,l=>by simp[jD,eu sz n]
def tz(sz:Nat):∀(n:Nat) (l:ai) (i:Nat),i<n->(jD sz n l)[i]?=some ((l.drop (i*sz)).take sz)
 |0,_,i,h=>by omega
 |n+1,l,0,h=>by simp[jD,jJ]
 |n+1,l,i+1,h=>by simp only[jD,List.getElem?_cons_succ];rw[tz sz n _ i (by omega),mz,IU,iR,wM]
def gG{f:HV->Option (HV×List Ky)}:∀{l:ai} {l':ai} {t:cg},oI f l=some (l',t)->l'.length=l.length/\∀(j:Nat) (b:HV),l'[j]?=some b->∃v c,l[j]?=some v/\f v=some (b,c)/\∀o∈c,o∈t
 |[],l',t,h=>by cases h;exact⟨rfl,by simp⟩
 |v::r,l',t,h=>by
  unfold oI at h
  split at h
  .rename_i z i A B k m;cases h;obtain⟨p,q⟩:=gG m;refine⟨by simp[p],λj b d=>?_⟩;cases j with|zero=>simp at d;subst d;exact⟨v,i,rfl,k,λo g=>by simp[g]⟩|succ j=>obtain⟨w,c,u,x,y⟩:=q j b (by simpa using d);exact⟨w,c,by simpa using u,x,λo g=>by simp[y o g]⟩
  cases h
def jt(h:Tr Ob):∀(ms:cg) (x:Ky),(x∈ms->aj (fA h ms) x=none)/\(x ∉ ms->aj (fA h ms) x=aj h x)
 |[],x=>⟨λh=>(by cases h),λ_=>rfl⟩
 |m::r,x=>by
  obtain⟨f,g⟩:=jt h r x;rw[fA,af];by_cases c:x=m
  .subst c;rw[au rfl];exact⟨λ_=>rfl,λd=>absurd dr d⟩
  rw[ar c];refine⟨λb=>?_,λd=>g λb=>d (cY _ b)⟩;rcases bk.1 b with e|b
  .exact absurd e c
  exact f b
section view
variable{M:aG}{C:eR}{P:Program}{β:Bt}{s:HS}{w:World}{e:En}{a:Act}
def mG(hr:bW M C β s w):∀(n:Nat) (v p:HV) (t:cg) (u:Value),vw s n v=some (p,t)->HR β (Live M s β) w v u->(v.one=true->p.one=true)/\(∀o∈t,∃tr lo D g,aj s.h o=some (.cells tr lo D g))/\
  ∀(A:Bt) (q:aG),(∀b,q b->b<w.heap.size->Live M s β b)->(∀o∈t,∀pl,β o=some pl->¬q pl.b)->HR A q w p u:=by
 intro n
 induction n with
 |zero=>intro v p t u h;cases h
 |succ n ih=>
  have Y:∀{l:ai} {B:ai} {t:cg},oI (vw s n) l=some (B,t)->∀{g:Nat->Value} {m:Nat},l.length=m->(∀j v,l[j]?=some v->HR β (Live M s β) w v (g j))->
    (∀o∈t,∃tr lo D g,aj s.h o=some (.cells tr lo D g))/\((∀x∈l,x.one=true)->∀x∈B,x.one=true)/\
    ∀(A:Bt) (q:aG),(∀b,q b->b<w.heap.size->Live M s β b)->(∀o∈t,∀pl,β o=some pl->¬q pl.b)->∀(j:Nat) (p:HV),B[j]?=some p->HR A q w p (g j):=by
   intro l
   induction l with
   |nil=>intro B t h g m hm hg;cases h;exact⟨by simp,by simp,by simp⟩
   |cons x r k0=>
    intro B t h g m hm hg;unfold oI at h
    split at h
    .rename_i v1 t1 r1 t2 h1 h2;cases h;obtain⟨a1,a2,a3⟩:=ih x v1 t1 (g 0) h1 (hg 0 x rfl);obtain⟨b1,b2,b3⟩:=k0 h2 (g:=λj=>g (j+1)) (m:=r.length) rfl (λj v d=>hg (j+1) v (by simpa using d));refine⟨λo G=>?_,λh8 y hy=>?_,λA q H O j p V=>?_⟩
     .rcases l5.1 G with G|G
      .exact a2 o G
      exact b1 o G
     .rcases bk.1 hy with rfl|hy
      .exact a1 (h8 x (by simp))
      exact b2 (λz hz=>h8 z (by simp[hz])) y hy
     cases j with|zero=>simp at V;subst V;exact a3 A q H (λo G=>O o (by simp[G]))|succ j=>exact b3 A q H (λo G=>O o (by simp[G])) j p (by simpa using V)
    cases h
  have c:∀{v p:HV} {t:cg} {u:Value},(bif cm v then some (v,([]:cg))else none)=some (p,t)->HR β (Live M s β) w v u->(v.one=true->p.one=true)/\(∀o∈t,∃tr lo D g,aj s.h o=some (.cells tr lo D g))/\
    ∀(A:Bt) (q:aG),(∀b,q b->b<w.heap.size->Live M s β b)->(∀o∈t,∀pl,β o=some pl->¬q pl.b)->HR A q w p u:=by
   intro v p t u h d;cases Z:cm v with
   |false=>rw[Z]at h;cases h
   |true=>rw[Z,cond_true]at h;cases h;exact⟨id,by simp,λA q H _=>d.pure A (λb hb I=>H b I hb) Z⟩
  intro v p t u h d;have h:(bif eo v then some (v,([]:cg))else _)=some (p,t):=h;cases hD:eo v with
  |true=>rw[hD,cond_true]at h;exact c (by rw[CZ v hD];exact h) d
  |false=>
  rw[hD,cond_false]at h;cases v with
  |sl o hd len L=>
   have h:(bif Nat.beq len 0 then some (HV.psl [],[])else(match s.bF o hd (len*L)with
    |some l=>(match oI (vw s n) l with|some (B,t)=>some (.psl (jD L len B),o::t)|none=>none)
    |none=>none))=some (p,t):=h
   cases hl:Nat.beq len 0 with
   |true=>
    rw[hl,cond_true]at h;cases h;rw[bf]at hl;subst hl;refine⟨λ_=>rfl,by simp,λA q _ _=>?_⟩;cases d with
    |sl _ _ _ _ cap n' pl J hs hc=>exact .psl0 _ _ (λh=>by cases h)
    |pY=>exact .psl0 _ _ (λ_=>rfl)
   |false=>
    rw[hl,cond_false]at h;have k1:len≠0:=λe=>by subst e;cases hl
    split at h
    case h_2=>cases h
    rename_i l h7
    split at h
    case h_2=>cases h
    rename_i B t' E;cases h;cases d with
    |pY=>exact absurd rfl k1
    |sl _ _ _ _ cap n' pl J hs k2 hb k9=>
    obtain⟨d1,d2,d3,gg,d4,d5⟩:=hr.bF J h7;obtain⟨e1,e2,e3⟩:=Y E (g:=gg) d2 d5;obtain⟨f1,f2⟩:=gG E;obtain⟨tr,lo,D,g,q1,q2,q3,_⟩:=HS.kB h7;refine⟨λ_=>rfl,λx I=>?_,λA q H O=>?_⟩
    .rcases bk.1 I with rfl|I
     .exact⟨tr,lo,D,g,q1⟩
     exact e1 x I
    have hlen:B.length=len*L:=f1.trans d2;have h5:∀(i:Nat) (row:ai),(jD L len B)[i]?=some row->i<len/\row.length=L/\∀j,j<L->row[j]?=B[i*L+j]?:=by
     intro i row D;have h9:i<len:=by have:=(aU.1 D).1;rwa[eu]at this
     rw[tz L len B i h9]at D;cases D;have hm:(i+1)*L<=len*L:=ji _ h9;rw[iR]at hm;refine⟨h9,by simp[hlen];omega,λj V=>?_⟩;rw[rN V,kX]
    have:=HR.psl (β:=A) (N:=q) (w:=w) (jD L len B) pl.b (hd-pl.s) cap L (λi j=>gg (i*L+j)) (O o (by simp) pl J) (hr.lt o pl J).2 (by rw[eu];exact k2) (λi row D=>(h5 i row D).2.1) (λrow k3 x I=>?_) (λi j D V=>?_) (λi row j a D V=>?_)
    .rw[eu]at this;exact this
    .obtain⟨i,D,rfl⟩:=oQ k3;obtain⟨j,V,rfl⟩:=oQ I;obtain⟨g1,g2,g3⟩:=h5 i _ (aX D);have h4:=g3 j (by omega);rw[aX V]at h4;exact e2 d3 _ (cE h4.symm)
    .rw[eu]at D;have hm:(i+1)*L<=len*L:=ji _ D;rw[iR]at hm;exact d4 _ (by omega)
    obtain⟨g1,g2,g3⟩:=h5 i row D;have k4:j<L:=by rw[<-g2];exact(aU.1 V).1
    rw[g3 j k4]at V;exact e3 A q H (λx I=>O x (by simp[I])) _ _ V
  |ptr o k=>
   have h:(match aj s.h o with
    |some (.cells _ _ D _)=>(bif Nat.ble k D then(match s.bF o k (D-k)with
     |some l=>(match oI (vw s n) l with|some (B,t)=>some (HV.aw B,o::t)|none=>none)
     |none=>none)else none)
    |_=>none)=some (p,t):=h
   split at h
   case h_2=>cases h
   rename_i ka kb k5 g0 k6;cases hk:Nat.ble k k5 with
   |false=>rw[hk]at h;cases h
   |true=>
    rw[hk,cond_true]at h
    split at h
    case h_2=>cases h
    rename_i l h7
    split at h
    case h_2=>cases h
    rename_i B t' E;cases h;cases d with
    |ptr _ _ pl J kc=>
    obtain⟨d1,d2,d3,gg,d4,d5⟩:=hr.bF J h7;obtain⟨e1,e2,e3⟩:=Y E (g:=gg) d2 d5;obtain⟨f1,f2⟩:=gG E;refine⟨λ_=>rfl,λx I=>?_,λA q H O=>?_⟩
    .rcases bk.1 I with rfl|I
     .exact⟨_,_,_,_,k6⟩
     exact e1 x I
    exact .aw B pl.b (k-pl.s) gg (e2 d3) (O o (by simp) pl J) (hr.lt o pl J).2 (λj V=>d4 j (by omega)) (λj a V=>e3 A q H (λx I=>O x (by simp[I])) j a V)
  |agg l=>
   have h:(match oI (vw s n) l with|some (B,t)=>some (HV.agg B,t)|none=>none)=some (p,t):=h
   split at h
   case h_2=>cases h
   rename_i B t' E;cases h;cases d with
   |agg _ cs h0 h1 h2=>
   obtain⟨e1,e2,e3⟩:=Y E (g:=λj=>cs.getD j Go.undef) rfl (λj v d=>h2 j v _ d (by
    have:=(aU.1 d).1;simp[fM,show j<cs.size by omega]))
   obtain⟨f1,f2⟩:=gG E;refine⟨λh=>(by cases h),e1,λA q H O=>.agg B cs (e2 h0) (by omega) λi p u' W X=>?_⟩;have:=e3 A q H O i p W;simpa[fM,X]using this
  |cO l=>
   have h:(match oI (vw s n) l with|some (B,t)=>some (HV.cO B,t)|none=>none)=some (p,t):=h
   split at h
   case h_2=>cases h
   rename_i B t' E;cases h;cases d with
   |cO _ cs h1 h2=>
   obtain⟨e1,e2,e3⟩:=Y E (g:=λj=>cs.getD j Go.undef) rfl (λj v d=>h2 j v _ d (by
    have:=(aU.1 d).1;simp[fM,show j<cs.size by omega]))
   obtain⟨f1,f2⟩:=gG E;refine⟨λh=>(by cases h),e1,λA q H O=>.cO B cs (by omega) λi p u' W X=>?_⟩;have:=e3 A q H O i p W;simpa[fM,X]using this
  |fn f fi ca=>
   have h:(match oI (vw s n) fi,oI (vw s n) ca with|some (a',t),some (b',t')=>some (HV.fn f a' b',t++t')|_,_=>none)=some (p,t):=h
   split at h
   .rename_i a' t1 b' t2 hf hq;cases h;cases d with
    |fn _ _ _ fs ha h1 h2 h3 h4=>
    obtain⟨e1,e2,e3⟩:=Y hf (g:=λj=>fs.getD j Go.undef) rfl (λj v d=>h3 j v _ d (by
     have:=(aU.1 d).1;simp[fM,show j<fs.size by omega]))
    obtain⟨k7,kd,k8⟩:=Y hq (g:=λj=>ha.getD j Go.undef) rfl (λj v d=>h4 j v _ d (by
     have:=(aU.1 d).1;simp[fM,show j<ha.size by omega]))
    obtain⟨f1,f2⟩:=gG hf;obtain⟨ke,kg⟩:=gG hq;refine⟨λ_=>rfl,λo G=>?_,λA q H O=>.fn f a' b' fs ha (by omega) (by omega) (λi p u' W X=>?_) (λi p u' W X=>?_)⟩
    .rcases l5.1 G with G|G
     .exact e1 o G
     exact k7 o G
    .have:=e3 A q H (λo G=>O o (by simp[G])) i p W;simpa[fM,X]using this
    have:=k8 A q H (λo G=>O o (by simp[G])) i p W;simpa[fM,X]using this
   cases h
  |int=>exact c h d
  |bool=>exact c h d
  |str=>exact c h d
  |ah=>cases h;cases d;exact⟨λ_=>rfl,by simp,λA q _ _=>.psl0 none 0 (λ_=>rfl)⟩
  |dE=>exact c h d
  |gY=>exact c h d
  |fS=>exact c h d
  |fU=>exact c h d
  |undef=>exact c h d
  |mp=>exact c h d
  |iK=>exact c h d
  |psl h6=>
   have h:(bif iA h6 then some (HV.psl (qp h6),([]:cg))else none)=some (p,t):=h;cases Z:iA h6 with
   |false=>rw[Z]at h;cases h
   |true=>rw[Z,cond_true]at h;cases h;exact⟨λ_=>rfl,by simp,λA q H _=>(HR.nn d:HR _ _ _ (HV.psl (qp h6)) u).pure A (λb hb I=>H b I hb) (A4 (.psl h6) Z)⟩
  |aw l=>
   have h:(bif cI l then some (HV.aw (oH l),([]:cg))else none)=some (p,t):=h;cases Z:cI l with
   |false=>rw[Z]at h;cases h
   |true=>rw[Z,cond_true]at h;cases h;exact⟨λ_=>rfl,by simp,λA q H _=>(HR.nn d:HR _ _ _ (HV.aw (oH l)) u).pure A (λb hb I=>H b I hb) (A4 (.aw l) Z)⟩
def zY(q:bW M C β s w){n:Nat}{l l':ai}{t:cg}{i:List Value}(h:oI (vw s n) l=some (l',t))(k:eQ β (Live M s β) w l i):((∀x∈l,x.one=true)->∀x∈l',x.one=true)/\(∀o∈t,∃tr v A g,aj s.h o=some (.cells tr v A g))/\
  ∀(f:Bt) (d:aG),(∀b,d b->b<w.heap.size->Live M s β b)->(∀o∈t,∀pl,β o=some pl->¬d pl.b)->eQ f d w l' i:=by
 induction l generalizing l' t i with
 |nil=>
  cases h;exact⟨by simp,by simp,λ_ _ _ _=>by
   have:=k.1;exact⟨this,by simp⟩⟩
 |cons x r ih=>
  unfold oI at h
  split at h
  .rename_i B D Z t2 E G;cases h;obtain⟨u,H,rfl,I,J⟩:=k.split;obtain⟨L,N,O⟩:=mG q n x B D u E I;obtain⟨V,W,X⟩:=ih G J;refine⟨λh y j=>?_,λo c=>?_,λf d m p=>.cons (O f d m λo c=>p o (by simp[c])) (X f d m λo c=>p o (by simp[c]))⟩
   .rcases bk.1 j with rfl|j
    .exact L (h x (by simp))
    exact V (λz Y=>h z (by simp[Y])) y j
   rcases l5.1 c with c|c
   .exact N o c
   exact W o c
  cases h
def nI(s:HS):∀(t:cg),(bx s t).nx=s.nx/\(bx s t).gr=s.gr/\(bx s t).ty=s.ty/\(∀x,aj (bx s t).h x=aj s.h x∨aj (bx s t).h x=none)/\
  ∀o∈t,∀tr c d g ms,aj s.h o=some (.cells tr c d g)->aj s.gr g=some ms->∀m∈ms,aj (bx s t).h m=none
 |[]=>⟨rfl,rfl,rfl,λx=>.inl rfl,by simp⟩
 |o::r=>by
  obtain⟨H,I,J,L,N⟩:=nI s r;have f:(bx s (o::r))=bx s r/\(∀tr c d g ms,aj s.h o=some (.cells tr c d g)->aj s.gr g≠some ms)∨
    ∃tr c d g ms,aj s.h o=some (.cells tr c d g)/\aj s.gr g=some ms/\bx s (o::r)={h:=fA (bx s r).h ms,nx:=(bx s r).nx,gr:=(bx s r).gr,ty:=(bx s r).ty}:=by
   rw[bx]
   split
   .rename_i tr c d g v
    split
    .rename_i ms i;exact .inr ⟨tr,c,d,g,ms,v,i,rfl⟩
    rename_i i;exact .inl ⟨rfl,λj k l D ms b E=>by rw[v]at b;cases b;rw[i]at E;cases E⟩
   rename_i p;exact .inl ⟨rfl,λj k l D ms b E=>p _ _ _ _ b⟩
  rcases f with⟨e,p⟩|⟨tr,c,d,g,ms,O,V,e⟩
  .rw[e];refine⟨H,I,J,L,λx b tr c d g ms q u=>?_⟩;rcases bk.1 b with rfl|b
   .exact absurd u (p _ _ _ _ _ q)
   exact N x b tr c d g ms q u
  rw[e];refine⟨H,I,J,λx=>?_,λx b j k l D G q u m y=>?_⟩
  .obtain⟨A,B⟩:=jt (bx s r).h ms x;by_cases b:x∈ms
   .exact .inr (A b)
   rcases L x with h|h
   .exact .inl ((B b).trans h)
   exact .inr ((B b).trans h)
  obtain⟨A,B⟩:=jt (bx s r).h ms m;rcases bk.1 b with rfl|b
  .rw[O]at q;cases q;rw[V]at u;cases u;exact A y
  by_cases z:m∈ms
  .exact A z
  exact(B z).trans (N x b j k l D G q u m y)
def qA(d:bW M C β s w){t:cg}(E:∀o∈t,∃tr z A g,aj s.h o=some (.cells tr z A g)):bW M C β (bx s t) w/\Ext M β s w β (bx s t) w/\∀o∈t,∀pl,β o=some pl->¬Live M (bx s t) β pl.b:=by
 obtain⟨G,H,I,p,J⟩:=nI s t;have B:bx s t={h:=(bx s t).h,nx:=s.nx,gr:=s.gr,ty:=s.ty}:=by rw[<-G,<-H,<-I]
 have f:∀{x ob},aj (bx s t).h x=some ob->aj s.h x=some ob:=λ{x ob} i=>by
  rcases p x with e|e
  .rw[<-e];exact i
  rw[e]at i;cases i
 refine⟨?_,?_,?_⟩
 .rw[B];exact d.sub p (λx t' L N g' i=>d.qK _ _ _ _ _ (f i)) d.vg
 .rw[B];exact Ext.sub p
 intro o D pl j O;obtain⟨tr,z,A,g,c⟩:=E o D;obtain⟨V,k,q⟩:=d.qK _ _ _ _ _ c;rcases O with W|⟨x,ob,r,u,X,Y⟩
 .exact d.sO _ W ⟨o,_,pl,c,j,rfl⟩
 have l:=f u;have v:x∈V:=by
  by_cases m:x=o
  .subst m;exact q
  obtain⟨_,t1,Z,h6,y,t2,h7,h8,q1,q2⟩:=d.apart x o ob _ r pl l c X j m Y;cases q2;subst q1;obtain⟨h9,y,g2⟩:=d.qK _ _ _ _ _ l;rw[k]at y;cases y;exact g2
 rw[J o D _ _ _ _ _ c k x v]at u;cases u
def zZ{nt:Nat}{keep:az}{m:bL}{o:Nat}(d:At M C nt keep m o β s e a w):∀(p:az) {e':En} {s':HS},qt s e p=some (e',s')->At M C nt keep m o β s' e' a w/\Ext M β s w β s' w
 |[],e',s',h=>by cases h;exact⟨d,Ext.refl _ _ _⟩
 |t::r,e',s',h=>by
  unfold qt at h
  split at h
  case h_2=>cases h
  rename_i L N q;obtain⟨f,u⟩:=zZ d r q
  split at h
  case h_2=>cases h
  rename_i v z
  split at h
  case h_2=>cases h
  rename_i A l i;cases h;obtain⟨B,D⟩:=f.env t v z;obtain⟨O,E,G⟩:=mG f.rel 16 v A l _ i D;obtain⟨H,j,I⟩:=qA f.rel E;have c:=f.later H j;refine⟨{c with env:=λx y g=>?_},u.trans j⟩;rw[rG]at g
  split at g
  .rename_i e;subst e;cases g;exact⟨B,G β _ (λb J k=>j.less b k J) I⟩
  exact c.env x y g
def HP{nt:Nat}{keep:az}{ro:bL}{lo:Nat}(J:At M C nt keep ro lo β s e a w){t bj n:Nat}{s':HS}(h:uq s e t bj n=some s'):At M C nt keep ro lo β s' e a w/\Ext M β s w β s' w:=by
 unfold uq at h
 split at h
 case h_2=>cases h
 rename_i o k hv
 split at h
 case h_2=>cases h
 rename_i l h8
 split at h
 case h_2=>cases h
 rename_i N c Y;cases hk:jg o c with
 |true=>rw[hk]at h;cases h
 |false=>
 rw[hk,cond_false]at h;simp only[]at h
 split at h
 case h_2=>cases h
 rename_i tr q O g i;cases h;have hr:=J.rel;obtain⟨k1,k2⟩:=J.env t _ hv;obtain⟨pl,L,k3⟩:=hr.obj o _ (by
  rcases(nI s c).2.2.2.1 o with e|e
  .rw[<-e];exact i
  rw[e]at i;cases i)
 obtain⟨d1,d2,d3,gg,d4,d5⟩:=hr.bF L h8;have h9:eQ β (Live M s β) w l ((List.range n).map gg):=by refine⟨by simp[d2],λj x y d hy=>?_⟩;have Z:=(aU.1 d).1;rw[d2]at Z;simp[Z]at hy;subst hy;exact d5 j x d
 obtain⟨a1,a2,a3⟩:=zY hr Y h9;obtain⟨z,b2,b3⟩:=qA hr a2;obtain⟨f1,f2⟩:=gG Y;have h5:=a3 β _ (λb hb hd=>b2.less b hd hb) b3;have G:∀b,Live M {h:=av (some (.cells (dh N (k+bj) tr) q O g)) o (bx s c).h,nx:=(bx s c).nx,gr:=(bx s c).gr,ty:=(bx s c).ty} β b↔Live M (bx s c) β b:=by
  intro b;constructor
  .rintro(V|⟨x,ob,m,A,D,p⟩)
   .exact .inl V
   simp only[af]at A;by_cases e:x=o
   .subst e;exact .inr ⟨x,_,m,i,D,p⟩
   rw[ar e]at A;exact .inr ⟨x,ob,m,A,D,p⟩
  rintro(V|⟨x,ob,m,A,D,p⟩)
  .exact .inl V
  by_cases e:x=o
  .subst e;exact .inr ⟨x,.cells (dh N (k+bj) tr) q O g,m,by simp[af],D,p⟩
  exact .inr ⟨x,ob,m,by simp[af,e,A],D,p⟩
 have f:ie (Live M {h:=av (some (.cells (dh N (k+bj) tr) q O g)) o (bx s c).h,nx:=(bx s c).nx,gr:=(bx s c).gr,ty:=(bx s c).ty} β) (Live M (bx s c) β) w:=λb _ hb=>(G b).1 hb
 have hf:Ext M β (bx s c) w β {h:=av (some (.cells (dh N (k+bj) tr) q O g)) o (bx s c).h,nx:=(bx s c).nx,gr:=(bx s c).gr,ty:=(bx s c).ty} w:=
  ⟨Bt.le_refl _,cJ.refl _ _,f,rfl,rfl,rfl,λ_ r h=>⟨r,h⟩,aV _,λ_ _=>rfl⟩
 have hg:bW M C β {h:=av (some (.cells (dh N (k+bj) tr) q O g)) o (bx s c).h,nx:=(bx s c).nx,gr:=(bx s c).gr,ty:=(bx s c).ty} w:=by
  refine⟨z.lt,λx ob d=>?_,λx y ob k4 pl H d hy h3 h4 hl ho=>?_,λx t' k5 k6 g' d=>?_,z.vg,z.mlt,λb V ha=>?_,z.zl⟩
  .simp only[af]at d;by_cases e:x=o
   .subst e;rw[au rfl]at d;cases d;obtain⟨H,W,p2⟩:=z.obj x _ i;rw[L]at W;cases W;refine⟨pl,L,?_⟩;cases p2 with
    |cells _ _ _ _ cs E fr c1 c2 c3 c4 c5=>
    refine .cells _ _ _ _ cs E fr c1 c2 c3 c4 λk' v A D p=>?_
    rw[fC]at p
    split at p
    .rename_i hp;have Z:k'-(k+bj)<n:=by rw[f1,d2]at hp;omega
     have B:=d4 _ Z;have hq:=h5.2 (k'-(k+bj)) v (gg (k'-(k+bj))) p (by simp[Z]);rw[iN c2]at B;have k7:=d1;refine⟨a1 d3 v (cE p),_,?_,hq.keep (Bt.le_refl _) f (cJ.refl _ _)⟩;rw[<-B];congr 1;omega
    obtain⟨r1,u,r2,r3⟩:=c5 k' v A D p;exact⟨r1,u,r2,r3.keep (Bt.le_refl _) f (cJ.refl _ _)⟩
   rw[ar e]at d;obtain⟨H,W,p2⟩:=z.obj x ob d;exact⟨H,W,p2.keep (Bt.le_refl _) f (cJ.refl _ _) rfl⟩
  .have key:∀{x ob},aj (av (some (.cells (dh N (k+bj) tr) q O g)) o (bx s c).h) x=some ob->∃I,aj (bx s c).h x=some I/\∀t1 l1 h1 X,I=.cells t1 l1 h1 X->∃t2 l2 h2,ob=.cells t2 l2 h2 X:=λ{x ob} d=>by
    simp only[af]at d;by_cases e:x=o
    .subst e;rw[au rfl]at d;cases d;exact⟨_,i,λt1 l1 h1 X he=>by cases he;exact⟨_,_,_,rfl⟩⟩
    rw[ar e]at d;exact⟨ob,d,λt1 l1 h1 X he=>⟨t1,l1,h1,he⟩⟩
   obtain⟨I,W,p2⟩:=key d;obtain⟨h6,hs,ht⟩:=key hy;obtain⟨z1,t1,l1,h1,X,t2,l2,h2,z2,z3⟩:=z.apart x y I h6 pl H W hs h3 h4 hl ho;obtain⟨t3,l3,hz,z4⟩:=p2 _ _ _ _ z2;obtain⟨t4,l4,k0,z5⟩:=ht _ _ _ _ z3;exact⟨z1,t3,l3,hz,X,t4,l4,k0,z4,z5⟩
  .simp only[af]at d;by_cases e:x=o
   .subst e;rw[au rfl]at d;cases d;exact z.qK _ _ _ _ _ i
   rw[ar e]at d;exact z.qK _ _ _ _ _ d
  rcases ha with⟨x,ob,m,A,D,p⟩
  simp only[af]at A;by_cases e:x=o
  .subst e;exact z.sO b V ⟨x,_,m,i,D,p⟩
  rw[ar e]at A;exact z.sO b V ⟨x,ob,m,A,D,p⟩
 have h7:=b2.trans hf;exact⟨J.later hg h7,h7⟩
end view
section code
variable{fx:Nat->Option Obj}{P:Program}{nt:Nat}{keep:az}{ih:Task->Out}
def nm.toV{β:Bt}{N:aG}{w:World}{e:En}{a:Act}(h:nm β N w keep e a.tmps):dN β N w e a:=λt v b=>(h t v b).2
def mD.seq{x y:Code}{e:En}{s:HS}{z:Ex}{b:En}{s1:HS}{c:Ex}{d:En}{s2:HS}(h:mD (CR fx P) P nt keep x e s z b s1)
  (l:z=.normal->mD (CR fx P) P nt keep y b s1 c d s2)(m:z≠ .normal->z=c/\b=d/\s1=s2):mD (CR fx P) P nt keep (.seq x y) e s c d s2:=by
 intro M o p β a w f;refine wpIn_seq (h.then f (λg q j k r t=>?_) λg j k u=>?_)
 .exact wpIn_mono (l g M o p q j k r) λv A B i=>EC.after t i
 obtain⟨rfl,rfl,rfl⟩:=m g;exact u
def oX.seq{c:Code}{e:En}{s:HS}{z:Ex}{b:En}{s1:HS}{d:Ex}{f:En}{s2:HS}(h:mD (CR fx P) P nt keep c e s z b s1)
  (m:z=.normal->oX (CR fx P) P nt keep c b s1 d f s2)(o:z≠ .normal->z=d/\b=f/\s1=s2):oX (CR fx P) P nt keep c e s d f s2:=by
 intro M p q β a w g;refine uA (h.then g (λi r k l t u=>?_) λi k l v=>?_)
 .exact nB.mono (m i M p q r k l t) λx y A j=>EC.after u j
 obtain⟨rfl,rfl,rfl⟩:=o i;exact v
def oX.code{c:Code}{e:En}{s:HS}{d:Ex}{f:En}{s2:HS}(h:oX (CR fx P) P nt keep c e s d f s2):mD (CR fx P) P nt keep (.loop c) e s d f s2:=
 λM g i β a w b=>uB (h M g i β a w b)
def Jc(hi:hU (CR fx P) P ih){x:X}{ps:az}{gV body:HC}{g:Operand}{params:Array Tmp}{assign I:Code}(hc:et P nt keep (.rf x ps gV body) (.rangeFunc g params assign I)=true){e:En}{s:HS}{z:Ex}{e':En}{s':HS}
  (h:lG ih x ps gV body e s=.code z e' s'):mD (CR fx P) P nt keep (.rangeFunc g params assign I) e s z e' s':=by
 simp only[et,aL,bU]at hc;obtain⟨⟨⟨⟨⟨W,k2⟩,Y⟩,k3⟩,h8⟩,Z⟩:=hc;have Y:∀p∈ps,p∈keep/\p<nt:=λp hp=>by have:=fG.1 Y p hp;simpa using this
 unfold lG at h
 split at h
 case h_2=>cases h
 rename_i f fa fb k4
 split at h
 case h_2=>cases h
 rename_i v2 s2 h3
 split at h
 case h_2=>cases h
 rename_i st h9 km kn kk k5 J;cases E:Nat.beq st 2 with
 |true=>rw[E]at h;cases h
 |false=>
 rw[E,cond_false]at h;have h4:∃j:Option Code,Eh h9=some j/\e'=e/\s'=s2.kill s.nx/\(match j with|none=>z=.normal|some c=>(c=.ret/\z=.ret)∨∃i,c=.exit i/\z=.exit i):=by
  split at h
  .cases h;exact⟨none,rfl,rfl,rfl,rfl⟩
  .cases h;exact⟨some .ret,rfl,rfl,rfl,.inl ⟨rfl,rfl⟩⟩
  .rename_i i;cases h;exact⟨some (.exit i),rfl,rfl,rfl,.inr ⟨i,rfl,rfl⟩⟩
  cases h
 obtain⟨jump,k6,rfl,rfl,hz⟩:=h4;obtain⟨k7,G⟩:=hi.call _ _ _ _ _ h3;intro M H lo β a w k;have hv:=aH k.env.toV W k4;generalize hg:a.eval g=gv at hv;cases hv with
 |fn _ _ _ fs B k8 k9 ka kb=>
 refine wpIn_rangeFunc λfn _=>?_
 have key:∀(m:World) (mark:List Deferred) (db:Nat),bW M (CR fx P) β s m->Ext M β s w β s m->(Instr.enterLoop fn a.tmps params assign I H).run P w=.ok (m.heap.size,mark) {m with heap:=m.heap.push (.loop {state:=.ready,pending:=none,fn:=fn,tmps:=a.tmps,params:=params,assign:=assign,body:=I,defers:=db})}->
   uw lo (Live M s β) m (mark++a.defers)->
   ∃(l:Nat) (mark:List Deferred) (w₁:World) (d:Deferred) (h5:World) (f:FuncId) (args:Array Value) (w₂:World),
   (Instr.enterLoop fn a.tmps params assign I (FW H).round).run P w=.ok (l,mark) w₁/\
   (resolve a.eval (rangeCall g l) 0).run P w₁=.ok d h5/\
   (∀f',Target.leads P h5 d.target d.args=some f'->(FW H).fn f')/\
   (invoke d.target d.args).run P h5=.ok (.enter f args) w₂/\
   ((FW H).depth.isSome=true->1<=0)/\
   CallsIn (FW H) (0-1) P f args w₂ (rangePost (FW H) 0 P l (λen a' w'=>en=z.to/\∃β',At M (CR fx P) nt keep H lo β' (s2.kill s.nx) e' a' w'/\Ext M β s w β' (s2.kill s.nx) w') {a with defers:=mark++a.defers}):=by
  intro m mark db L q N hmarks;generalize kc:({m with heap:=m.heap.push (.loop {state:=.ready,pending:=none,fn:=fn,tmps:=a.tmps,params:=params,assign:=assign,body:=I,defers:=db})}:World)=w1 at N;obtain⟨r1,x1⟩:=L.newObj (x:=.loop {state:=.ready,pending:=none,fn:=fn,tmps:=a.tmps,params:=params,assign:=assign,body:=I,defers:=db}) (ob:=.loop 0 none e' ps gV body) (gr:=s.gr) (ty:=s.ty) (.inl rfl)
   (.loop 0 none e' ps gV body {state:=.ready,pending:=none,fn:=fn,tmps:=a.tmps,params:=params,assign:=assign,body:=I,defers:=db} nt keep (by simp) rfl rfl ((k.env.ext q).keep (Bt.jW L.fresh) (λb hb W=>W.resolve_left (by omega)) (cJ.push _ _ _)) k.size k2 Y (nG k3) h8 Z)
   (.inr ⟨(λ_ _ _ _ h=>by cases h),rfl⟩)
  rw[kc]at r1 x1;have ha:∀v,a.eval (.const v)=v:=λ_=>rfl
  have hd:(resolve a.eval (rangeCall g m.heap.size) 0).run P w1=.ok {target:=.fn (.func f) B,args:=fs++ #[Value.func (.yield m.heap.size) #[] #[]]} w1:=by simp[resolve,hg,Deferred.ofValue,ha]
  refine⟨m.heap.size,mark,w1,_,w1,f,fs++ #[Value.func (.yield m.heap.size) #[] #[]]++B,w1,N,hd,λ_ _=>trivial,by simp only[invoke];exact nA k7 _ _,λW=>(by cases W),?_⟩;have h6:eQ (β.add s.nx ⟨m.heap.size,0⟩) (Live M {h:=av (some (.loop 0 none e' ps gV body)) s.nx s.h,nx:=s.nx.succ,gr:=s.gr,ty:=s.ty} (β.add s.nx ⟨m.heap.size,0⟩)) w1 (fa++[HV.iK s.nx]++fb) (fs.toList++[Value.func (.yield m.heap.size) #[] #[]]++B.toList):=by have hf:=q.trans x1;refine(eQ.append (eQ.ext hf ⟨by simp[k8],λj v u hv hu=>ka j v u hv (by simpa using hu)⟩) (.cons (.iK s.nx ⟨m.heap.size,0⟩ (by simp[Bt.add])) .nil)).append (eQ.ext hf ⟨by simp[k9],λj v u hv hu=>kb j v u hv (by simpa using hu)⟩)
  have hc:=G M _ w1 _ r1 (k.fix.ext (q.trans x1)) h6;rw[show(fs.toList++[Value.func (.yield m.heap.size) #[] #[]]++B.toList).toArray=fs++ #[Value.func (.yield m.heap.size) #[] #[]]++B by simp]at hc;refine wG (hc.mono ?_);intro en O kd;obtain⟨u,V,rfl,r2,x2,_⟩:=kd;have hj:V s.nx=some ⟨m.heap.size,0⟩:=x2.le _ _ (by simp[Bt.add]);obtain⟨pl,hk,hl⟩:=r2.obj s.nx _ J;rw[hj]at hk;cases hk;cases hl with
  |loop _ _ _ _ _ _ r ko ke b1 b2 b3 b4 b5 b6 b7 b8 b9 Gj=>
  have hq:r.state≠ .busy:=by
   rw[b2];intro hb;have h2:st≠2:=λe=>by rw[e]at E;cases E
   unfold U3 at hb
   split at hb<;>first|(cases hb;done)|exact h2 rfl
  rw[k6]at b3;have A:r.pending=jump:=by cases b3;rfl
  have hr:(Instr.endLoop m.heap.size).run P O=.ok jump (dG O m.heap.size (.loop {r with state:=.exhausted})):=by have h1:(getObj m.heap.size).run P O=.ok (.loop r) O:=eL b1 rfl;have h2:=ig (P:=P) (o':=.loop {r with state:=.exhausted}) b1 rfl;rw[A]at h2;simp[Instr.endLoop,Instr.getLoop,h1,hq,h2,A]
  have r3:=r2.kill s.nx;have hs:Ext M β s w V (s2.kill s.nx) O:=(q.trans x1).trans (x2.trans (Ext.kill s.nx));have h7:¬iO (s2.kill s.nx) V m.heap.size:=by
   rintro⟨o,ob,pl,c1,c2,c3⟩
   have c1:aj (av none s.nx s2.h) o=some ob:=c1;rw[af]at c1;by_cases ho:o=s.nx
   .rw[au ho]at c1;cases c1
   rw[ar ho]at c1;obtain⟨_,t,lo,kp,g',t',kq,kl,c5,_⟩:=r2.apart s.nx o _ _ _ _ J c1 hj c2 (jY ho) c3.symm;cases c5
  have ht:w.heap.size<=m.heap.size:=q.keeps.size;have r4:=r3.qe (o':=.loop {r with state:=.exhausted}) b1 rfl h7;have x4:=hs.qe (o':=.loop {r with state:=.exhausted}) b1 rfl ht k.rel.mlt;have kg:uw lo (Live M (s2.kill s.nx) V) (dG O m.heap.size (.loop {r with state:=.exhausted})) (mark++a.defers):=by obtain⟨rs,m1,m2,m3⟩:=hmarks;refine⟨rs,m1,m2,λy hy=>?_⟩;obtain⟨m6,m4,m5⟩:=m3 y hy;have k0:=lt_of_block m4;have x5:=x1.trans (x2.trans (Ext.kill s.nx));exact⟨m6,(bP O _ (by omega)).trans ((x5.keeps.same y k0 m5).trans m4),λW=>m5 (x5.less y k0 W)⟩
  have D:At M (CR fx P) nt keep H lo V (s2.kill s.nx) e' {a with defers:=mark++a.defers} (dG O m.heap.size (.loop {r with state:=.exhausted})):=
   ⟨r4,k.env.ext x4,k.size,kg,fu k.lo_le x4.keeps.size,k.fix.ext x4,λl0 ki=>let⟨r0,h0⟩:=k.HE l0 ki;x4.loops l0 r0 h0⟩
  refine⟨jump,_,hr,?_⟩;cases jump with
  |none=>rw[hz];exact⟨rfl,V,D,x4⟩
  |some c=>
   rcases hz with⟨rfl,rfl⟩|⟨i,rfl,rfl⟩
   .exact wpIn_ret ⟨rfl,V,D,x4⟩
   exact wpIn_exit ⟨rfl,V,D,x4⟩
 cases H with
 |none=>
  refine key {w with heap:=w.heap.push (.deferred (some []))} [{target:=.collected w.heap.size,args:= #[]}] w.heap.size (k.rel.push _) (Ext.push k.rel.mlt β s _) ?_ ?_
  .simp[Instr.enterLoop];rfl
  obtain⟨rs,m1,m2,m3⟩:=k.marks;refine⟨w.heap.size::rs,by simp[m1],mE.2 ⟨λk1=>?_,m2⟩,λy hy=>?_⟩
  .have:=lt_of_block (m3 _ k1).2.1;omega
  rcases bk.1 hy with rfl|hy
  .exact⟨k.lo_le,by simp,kC k.rel⟩
  obtain⟨m6,m4,m5⟩:=m3 y hy;exact⟨m6,(gN w _ (lt_of_block m4)).trans m4,m5⟩
 |some l0=>obtain⟨r0,h0⟩:=k.HE l0 rfl;have kj:(getObj l0).run P w=.ok (.loop r0) w:=eL h0 rfl;exact key w [] r0.defers k.rel (Ext.refl _ _ _) (by simp[Instr.enterLoop,Instr.getLoop,kj]) k.marks
def nJ{c:HC}{e:En}{s:HS}{x:Ex}{e':En}{s':HS}(g:rZ c=true)(h:ev ih c e s=.code x e' s'):x=.normal:=by
 cases c<;>first|(cases g;done)|skip
 .rename_i f;have h:bR (qt s e f) (λp=>Out.code .normal p.1 p.2) (.bad 50)=.code x e' s':=h;cases b:qt s e f with
  |none=>rw[b]at h;cases h
  |some p=>rw[b]at h;cases h;rfl
 .rename_i t d n;have h:bR (uq s e t d n) (λs'=>Out.code .normal e s') (.bad 51)=.code x e' s':=h;cases b:uq s e t d n with
  |none=>rw[b]at h;cases h
  |some p=>rw[b]at h;cases h;rfl
 cases h
def uD{M:aG}{i:bL}{j:Nat}{β:Bt}{a:Act}{w:World}{c:HC}{e:En}{s:HS}{e':En}{s':HS}{x:Ex}(d:At M (CR fx P) nt keep i j β s e a w)(k:rZ c=true)(h:ev ih c e s=.code x e' s'):
  At M (CR fx P) nt keep i j β s' e' a w/\Ext M β s w β s' w:=by
 cases c<;>first|(cases k;done)|skip
 .rename_i g;have h:bR (qt s e g) (λp=>Out.code .normal p.1 p.2) (.bad 50)=.code x e' s':=h;cases b:qt s e g with
  |none=>rw[b]at h;cases h
  |some p=>obtain⟨l,m⟩:=p;rw[b]at h;cases h;exact zZ d g b
 .rename_i t f n;have h:bR (uq s e t f n) (λs'=>Out.code .normal e s') (.bad 51)=.code x e' s':=h;cases b:uq s e t f n with
  |none=>rw[b]at h;cases h
  |some p=>rw[b]at h;cases h;exact HP d b
 cases h
def eM(hi:hU (CR fx P) P ih)(hm:P.follows .mixedOrders=true):∀(c:HC) (code:Code) (e:En) (s:HS) (x:Ex) (e':En) (s':HS),et P nt keep c code=true->ev ih c e s=.code x e' s'->mD (CR fx P) P nt keep code e s x e' s':=by
 intro c
 induction c with
 |skip=>
  intro code e s x e' s' hc h;cases code<;>first|(simp[et]at hc;done)|skip
  cases h;exact λM z lo β a w k=>wpIn_skip ⟨rfl,β,k,Ext.refl _ _ _⟩
 |ret=>
  intro code e s x e' s' hc h;cases code<;>first|(simp[et]at hc;done)|skip
  cases h;exact λM z lo β a w k=>wpIn_ret ⟨rfl,β,k,Ext.refl _ _ _⟩
 |exit i=>
  intro code e s x e' s' hc h;cases code<;>first|(simp[et]at hc;done)|skip
  simp only[et,bU]at hc;subst hc;cases h;exact λM z lo β a w k=>wpIn_exit ⟨rfl,β,k,Ext.refl _ _ _⟩
 |seq c d m A=>
  intro code e s x e' s' hc h;rw[CY]at hc;cases H:rZ c with
  |true=>
   rw[H,cond_true]at hc;rcases eD (o:=ev ih c e s) (f:=ev ih d) h with⟨B,s1,p,g⟩|⟨p,g⟩
   .intro M z lo β a w k;obtain⟨G,I⟩:=uD k H p;refine wpIn_mono (A _ _ _ _ _ _ hc g M z lo β a w G) ?_
    rintro O V w' ⟨W,β',X,Y⟩
    exact⟨W,β',X,I.trans Y⟩
   exact absurd (nJ H p) g
  |false=>
   rw[H,cond_false]at hc;cases code<;>first|(cases hc;done)|skip
   simp only[aL]at hc;rcases eD (o:=ev ih c e s) (f:=ev ih d) h with⟨B,s1,p,g⟩|⟨p,g⟩
   .exact(m _ _ _ _ _ _ hc.1 p).seq (λ_=>A _ _ _ _ _ _ hc.2 g) (λD=>absurd rfl D)
   exact(m _ _ _ _ _ _ hc.1 p).seq (λD=>absurd D g) (λ_=>⟨rfl,rfl,rfl⟩)
 |cond b c d m A=>
  intro code e s x e' s' hc h;cases code<;>first|(simp[et]at hc;done)|skip
  simp only[et,aL]at hc;have h:bR (bw b e) (λv=>v.asBool (ev ih c e s) (ev ih d e s) (.bad 8)) (.bad 8)=.code x e' s':=h;cases hb:bw b e with
  |none=>rw[hb]at h;cases h
  |some v=>
   rw[hb]at h;cases v<;>first|(cases h;done)|skip
   rename_i q;intro M z lo β a w k;have hv:=aH k.env.toV hc.1.1 hb;rename_i Z _ _;generalize N:a.eval Z=u at hv;cases hv;cases q with|true=>exact wpIn_cond_true N (m _ _ _ _ _ _ hc.1.2 h M z lo β a w k)|false=>exact wpIn_cond_false N (A _ _ _ _ _ _ hc.2 h M z lo β a w k)
 |block i c m=>
  intro code e s x e' s' hc h;cases code<;>first|(simp[et]at hc;done)|skip
  simp only[et,aL,bU]at hc;obtain⟨rfl,hc⟩:=hc;cases E:ev ih c e s with
  |val v s1=>
   have h:(.bad 9:Out)=.code x e' s':=by have g:=h;simp only[ev]at g E;rw[E]at g;exact g
   cases h
  |bad w=>
   have h:(.bad w:Out)=.code x e' s':=by have g:=h;simp only[ev]at g E;rw[E]at g;exact g
   cases h
  |code y B s1=>
   have h:(Ex.rec (motive:=λ_=>Out) (Out.code .normal B s1) (Out.code .ret B s1) (λj=>gW (Nat.beq i j) (Out.code .normal B s1) (Out.code (.exit j) B s1)) y:Out)=.code x e' s':=by have g:=h;simp only[ev]at g E;rw[E]at g;exact g
   intro M z lo β a w k;refine wpIn_block (wpIn_mono (m _ _ _ _ _ _ hc E M z lo β a w k) ?_);intro O V w' J;obtain⟨rfl,β',p,g⟩:=J;cases y with
   |normal=>cases h;exact⟨rfl,β',p,g⟩
   |ret=>cases h;exact⟨rfl,β',p,g⟩
   |exit j=>
    have h:gW (Nat.beq i j) (Out.code .normal B s1) (Out.code (.exit j) B s1)=.code x e' s':=h;cases r:Nat.beq i j with
    |true=>rw[bf]at r;subst r;rw[qJ]at h;cases h;simp only[Ex.to,Exit.inBlock,bp];exact⟨trivial,β',p,g⟩
    |false=>
     rw[r]at h;cases h;have L:j≠i:=λe=>by subst e;rw[qJ]at r;cases r
     simp only[Ex.to,Exit.inBlock,ar L];exact⟨trivial,β',p,g⟩
 |loop c m=>
  intro code e s x e' s' hc h;cases code<;>first|(simp[et]at hc;done)|skip
  simp only[et]at hc;refine oX.code ?_;rcases eD (o:=ev ih c e s) (f:=λe' s'=>ih (.loop c e' s')) h with⟨B,s1,p,g⟩|⟨p,g⟩
  .exact oX.seq (m _ _ _ _ _ _ hc p) (λ_=>hi.loop nt keep c _ hc _ _ _ _ _ g) (λD=>absurd rfl D)
  exact oX.seq (m _ _ _ _ _ _ hc p) (λD=>absurd D g) (λ_=>⟨rfl,rfl,rfl⟩)
 |rg outs l=>
  intro code e s x e' s' hc h;cases code<;>first|(simp[et]at hc;done)|skip
  rename_i id goops q;cases q<;>first|(simp[et]at hc;done)|skip
  simp only[et,aL]at hc;exact I4 hi hc.1 hc.2 h
 |Li outs main cy=>
  intro code e s x e' s' hc h;cases code<;>first|(simp[et]at hc;done)|skip
  rename_i id goops q;cases q<;>first|(simp[et]at hc;done)|skip
  simp only[et,aL]at hc;exact HO hi hm hc.1 hc.2 h
 |rf x ps gV body _ _=>
  intro code e s x e' s' hc h;cases code<;>first|(simp[et]at hc;done)|skip
  exact Jc hi hc h
 |K8 ts=>intro code e s x e' s' hc h;simp[et]at hc
 |OB t bj n=>intro code e s x e' s' hc h;simp[et]at hc
 |gh keep=>intro code e s x e' s' hc h;simp[et]at hc
end code
def vk(P:Program):List Rs->List ResultVar->Bool
 |[],[]=>true
 |.tmp n::r,.tmp t::s=>n==t&&vk P r s
 |.cell n none::r,.cell b t::s=>n==b&&dM P t==some false&&vk P r s
 |.cell n (some k)::r,.cell b t::s=>n==b&&dM P t==some true&&dI P t==some k&&vk P r s
 |_,_=>false
def pq(P:Program)(f:FuncId)(F:HF):Bool:=match P.funcs[f]?with
 |some fn=>fn.ntmps==F.nt&&decide (F.np<=F.nt)&&(List.range F.np).all (λi=>F.keep.contains i)&&vk P F.rs fn.results.toList&&
   (match fn.body with|some c=>et P F.nt F.keep F.c c|none=>false)&&fn.name != "runtime.NumGoroutine"
 |none=>false
def EJ(tmps:Array Value):ResultVar->Sem Value
 |.tmp t=>pure (tmps.getD t undef)
 |.cell b t=>do loadVar t (<-asAddr (tmps.getD b undef))
def qB{P:Program}{w:World}{γ:Type}(f:ResultVar->Sem γ)(x:ResultVar)(xs:List ResultVar){b:γ}{c:List γ}(d:(f x).run P w=.ok b w)(g:(xs.mapM f).run P w=.ok c w):
  ((x::xs).mapM f).run P w=.ok (b::c) w:=by
 simp only[List.mapM_cons,Sem.run_bind,d,g,Result.andThen_ok,Sem.run_pure]
def EK{γ:Type}(f:ResultVar->Sem γ)(xs:Array ResultVar):(xs.mapM f:Sem (Array γ))=(List.toArray<$>xs.toList.mapM f):=by rw[Pb]
section fn
variable{M:aG}{fx:Nat->Option Obj}{P:Program}{β:Bt}{s:HS}{w:World}{keep:az}
def z6{e:En}{tm:Array Value}(E:bW M (CR fx P) β s w)(D:nm β (Live M s β) w keep e tm):∀(i:List Rs) (vs:List ResultVar) (l:ai),vk P i vs=true->dF e s i=some l->
  ∃g:List Value,(vs.mapM (EJ tm)).run P w=.ok g w/\eQ β (Live M s β) w l g:=by
 intro i
 induction i with
 |nil=>intro vs l d h;cases vs<;>simp[vk]at d;cases h;exact⟨[],rfl,.nil⟩
 |cons r i ih=>
  intro vs l d h;cases vs with
  |nil=>cases r<;>(try rename_i k;cases k)<;>simp[vk]at d
  |cons v vs=>
   cases r with
   |tmp n=>
    cases v<;>simp only[vk,aL,bU,df]at d;obtain⟨rfl,d⟩:=d;unfold dF at h
    split at h
    .rename_i x f j m;cases h;obtain⟨g,A,B⟩:=ih vs f d m;exact⟨_,qB _ _ _ rfl A,.cons (D n x j).2 B⟩
    cases h
   |cell n y=>
    have q:∃b t,v=.cell b t/\n=b/\ldT P t y/\vk P i vs=true:=by
     cases y with
     |none=>cases v<;>simp only[vk,aL,bU,df]at d;exact⟨_,_,rfl,d.1.1,d.1.2,d.2⟩
     |some k=>cases v<;>simp only[vk,aL,bU,df]at d;exact⟨_,_,rfl,d.1.1.1,⟨d.1.1.2,d.1.2⟩,d.2⟩
    obtain⟨b,t,rfl,rfl,q,d⟩:=q;have key:∀(p:HV) (x:HV) (f:ai),look e n=some p->p.kS (λo k=>s.load o k y) (my p y)=some x->dF e s i=some f->l=x::f->
      ∃g:List Value,((ResultVar.cell n t::vs).mapM (EJ tm)).run P w=.ok g w/\eQ β (Live M s β) w l g:=by
     rintro p x f u j m rfl
     obtain⟨g,A,B⟩:=ih vs f d m;obtain⟨J,G,z,H,I⟩:=wm (P:=P) E q (D n p u).2 j;refine⟨z::g,qB _ _ _ ?_ A,.cons I B⟩;simp only[EJ,G];simp[asAddr,H]
    unfold dF at h
    split at h
    .rename_i o k u
     split at h
     .rename_i x f j m;cases h;exact key _ x f u j m rfl
     cases h
    .rename_i c u
     split at h
     .rename_i x f j m;cases h;exact key _ x f u j m rfl
     cases h
    cases h
def uE{F:HF}{fn:Func}{e:En}{tm:Array Value}(r:bW M (CR fx P) β s w)(t:nm β (Live M s β) w keep e tm)(y:vk P F.rs fn.results.toList=true){v:HV}{s':HS}(h:leave F e s=.val v s'):
  s'=s/\∃u,(results fn tm).run P w=.ok u w/\HR β (Live M s β) w v u:=by
 have c:∀b:List Value,(fn.results.toList.mapM (EJ tm)).run P w=.ok b w->(results fn tm).run P w=.ok (if h:b.toArray.size=1 then b.toArray[0]else .tuple b.toArray) w:=λb f=>by show(do let g<-fn.results.mapM (EJ tm);pure (if h:g.size=1 then g[0]else .tuple g):Sem Value).run P w=_;rw[EK,show(List.toArray<$>fn.results.toList.mapM (EJ tm):Sem (Array Value))=(do let l<-fn.results.toList.mapM (EJ tm);pure l.toArray) from rfl];simp only[Sem.run_bind,f,Result.andThen_ok,Sem.run_pure]
 unfold leave at h
 split at h
 .rename_i x j;cases h;obtain⟨b,k,d⟩:=z6 r t _ _ _ y j;obtain⟨u,m,rfl,z,A⟩:=d.split;have:m=[]:=ja A.1;subst this;exact⟨rfl,u,by rw[c _ k];simp,z⟩
 .rename_i l o B;cases h;obtain⟨b,k,d⟩:=z6 r t _ _ _ y B;refine⟨rfl,.tuple b.toArray,?_,.cO l b.toArray (by simp[d.1]) λi x u j D=>d.2 i x u j (by simpa using D)⟩;rw[c _ k,dif_neg];intro p;have q:l.length=1:=by rw[<-d.1];simpa using p
  match l,q with|[x],_=>exact o x rfl
 cases h
def A5{fn:Func}{e:En}{tm:Array Value}{β0:Bt}{s0:HS}{w0:World}{R:Ending->World->Prop}(j:∀b,M b->b<w0.heap.size)
  (fin:∀w',bW M (CR fx P) β s w'->Ext M β0 s0 w0 β s w'->nm β (Live M s β) w' keep e tm->∃u,(results fn tm).run P w'=.ok u w'/\R (.returned u) w'):
  ∀(g:az) (w:World),g.Nodup->(∀r∈g,w0.heap.size<=r/\w.heap[r]?=some (.deferred (some []))/\¬Live M s β r)->bW M (CR fx P) β s w->Ext M β0 s0 w0 β s w->nm β (Live M s β) w keep e tm->
   LeavesInM Fence.wide 0 P fn tm R (g.map λr=>{target:=.collected r,args:= #[]}) .returning w:=by
 intro g
 induction g with
 |nil=>intro w _ _ l m o;exact fin w l m o
 |cons r g ih=>
  intro w d c l m o;obtain⟨z,h,A⟩:=c r dr;obtain⟨p,d⟩:=mE.1 d;refine⟨by simp,.inl ⟨r,dG w r (.deferred none),rfl,?_,?_⟩⟩
  .have B:(getObj r).run P w=.ok (.deferred (some [])) w:=eL h rfl;have D:=ig (P:=P) (o':=.deferred none) h rfl;simp[Instr.takeDeferred,B,D]
  have f:=λx k v=>tw (o':=.deferred none) h rfl x k v
  have i:=λx E n=>jq (o':=.deferred none) h rfl x E n
  refine ih _ d (λy t=>?_) (l.qe h rfl λG=>A (.inr G)) (m.qe h rfl z j) (o.vj f i (by simp[dG]));obtain⟨H,I,J⟩:=c y (cY _ t);have q:y≠r:=λe=>p (e▸t)
  exact⟨H,(bP w _ q).trans I,J⟩
def qR:∀(l:ai) (i t:Nat),look (bc l i) t=if i<=t then l[t-i]?else none
 |[],i,t=>by simp[bc,look]
 |v::l,i,t=>by
  have:bc (v::l) i=.cons i v (bc l (i+1)):=rfl;rw[this,ei,qR l (i+1) t];by_cases h:i=t
  .subst h;simp
  rw[ar h];by_cases b:i<=t
  .rw[au (by omega),au b,show t-i=(t-(i+1))+1 by omega];simp
  rw[ar (by omega),ar b]
def EM{ih:Task->Out}(L:hU (CR fx P) P ih)(N:P.follows .mixedOrders=true){f:Nat}{F:HF}(q:pq P f F=true){args:ai}{v:HV}{s s':HS}(h:dO F ih args s=.val v s'):
  dQ P f/\∀(M:aG) β w (vs:List Value),bW M (CR fx P) β s w->jG (CR fx P) (Live M s β) w->eQ β (Live M s β) w args vs->Calls P f vs.toArray w (qw M (CR fx P) β s w v s'):=by
 unfold dO at h;unfold pq at q
 split at q
 case h_2=>cases q
 rename_i fn r;simp only[aL,bU,bY,fG,fX,wv,ne_eq]at q;obtain⟨⟨⟨⟨⟨O,V⟩,j⟩,z⟩,A⟩,k⟩:=q
 split at A
 case h_2=>cases A
 rename_i c b;refine⟨⟨fn,r,by rw[b];rfl,by simpa using k⟩,λM β w vs H B m=>?_⟩;cases d:Nat.beq (aM args) F.np with
 |false=>rw[d]at h;cases h
 |true=>
 rw[d]at h;rw[bf,bK]at d;cases g:ev ih F.c (bc args 0) s with
 |val x y=>rw[g]at h;cases h
 |bad x=>rw[g]at h;cases h
 |code x I W=>
 rw[g]at h;have o:(x=.normal∨x=.ret)/\leave F I W=.val v s':=by
  cases x with
  |normal=>exact⟨.inl rfl,h⟩
  |ret=>exact⟨.inr rfl,h⟩
  |exit i=>cases h
 refine callsIn_wide (n:=0).1 (callsIn_of_wp_marks r b trivial ?_);have X:vs.length=F.np:=m.1.trans d;have D:At M (CR fx P) F.nt F.keep none w.heap.size β s (bc args 0) {tmps:=vs.toArray++Array.replicate (fn.ntmps-vs.toArray.size) undef,defers:=[]} w:=by
  refine⟨H,λt x o=>?_,?_,.nil,aV _,B,λl d=>by cases d⟩
  .rw[qR]at o;simp only[fN,bp,I5]at o;have Y:t<args.length:=(aU.1 o).1;refine⟨by simpa using j t (by omega),m.2 t x _ o ?_⟩;have p:t<vs.length:=by rw[m.1];exact Y
   rw[aX p];simp only[fM];rw[Ew (by simpa using p)];simp[p]
  simp;omega
 refine wpIn_mono (eM L N _ _ _ _ _ _ _ A g M none w.heap.size β _ w D) ?_;intro en Z w' E;obtain⟨rfl,β',G,h2⟩:=E;obtain⟨rs,m1,m2,m3⟩:=G.marks;have d:=A5 (fn:=fn) (e:=I) (tm:=Z.tmps) (keep:=F.keep) (R:=qw M (CR fx P) β s w v s') (β0:=β) (s0:=s) (w0:=w) H.mlt (λw2 J x1 he=>by
  obtain⟨rfl,u,q1,q2⟩:=uE J he z o.2;exact⟨u,q1,u,β',rfl,J,x1,q2⟩) rs w' m2 m3 G.rel h2 G.env
 rw[<-m1]at d;rcases o.1 with rfl|rfl
 .exact d
 exact d
end fn
section fn
variable{fx:Nat->Option Obj}{P:Program}
def wQ(e:En):∀(ps:az) (l:ai) (t:Nat) (v:HV),look (oK e ps l) t=some v->(∃j:Nat,ps[j]?=some t/\l[j]?=some v)∨look e t=some v
 |[],l,t,v,h=>.inr (by cases l<;>exact h)
 |p::q,[],t,v,h=>.inr h
 |p::q,x::r,t,v,h=>by
  rw[oK,ei]at h
  split at h
  .rename_i c;subst c;cases h;exact .inl ⟨0,rfl,rfl⟩
  rcases wQ e q r t v h with⟨j,b,d⟩|b
  .exact .inl ⟨j+1,by simpa using b,by simpa using d⟩
  exact .inr b
def C0:∀(l:List (Nat×Value)) (tm:Array Value),(l.map (·.1)).Nodup->(∀p∈l,p.1<tm.size)->
  (l.foldl (λtmps (x:Nat×Value)=>tmps.setIfInBounds x.1 x.2) tm).size=tm.size/\(∀t x,(t,x)∈l->(l.foldl (λtmps (x:Nat×Value)=>tmps.setIfInBounds x.1 x.2) tm).getD t Go.undef=x)/\
   ∀t,t ∉ l.map (·.1)->(l.foldl (λtmps (x:Nat×Value)=>tmps.setIfInBounds x.1 x.2) tm).getD t Go.undef=tm.getD t Go.undef
 |[],tm,_,_=>⟨rfl,by simp,λ_ _=>rfl⟩
 |(a,b)::r,tm,d,c=>by
  simp only[bX,mE]at d;obtain⟨i,j,h⟩:=C0 r (tm.setIfInBounds a b) d.2 (λp k=>by simpa using c p (cY _ k));refine⟨by simpa using i,λt x f=>?_,λt g=>?_⟩
  .rcases bk.1 f with e|f
   .cases e;have m:a<tm.size:=c (a,b) dr;rw[nw,h a d.1];simp[fM,m]
   exact j t x f
  simp only[bX,bk,not_or]at g;rw[nw,h t g.2];simp[fM,oS (jY g.1)]
def C1{ih:Task->Out}(hi:hU (CR fx P) P ih)(hm:P.follows .mixedOrders=true){l:Ky}{args:ai}{v:HV}{s s':HS}(h:fB ih l args s=.val v s')(M:aG)(β:Bt)(w:World)(pl:Pl)(vs:List Value)
  (hr:bW M (CR fx P) β s w)(km:jG (CR fx P) (Live M s β) w)(kb:β l=some pl)(L:eQ β (Live M s β) w args vs):
  ∃r:Loop,w.heap[pl.b]?=some (.loop r)/\r.params.size=vs.length/\RoundIn Fence.wide 0 P pl.b r.fn ((r.params.zip vs.toArray).foldl (λtmps (t,x)=>tmps.setIfInBounds t x) r.tmps) r.assign r.body w (qw M (CR fx P) β s w v s'):=by
 unfold fB at h
 split at h
 case h_2=>cases h
 rename_i x0 x5 e f x6 body kn;obtain⟨m,h8,kc⟩:=hr.obj l _ kn;rw[kb]at h8;cases h8;cases kc with
 |loop _ _ _ _ _ _ r nt keep b1 b2 b3 b4 b5 b6 b7 b8 b9 Gj=>
 cases hlen:Nat.beq (aM args) (aM f)with
 |false=>rw[hlen]at h;cases h
 |true=>
 rw[hlen,cond_true]at h;rw[bf,bK,bK]at hlen;have kd:r.params.size=f.length:=by rw[<-b6];simp
 refine⟨r,b1,by rw[kd,L.1];exact hlen.symm,?_⟩
 split at h
 case h_2=>cases h
 rename_i e1 s1 ke
 split at h
 case h_2=>cases h
 rename_i st pd e' ha N A O;cases h4:Nat.beq st 0 with
 |false=>rw[h4]at h;cases h
 |true=>
 rw[h4,cond_true]at h;rw[bf]at h4;subst h4;have kg:∃(y:Ex) (e2:En) (s2:HS),ev ih body e1 (s1.aJ l (.loop 2 pd e' ha N A))=.code y e2 s2/\
   ∃(o:Nat) (c:Option HC) (jump:Option Code),fK l o c s2=.val v s'/\Eh c=some jump/\jump=(match y with|.normal=>none|.ret=>some .ret|.exit i=>some (.exit i))/\o=(if jump.isNone then 0 else 1):=by
  split at h
  .rename_i e2 s2 B;exact⟨_,_,_,B,0,none,none,h,rfl,rfl,rfl⟩
  .rename_i e2 s2 B;exact⟨_,_,_,B,1,some .ret,some .ret,h,rfl,rfl,rfl⟩
  .rename_i i e2 s2 B;exact⟨_,_,_,B,1,some (.exit i),some (.exit i),h,rfl,rfl,rfl⟩
  cases h
 obtain⟨y,e2,s2,B,o,c,jump,I,hd,D,h9⟩:=kg;have ki:(r.params.zip vs.toArray).foldl (λtmps (t,x)=>tmps.setIfInBounds t x) r.tmps=(f.zip vs).foldl (λtmps (x:Nat×Value)=>tmps.setIfInBounds x.1 x.2) r.tmps:=by rw[<-Array.foldl_toList,Array.toList_zip,b6]
 have G:(f.zip vs).map (·.1)=f:=by rw[List.map_fst_zip];rw[L.1,hlen];exact aV _
 obtain⟨f1,f2,f3⟩:=C0 (f.zip vs) r.tmps (by rw[G];exact b8) (λp hp=>by
  have:p.1∈f:=by rw[<-G];exact Jd hp
  rw[b5];exact(b7 _ this).2)
 rw[<-ki]at f1 f2 f3;generalize x7:(r.params.zip vs.toArray).foldl (λtmps (t,x)=>tmps.setIfInBounds t x) r.tmps=tm at f1 f2 f3;have ko:At M (CR fx P) nt keep (some pl.b) w.heap.size β s (oK e f args) {tmps:=tm,defers:=[]} w:=by
  refine⟨hr,λt x hx=>?_,f1.trans b5,.nil,aV _,km,λl0 kp=>?_⟩
  .rcases wQ e f args t x hx with⟨j,z,h2⟩|z
   .have u:=cE z;refine⟨(b7 t u).1,?_⟩;have hj:j<vs.length:=by rw[L.1];exact(aU.1 h2).1
    have hz:(t,vs[j])∈f.zip vs:=cE (i:=j) (by rw[PL];exact⟨z,aX hj⟩);show HR β (Live M s β) w x (tm.getD t Go.undef);rw[f2 t _ hz];exact L.2 j x _ h2 (aX hj)
   by_cases u:t∈f
   .
    obtain⟨j,hf⟩:=List.getElem?_of_mem u;have hg:j<args.length:=by have:=(aU.1 hf).1;omega
    refine⟨(b7 t u).1,?_⟩;have kj:∀(f:az) (l:ai) (j:Nat),f.Nodup->f[j]?=some t->(hj:j<l.length)->look (oK e f l) t=some l[j]:=by
     intro f
     induction f with
     |nil=>intro l j _ z _;simp at z
     |cons p q ih=>
      intro l j hn z hj;cases l with
      |nil=>simp at hj
      |cons y l=>
       cases j with
       |zero=>simp at z;subst z;rw[oK,ei,au rfl];rfl
       |succ j=>
        have hl:p≠t:=λe=>(mE.1 hn).1 (by rw[e];exact cE (by simpa using z))
        rw[oK,ei,ar hl];simpa using ih l j (mE.1 hn).2 (by simpa using z) (by simpa using hj)
    rw[kj f args j b8 hf hg]at hx;cases hx;have hj:j<vs.length:=by rw[L.1];exact hg
    have hz:(t,vs[j])∈f.zip vs:=cE (i:=j) (by rw[PL];exact⟨hf,aX hj⟩);show HR β (Live M s β) w _ (tm.getD t Go.undef);rw[f2 t _ hz];exact L.2 j _ _ (aX hg) (aX hj)
   obtain⟨h2,h3⟩:=b4 t x z;refine⟨h2,?_⟩;show HR β (Live M s β) w x (tm.getD t Go.undef);rw[f3 t (by rw[G];exact u)];exact h3
  cases kp;exact⟨r,b1⟩
 refine roundIn_of_wpIn trivial (wpIn_mono (eM hi hm _ _ _ _ _ _ _ b9 ke M (some pl.b) w.heap.size β _ w ko) ?_);intro en a1 w1 kq;obtain⟨rfl,β1,z,x1⟩:=kq;have h5:β1 l=some pl:=x1.le _ _ kb;obtain⟨x8,c1,ho⟩:=z.rel.obj l _ O;rw[h5]at c1;cases c1;cases ho with
 |loop _ _ _ _ _ _ r1 kr hq d1 d2 d3 d4 d5 d6 d7 d8 d9 ks=>
 have J:∀(s3:HS) (β3:Bt) (w3:World) (hs:Ob),bW M (CR fx P) β3 s3 w3->aj s3.h l=some hs->(∀t lo hi g,hs≠ .cells t lo hi g)->β3 l=some pl->∀o' d m,o'≠l->aj s3.h o'=some d->β3 o'=some m->m.b=pl.b->False:=by intro s3 β3 w3 hs kt ku hl kv o' d m hn V W hb;obtain⟨_,t,lo,x9,g',t',xa,kz,c5,_⟩:=kt.apart l o' _ _ _ _ ku V kv W (jY hn) hb.symm;exact hl _ _ _ _ c5
 have h6:r1.state=.ready:=d2;have h7:(Instr.beginRound pl.b).run P w1=.ok () (dG w1 pl.b (.loop {r1 with state:=.busy})):=by have g1:(getObj pl.b).run P w1=.ok (.loop r1) w1:=eL d1 rfl;have g2:=ig (P:=P) (o':=.loop {r1 with state:=.busy}) d1 rfl;simp[Instr.beginRound,Instr.getLoop,g1,g2,h6]
 obtain⟨r2,x2⟩:=z.rel.oE (w':=dG w1 pl.b (.loop {r1 with state:=.busy})) (jV:=.loop 2 pd e' ha N A) O h5 (by simp[dG]) (λb hb=>bP w1 _ hb) (λb E n hh=>jq d1 rfl b E n hh) rfl rfl rfl
  (λr0 _=>⟨_,fE d1⟩) (λhk=>.loop 2 pd e' ha N A {r1 with state:=.busy} kr hq (fE d1) rfl d3 (d4.keep (Bt.le_refl _) (ie.refl _ _) hk) d5 d6 d7 d8 d9 ks)
  (λo' d m hn V W hb _=>(J _ _ _ _ z.rel O (λ_ _ _ _ h=>by cases h) h5 o' d m hn V W hb).elim) (.inr ⟨(λ_ _ _ _ h=>by cases h),(λ_ _ _ _ h=>by cases h)⟩)
 refine⟨_,h7,?_⟩;have kk:=z.later r2 x2;refine wpIn_mono (eM hi hm _ _ _ _ _ _ _ Gj B M (some pl.b) w.heap.size β1 a1 _ kk) ?_;intro xb a2 w2 kl;obtain⟨rfl,β2,h2,x3⟩:=kl;unfold fK at I
 split at I
 case h_2=>cases I
 rename_i xc xd e3 ht X H Y;cases I;have hy:β2 l=some pl:=x3.le _ _ h5;obtain⟨xe,c2,k0⟩:=h2.rel.obj l _ Y;rw[hy]at c2;cases c2;cases k0 with
 |loop _ _ _ _ _ _ r3 kx ka k1 k2 k3 k4 k5 k6 k7 k8 k9 ky=>
 have Z:(Instr.endRound pl.b jump).run P w2=.ok (.bool jump.isNone) (dG w2 pl.b (.loop {r3 with state:=if jump.isNone then .ready else .done,pending:=jump})):=by have g1:(getObj pl.b).run P w2=.ok (.loop r3) w2:=eL k1 rfl;have g2:=ig (P:=P) (o':=.loop {r3 with state:=if jump.isNone then .ready else .done,pending:=jump}) k1 rfl;unfold Instr.endRound Instr.getLoop;simp only[Sem.run_bind,g1,Result.andThen_ok,Sem.run_pure];rw[g2];rfl
 obtain⟨r4,x4⟩:=h2.rel.oE (w':=dG w2 pl.b (.loop {r3 with state:=if jump.isNone then .ready else .done,pending:=jump})) (jV:=.loop o c e3 ht X H) Y hy (by simp[dG]) (λb hb=>bP w2 _ hb) (λb E n hh=>jq k1 rfl b E n hh) rfl rfl rfl
  (λr0 _=>⟨_,fE k1⟩) (λhk=>.loop o c e3 ht X H {r3 with state:=if jump.isNone then .ready else .done,pending:=jump} kx ka (fE k1) (by rw[h9];cases jump<;>rfl) hd (k4.keep (Bt.le_refl _) (ie.refl _ _) hk) k5 k6 k7 k8 k9 ky)
  (λo' d m hn V W hb _=>(J _ _ _ _ h2.rel Y (λ_ _ _ _ h=>by cases h) hy o' d m hn V W hb).elim) (.inr ⟨(λ_ _ _ _ h=>by cases h),(λ_ _ _ _ h=>by cases h)⟩)
 have k:qw M (CR fx P) β s w (.bool (Nat.beq o 0)) (s2.aJ l (.loop o c e3 ht X H)) (.returned (.bool jump.isNone)) (dG w2 pl.b (.loop {r3 with state:=if jump.isNone then .ready else .done,pending:=jump})):=by
  refine⟨.bool jump.isNone,β2,rfl,r4,((x1.trans x2).trans x3).trans x4,?_⟩;have:Nat.beq o 0=jump.isNone:=by rw[h9];cases jump<;>rfl
  rw[this];exact .bool _
 cases y with|normal=>subst D;exact⟨_,_,Z,k⟩|ret=>subst D;exact⟨_,_,Z,k⟩|exit i=>subst D;exact⟨_,_,Z,k⟩
def wR(fx:Nat->Option Obj)(P:Program)(f:Nat)(fn:ai->HS->Out):Prop:=∀args s v s',fn args s=.val v s'->
 dQ P f/\∀(M:aG) β w (b:List Value),bW M (CR fx P) β s w->jG (CR fx P) (Live M s β) w->eQ β (Live M s β) w args b->Calls P f b.toArray w (qw M (CR fx P) β s w v s')
def EN(args:ai)(s:HS):Out:=match args with|[.psl []]=>.val (.psl []) s|_=>.bad 61
end fn
section libs
variable{M:aG}{C:eR}{fx:Nat->Option Obj}{P:Program}{β:Bt}{s:HS}{w:World}
def tA:∀(f n:Nat),n<10^f->0<f->(Lib.decDigits n).map UInt8.toNat=dT f n
 |0,n,_,h=>absurd h (ec _)
 |f+1,n,h,_=>by
  rw[Lib.decDigits,dT];by_cases b:n<10
  .rw[dif_pos b,ck.2 b,cond_true];simp;omega
  have:Nat.blt n 10=false:=by cases c:Nat.blt n 10 with|false=>rfl|true=>exact absurd (ck.1 c) b
  rw[dif_neg b,this,cond_false];have d:0<f:=by
   rcases f with _|f
   .simp at h;omega
   omega
  rw[eU,tA f (n/10) (by rw[Nat.pow_succ]at h;omega) d];simp;omega
def bW.grow(b:bW M C β s w):∀(os:List Obj) (w:World),bW M C β s w->bW M C β s {w with heap:=w.heap++os.toArray}/\Ext M β s w β s {w with heap:=w.heap++os.toArray}
 |[],w,h=>by
  have:({w with heap:=w.heap++([]:List Obj).toArray}:World)=w:=by simp
  rw[this];exact⟨h,Ext.refl _ _ _⟩
 |x::r,w,h=>by
  have c:=h.push x;have d:=Ext.push (M:=M) h.mlt β s x;obtain⟨f,g⟩:=bW.grow b r _ c;have:({w with heap:=w.heap++(x::r).toArray}:World)={({w with heap:=w.heap.push x}:World)with heap:=({w with heap:=w.heap.push x}:World).heap++r.toArray}:=by simp
  rw[this];exact⟨f,d.trans g⟩
def A6{f b0:Nat}{o0:Obj}(t:dQ P f)(o:fx b0=some o0)
  (h:∀(n:Int) (w:World),-9223372036854775808<=n->n<=9223372036854775807->w.heap[b0]?=some o0->Calls P f #[.int .i64 n,.int .i64 10] w λe w'=>e=.returned (.string ⟨(Lib.itoa n).toArray⟩)/\∃k os,w'=Go.Sort.grow (w.drewN k) os):
  wR fx P f wh:=by
 have key:∀(n:Int) (l:az),-9223372036854775808<=n->n<=9223372036854775807->eb ⟨(Lib.itoa n).toArray⟩=l->∀(M:aG) β s w (i:List Value),bW M (CR fx P) β s w->jG (CR fx P) (Live M s β) w->
   eQ β (Live M s β) w [.int .i64 n,.int .i64 (.ofNat 10)] i->Calls P f i.toArray w (qw M (CR fx P) β s w (.str l) s):=by
  rintro n l x y z M β s w i j m c
  obtain⟨u,I,rfl,A,B⟩:=c.split;obtain⟨J,p,rfl,D,E⟩:=B.split;have:p=[]:=by have:=E.1;simpa using this
  subst this;cases A;cases D;refine(h n w x y (m b0 o0 o).1).mono ?_
  rintro e w' ⟨rfl,k,os,rfl⟩
  have q:bW M (CR fx P) β s (w.drewN k):=j.drawn rfl;obtain⟨G,H⟩:=bW.grow j os.toList (w.drewN k) q;have:Go.Sort.grow (w.drewN k) os={heap:=(w.drewN k).heap++os.toList.toArray,tape:=(w.drewN k).tape,drawn:=(w.drewN k).drawn,os:=(w.drewN k).os,output:=(w.drewN k).output}:=by simp[Go.Sort.grow]
  rw[this];exact⟨_,β,rfl,G,(Ext.drawn (w:=w) (w':=w.drewN k) rfl rfl rfl rfl).trans H,by rw[<-z];exact .str _⟩
 intro args s v s' d;unfold wh at d
 split at d
 .rename_i n b;cases g:(Nat.blt n 9223372036854775808&&Nat.beq b 10)with
  |false=>rw[g]at d;cases d
  |true=>
   rw[g,cond_true]at d;cases d;rw[aL,ck,bf]at g;obtain⟨g,rfl⟩:=g;refine⟨t,λM β w i j m c=>key (.ofNat n) _ (by simp<;>omega) (by simp<;>omega) ?_ M β s w i j m c⟩;have r:¬(Int.ofNat n<0):=by simp
   simp only[Lib.itoa,ar r,eb];exact tA 25 n (by omega) (by decide)
 .rename_i n b;cases g:(Nat.blt n 9223372036854775808&&Nat.beq b 10)with
  |false=>rw[g]at d;cases d
  |true=>rw[g,cond_true]at d;cases d;rw[aL,ck,bf]at g;obtain⟨g,rfl⟩:=g;refine⟨t,λM β w i j m c=>key (.negSucc n) _ (by omega) (by omega) ?_ M β s w i j m c⟩;simp only[Lib.itoa,au (Int.negSucc_lt_zero n),eb,bX];rw[<-tA 25 (n+1) (by omega) (by decide)];rfl
 cases d
def C2{L:jE}(hf:dQ P L.dw)
  (hu:∀(b:Nat) (w:World),w.cell? ⟨b,0,none⟩=some (.pointer (some ⟨b,0,none⟩))->Calls P L.dw #[.pointer (some ⟨b,0,none⟩)] w λe w'=>e=.returned (.tuple #[])/\w'=w)
  (hn:∀(b:Nat) (w:World),w.cell? ⟨b,0,none⟩=some (.pointer none)->w.shape? b=some (L.bt,2)->w.frozen? ⟨b,0,none⟩=false->
   Calls P L.dw #[.pointer (some ⟨b,0,none⟩)] w λe w'=>e=.returned (.tuple #[])/\w'=w.setCell ⟨b,0,none⟩ (.pointer (some ⟨b,0,none⟩))):
  wR fx P L.dw (ur L):=by
 intro args s v s' d;unfold ur at d
 split at d
 case h_2=>cases d
 rename_i o
 split at d
 case h_2=>cases d
 rename_i E n G;cases B:(Nat.beq E L.bt&&Nat.beq n 2)with
 |false=>rw[B]at d;cases d
 |true=>
 rw[B,cond_true]at d;rw[aL,bf,bf]at B;obtain⟨rfl,rfl⟩:=B;refine⟨hf,λM β w vs q hx H=>?_⟩;obtain⟨u,us,rfl,h4,h5⟩:=H.split;have:us=[]:=by have:=h5.1;simpa using this
 subst this;obtain⟨pl,h,⟨m,⟨cs,fr,r,I⟩,hm⟩,hs⟩:=q.zl o _ _ G;have h1:pl.s=0:=hs (by decide);have J:m=2:=hm.resolve_left (by decide);cases h4 with
 |ptr _ _ y f hk=>
 rw[h]at f;cases f;have c:(0:Nat)-pl.s=0:=by omega
 rw[c]
 split at d
 .rename_i O
  split at d
  case h_2=>cases d
  rename_i s2 z;cases d;obtain⟨c1,c2,u,x,V⟩:=q.cell h O;rw[c]at x;cases V;have k:eQ β (Live M s β) w [HV.ptr o 0] [.pointer (some ⟨pl.b,0,none⟩)]:=.cons (by have:=HR.ptr (β:=β) (N:=Live M s β) (w:=w) o 0 pl h hk;rwa[c]at this) .nil;obtain⟨_,w',Y,g2,g3⟩:=jM (P:=P) q h k (by simp[HV.one]) z;rw[c]at Y;obtain⟨t,lo,hi,g,ms,k1,k2,k3,_,_⟩:=HS.wz z;obtain⟨y,Z,k5⟩:=q.obj _ _ k1;rw[h]at Z;cases Z;cases k5 with
  |cells _ _ _ _ h2 E' h3 a1 a2 a3 a4 a5=>
  rw[r]at a2;cases a2;have W:w.frozen? ⟨pl.b,0,none⟩=false:=by
   simp only[World.frozen?,r];rcases a3 with rfl|a3
   .simp
   simp;omega
  have l:=hn pl.b w x (by simp[World.shape?,r,I,J]) W;refine l.mono ?_
  rintro e w2 ⟨rfl,rfl⟩
  have i:=jb (P:=P) pl.b 0 L.bt fr [.pointer (some ⟨pl.b,0,none⟩)] 0 w cs r a3 (by simp;omega) (by simp[Value.oneCell']);rw[Y]at i;have A:w'=w.setCell ⟨pl.b,0,none⟩ (.pointer (some ⟨pl.b,0,none⟩)):=by
   injection i with _ i
   rw[i];simp only[World.setCell,Option.isSome_none,df,bD]
   congr 1
   apply AV;intro j;rw[ta];by_cases X:pl.b=j
   .subst X;rw[au rfl,wy (lt_of_block r),r];simp[nz]
   rw[ar X,oS X]
  rw[<-A];exact⟨_,β,rfl,g2,g3,.undef⟩
 .rename_i p j O;cases D:(p.beq o&&Nat.beq j 0)with
  |false=>rw[D]at d;cases d
  |true=>
  rw[D,cond_true]at d;cases d;rw[aL,Ky.beq_iff,bf]at D;obtain⟨rfl,rfl⟩:=D;obtain⟨c1,c2,u,x,V⟩:=q.cell h O;rw[c]at x;cases V with
  |ptr _ _ y f h6=>
  rw[h]at f;cases f;rw[c]at x;refine(hu pl.b w x).mono ?_
  rintro e w' ⟨rfl,rfl⟩
  exact⟨_,β,rfl,q,Ext.refl _ _ _,.undef⟩
 cases d
def bW.K8(h:bW M C β s w){b:Nat}{cs:Array Value}{E:TypeId}{fr:Nat×Nat}(Ls:Nat×Nat)(D:w.heap[b]?=some (.cells cs E fr))(G:¬iO s β b):bW M C β s (dG w b (.cells cs E Ls)):=by
 have A:∀x k v,du w x k=some v->du (dG w b (.cells cs E Ls)) x k=some v:=λx k v H=>by
  by_cases B:x=b
  .subst B;rw[iN D]at H;rw[iN (fE D)];exact H
  rw[nk (bP w _ B)];exact H
 have j:=λx F n=>rS (Ls:=Ls) D (rfl:cs.size=cs.size) x F n
 have c:(dG w b (.cells cs E Ls)).heap.size=w.heap.size:=by simp[dG]
 refine⟨λo pl f=>by rw[c];exact h.lt o pl f,λZ ob f=>?_,h.apart,h.qK,h.vg,λx B=>by rw[c];exact h.mlt x B,h.sO,λo E n f=>let⟨pl,g1,⟨m,g2,g3⟩,g4⟩:=h.zl o E n f;⟨pl,g1,⟨m,j _ _ _ g2,g3⟩,g4⟩⟩;obtain⟨pl,h2,h3⟩:=h.obj Z ob f;have I:pl.b≠b:=λe=>G ⟨Z,ob,pl,f,h2,e⟩
 have d:(dG w b (.cells cs E Ls)).heap[pl.b]?=w.heap[pl.b]?:=bP w _ I;refine⟨pl,h2,?_⟩;cases h3 with|cells t lo J g cs E fr l p y L N=>exact .cells t lo J g cs E fr l (d.trans p) y L λk v b1 b2 b3=>let⟨q,u,O,V⟩:=N k v b1 b2 b3;⟨q,u,O,V.vj A j (pn c.symm)⟩|mp es W l p y=>exact .mp es W (d.trans l) p λi k v J=>let⟨e,O,V,c3,c4⟩:=y i k v J;⟨e,O,V.vj A j (pn c.symm),c3.vj A j (pn c.symm),c4⟩|loop st z tm ps X body r nt keep l p y L N a6 a7 a8 a9 Y=>exact .loop st z tm ps X body r nt keep (d.trans l) p y (L.vj A j (pn c.symm)) N a6 a7 a8 a9 Y
def uF:∀{l:ai} {b:az} (_:bytesOf l=some b) (j:Nat) (v:HV),l[j]?=some v->∃q:Nat,v=.int .u8 (.ofNat q)/\q<256
 |[],_,_,j,v,d=>by simp at d
 |x::r,b,h,j,v,d=>by
  unfold bytesOf at h
  split at h
  .rename_i f;cases f
  .rename_i n i f;cases f;cases c:Nat.blt n 256 with
   |false=>rw[c]at h;cases h
   |true=>
    rw[c,cond_true]at h
    split at h
    .rename_i k g;cases j with|zero=>simp at d;subst d;exact⟨n,rfl,ck.1 c⟩|succ j=>exact uF g j v (by simpa using d)
    cases h
  cases h
def A7{L:jE}(hf:dQ P L.str)
  (h0:∀(b:Nat) (w:World),w.cell? ⟨b,1,none⟩=some (.slice none 0 0)->Calls P L.str #[.pointer (some ⟨b,0,none⟩)] w λe w'=>e=.returned (.string ⟨#[]⟩)/\w'=w.drewN 1)
  (h1:∀(b g cap n:Nat) (l:List UInt8) (w:World),l≠ []->w.cell? ⟨b,1,none⟩=some (.slice (some ⟨g,0,none⟩) l.length cap)->l.length<=cap->w.shape? g=some (L.It,n)->l.length<=n->l.length<=9223372036854775807->
   (∀j x,l[j]?=some x->w.cell? ((⟨g,0,none⟩:Addr).add j)=some (.int .u8 x.toNat))->
   Calls P L.str #[.pointer (some ⟨b,0,none⟩)] w λe w'=>e=.returned (.string ⟨l.toArray⟩)/\w'=(w.drewN 1).freeze ⟨g,0,none⟩ l.length):
  wR fx P L.str (mc L):=by
 intro args s v s' d;unfold mc at d
 split at d
 case h_2=>cases d
 rename_i o;have Y:∀(M:aG) β w (vs:List Value),eQ β (Live M s β) w [HV.ptr o 0] vs->∃pl,β o=some pl/\pl.s=0/\vs=[.pointer (some ⟨pl.b,0,none⟩)]:=by
  intro M β w vs B;obtain⟨u,us,rfl,h4,h5⟩:=B.split;have:us=[]:=by have:=h5.1;simpa using this
  subst this;cases h4 with|ptr _ _ pl D hk=>exact⟨pl,D,by omega,by rw[show 0-pl.s=0 by omega]⟩
 split at d
 .rename_i hc;cases d;refine⟨hf,λM β w vs A J B=>?_⟩;obtain⟨pl,D,k4,rfl⟩:=Y M β w vs B;obtain⟨c1,c2,u,c3,c4⟩:=A.cell D (k:=1) hc;rw[show 1-pl.s=1 by omega]at c3;cases c4;refine(h0 pl.b w c3).mono ?_
  rintro e w' ⟨rfl,rfl⟩
  exact⟨_,β,rfl,A.drawn rfl,Ext.drawn rfl rfl rfl rfl,HR.str ⟨#[]⟩⟩
 .rename_i o2 len sz hc
  split at d
  case h_2=>cases d
  rename_i E n k5;cases y:(Nat.beq E L.It&&(Nat.blt 0 len&&Nat.ble len 4611686018427387904))with
  |false=>rw[y]at d;cases d
  |true=>
  rw[y,cond_true]at d;rw[aL,aL,bf,ck,ej]at y;obtain⟨rfl,h8,km⟩:=y
  split at d
  case h_2=>cases d
  rename_i l hl
  split at d
  case h_2=>cases d
  rename_i bs h9
  split at d
  case h_2=>cases d
  rename_i t lo hi g N
  split at d
  case h_2=>cases d
  rename_i z hd;cases d;refine⟨hf,λM β w vs A J B=>?_⟩;obtain⟨pl,D,k4,rfl⟩:=Y M β w vs B;obtain⟨c1,c2,u,c3,c4⟩:=A.cell D (k:=1) hc;rw[show 1-pl.s=1 by omega]at c3;obtain⟨c,f,⟨m,⟨cs,fr,hw,k6⟩,hm⟩,_⟩:=A.zl o2 _ _ k5;obtain⟨d1,d2,d3,gg,d4,d5⟩:=A.bF f hl;cases c4 with
  |pY=>exact absurd h8 (ec _)
  |sl _ _ _ _ cap n2 kn Z e1 e2 e3 e4=>
  rw[f]at Z;cases Z;have hz:0-c.s=0:=by omega
  rw[hz]at c3 d4;have ho:eQ β (Live M s β) w l ((List.range len).map gg):=by refine⟨by simp[d2],λj a b ha y=>?_⟩;have O:=(aU.1 ha).1;rw[d2]at O;simp[O]at y;subst y;exact d5 j a ha
  obtain⟨G,n1,k7⟩:=mf ho h9;have hlen:G.length=len:=by have:=ch List.length n1;simp at this;exact this.symm
  have h2:∀(G:bb) (V:ByteArray),(G.foldl (λr n=>r.push (UInt8.ofNat n.toNat)) V)=⟨(V.data.toList++G.map (λn=>UInt8.ofNat n.toNat)).toArray⟩:=by
   intro G
   induction G with|nil=>intro V;simp|cons a r ih=>intro V;rw[nw,ih];simp
  have k8:=uF h9;have h3:∀(j:Nat) (x:UInt8),(G.map (λn=>UInt8.ofNat n.toNat))[j]?=some x->w.cell? ((⟨c.b,0,none⟩:Addr).add j)=some (.int .u8 x.toNat):=by
   intro j x O;rw[fV,lR]at O;obtain⟨i,hi,rfl⟩:=O;have h6:j<len:=by rw[<-hlen];exact(aU.1 hi).1
   have hg:gg j=.int .u8 i:=by have:=ch (λl=>l[j]?) n1;simp[h6,hi]at this;exact this
   have:=d4 j h6;rw[hg]at this;rw[gA];have hh:=ho.2 j (l[j]'(by omega)) (.int .u8 i) (aX _) (by simp[h6,hg]);obtain⟨q,k9,ko⟩:=k8 j _ (aX (by omega));rw[k9]at hh;cases hh;rw[show(UInt8.ofNat (Int.ofNat q).toNat).toNat=q by simp;omega];exact this
  have hp:G.map (λn=>UInt8.ofNat n.toNat)≠ []:=by intro e;have:=ch List.length e;simp[hlen]at this;omega
  have H:(G.map (λn=>UInt8.ofNat n.toNat)).length=len:=by simp[hlen]
  have kp:len<=cs.size:=by have hq:=d4 (len-1) (by omega);rw[iN hw]at hq;have:=(rL.1 hq).1;omega
  refine(h1 pl.b c.b cap m (G.map λn=>UInt8.ofNat n.toNat) w hp (by rw[H];exact c3) (by rw[H];exact e2) (by simp[World.shape?,hw,k6]) (by rw[H];omega) (by rw[H];omega) h3).mono ?_
  rintro e w' ⟨rfl,rfl⟩
  rw[H];obtain⟨W,ka⟩:∃W,(w.drewN 1).freeze ⟨c.b,0,none⟩ len=dG (w.drewN 1) c.b (.cells cs L.It W):=by
   obtain⟨fa,fb⟩:=fr;refine⟨if fa==fb then(0,0+len)else(min fa 0,max fb (0+len)),?_⟩;unfold World.freeze dG;rw[ar (by omega)]
   congr 1
   apply AV;intro j;rw[ta];by_cases O:c.b=j
   .subst O;rw[au rfl,wy (show c.b<(w.drewN 1).heap.size from lt_of_block hw)];show Option.map _ (w.heap[c.b]?)=_;rw[hw];rfl
   rw[ar O,oS O]
  rw[ka];have I:∀x,aj (fA s.h z) x=aj s.h x∨aj (fA s.h z) x=none:=λx=>by
   obtain⟨k1,k2⟩:=jt s.h z x;by_cases J:x∈z
   .exact .inr (k1 J)
   exact .inl (k2 J)
  have hs:∀{x ob},aj (fA s.h z) x=some ob->aj s.h x=some ob:=λ{x ob} J=>by
   rcases I x with e|e
   .rw[<-e];exact J
   rw[e]at J;cases J
  have kb:bW M (CR fx P) β {h:=fA s.h z,nx:=s.nx,gr:=s.gr,ty:=s.ty} w:=A.sub I (λx t' kq kr g' J=>A.qK _ _ _ _ _ (hs J)) A.vg;have kc:Ext M β s w β {h:=fA s.h z,nx:=s.nx,gr:=s.gr,ty:=s.ty} w:=Ext.sub I;have kd:Ext M β {h:=fA s.h z,nx:=s.nx,gr:=s.gr,ty:=s.ty} w β {h:=fA s.h z,nx:=s.nx,gr:=s.gr,ty:=s.ty} (w.drewN 1):=Ext.drawn rfl rfl rfl rfl;have ke:bW M (CR fx P) β {h:=fA s.h z,nx:=s.nx,gr:=s.gr,ty:=s.ty} (w.drewN 1):=kb.drawn rfl;have X:Live M s β c.b:=.inr ⟨o2,_,c,N,f,rfl⟩;have hM:¬M c.b:=λhm=>A.sO _ hm ⟨o2,_,c,N,f,rfl⟩
  have h7:¬iO {h:=fA s.h z,nx:=s.nx,gr:=s.gr,ty:=s.ty} β c.b:=by
   rintro⟨x,ob,kg,k1,k2,k3⟩
   have ht:=hs k1;have ki:x∈z:=by
    by_cases hy:x=o2
    .subst hy;obtain⟨kj,g1,g2⟩:=A.qK _ _ _ _ _ N;rw[hd]at g1;cases g1;exact g2
    obtain⟨_,t1,ks,kt,g1,t2,ku,kv,q1,q2⟩:=A.apart x o2 ob _ kg c ht N k2 f hy k3;cases q2;subst q1;obtain⟨kj,g1,g2⟩:=A.qK _ _ _ _ _ ht;rw[hd]at g1;cases g1;exact g2
   have k1:aj (fA s.h z) x=some ob:=k1;rw[(jt s.h z x).1 ki]at k1;cases k1
  have k0:(w.drewN 1).heap[c.b]?=some (.cells cs L.It fr):=hw;have kk:=ke.K8 W k0 h7;have kl:Ext M β s w β {h:=fA s.h z,nx:=s.nx,gr:=s.gr,ty:=s.ty} (dG (w.drewN 1) c.b (.cells cs L.It W)):=by
   have p:=kc.trans kd;exact⟨p.le,⟨by simp only[dG,PK];exact p.keeps.size,λb y hN=>(bP _ _ (λe=>hN (by rw[e];exact X))).trans (p.keeps.same b y hN),λb F n hh=>rS k0 rfl b F n (p.keeps.has b F n hh)⟩,
    p.less,rfl,rfl,rfl,λb r y=>⟨r,by rw[bP _ _ (λe=>by subst e;rw[hw]at y;cases y)];exact y⟩,aV _,λb y=>bP _ _ (λe=>hM (by rw[<-e];exact y))⟩
  refine⟨_,β,rfl,kk,kl,?_⟩;have:bs=eb ⟨(G.map λn=>UInt8.ofNat n.toNat).toArray⟩:=by rw[<-k7,h2];simp
  rw[this];exact .str _
 cases d
end libs
def iE:∀n,(zg n).toNat=n
 |0=>rfl
 |n+1=>by rw[zg,Ky.aS,iE n]
def pr{o:Ky}:∀{l:cg},o∈l->jg o l=true
 |m::r,h=>by
  unfold jg;cases b:m.beq o with
  |true=>rfl
  |false=>
   rcases bk.1 h with rfl|h
   .rw[(Ky.beq_iff o o).2 rfl]at b;cases b
   exact pr h
def C3:∀(l:cg) (n:Nat) (o k:Ky),(o,k)∈ahi n l↔∃i,l[i]?=some o/\k=zg (n+i)
 |[],n,o,k=>by simp[ahi]
 |x::r,n,o,k=>by
  rw[ahi,bk,C3 r (n+1) o k];constructor
  .rintro(h|⟨i,b,c⟩)
   .cases h;exact⟨0,rfl,rfl⟩
   exact⟨i+1,by simpa using b,by rw[c];congr 1;omega⟩
  rintro⟨i,b,c⟩
  cases i with|zero=>simp at b;subst b;exact .inl (by rw[c];rfl)|succ i=>exact .inr ⟨i,by simpa using b,by rw[c];congr 1;omega⟩
def Gk{o k:Ky}:∀{r:List (Ky×Ky)},NU o r=some k->(o,k)∈r
 |(a,b)::r,h=>by
  unfold NU at h;cases c:a.beq o with
  |true=>rw[c,cond_true]at h;cases h;rw[(Ky.beq_iff a o).1 c];simp
  |false=>rw[c,cond_false]at h;exact cY _ (Gk h)
def nK(s:HS):∀(n:Nat) (todo c out:cg),c.Nodup->Ho s n todo c=some out->out.Nodup
 |0,_,_,_,_,h=>by cases h
 |n+1,[],c,out,f,h=>by cases h;exact f
 |n+1,o::r,c,out,f,h=>by
  rw[Ho]at h;cases g:jg o c with
  |true=>rw[g,cond_true]at h;exact nK s n r c out f h
  |false=>
   rw[g,cond_false]at h;have i:o ∉ c:=λk=>by rw[pr k]at g;cases g
   have d:(c++[o]).Nodup:=by rw[tB];refine⟨f,by simp,λa l b j=>?_⟩;simp at j;subst j;intro e;subst e;exact i l
   split at h
   .exact nK s n _ _ out d h
   .exact nK s n _ _ out d h
   cases h
def gQ{r:List (Ky×Ky)}:∀{l l':ai},vc r l=some l'->l'.length=l.length/\∀(j:Nat) (b:HV),l'[j]?=some b->∃v,l[j]?=some v/\nZ r v=some b
 |[],l',h=>by simp only[vc]at h;cases h;exact⟨rfl,by simp⟩
 |v::l,l',h=>by
  rw[vc]at h
  split at h
  .rename_i o p d f;cases h;obtain⟨g,i⟩:=gQ f;refine⟨by simp[g],λj b c=>?_⟩;cases j with|zero=>simp at c;subst c;exact⟨v,rfl,d⟩|succ j=>obtain⟨x,k,m⟩:=i j b (by simpa using c);exact⟨x,by simpa using k,m⟩
  cases h
def wS{r:List (Ky×Ky)}:∀{l l':aP},zH r l=some l'->l'.length=l.length/\∀(j:Nat) (b:ai),l'[j]?=some b->∃v,l[j]?=some v/\vc r v=some b
 |[],l',h=>by simp only[zH]at h;cases h;exact⟨rfl,by simp⟩
 |v::l,l',h=>by
  rw[zH]at h
  split at h
  .rename_i o p d f;cases h;obtain⟨g,i⟩:=wS f;refine⟨by simp[g],λj b c=>?_⟩;cases j with|zero=>simp at c;subst c;exact⟨v,rfl,d⟩|succ j=>obtain⟨x,k,m⟩:=i j b (by simpa using c);exact⟨x,by simpa using k,m⟩
  cases h
def Gl{r:List (Ky×Ky)}{v b:HV}(h:nZ r v=some b)(c:v.one=true):b.one=true:=by cases v<;>simp only[nZ]at h<;>(try (cases h;exact c))<;>(try (split at h<;>cases h<;>rfl))<;>(try (cases h;done))<;>(first|(cases c;done)|skip)
def wT{r:List (Ky×Ky)}{l l':ai}(h:vc r l=some l')(b:∀v∈l,v.one=true):∀v∈l',v.one=true:=by intro v c;obtain⟨j,d,rfl⟩:=oQ c;obtain⟨x,f,g⟩:=(gQ h).2 j _ (aX d);exact Gl g (b x (cE f))
def HR.nZ{β Z:Bt}{N N':aG}{w:World}{r:List (Ky×Ky)}(hr:∀o k,NU o r=some k->Z k=β o)(hN:ie N' N w){v:HV}{u:Value}(h:HR β N w v u):∀d,Hm.nZ r v=some d->HR Z N' w d u:=by
 induction h with
 |int k n=>intro d h;simp only[Hm.nZ]at h;cases h;exact .int k n
 |bool b=>intro d h;simp only[Hm.nZ]at h;cases h;exact .bool b
 |str s=>intro d h;simp only[Hm.nZ]at h;cases h;exact .str s
 |ah=>intro d h;simp only[Hm.nZ]at h;cases h;exact .ah
 |dE=>intro d h;simp only[Hm.nZ]at h;cases h;exact .dE
 |gY=>intro d h;simp only[Hm.nZ]at h;cases h;exact .gY
 |fS=>intro d h;simp only[Hm.nZ]at h;cases h;exact .fS
 |fU=>intro d h;simp only[Hm.nZ]at h;cases h;exact .fU
 |undef=>intro d h;simp only[Hm.nZ]at h;cases h;exact .undef
 |ptr o k pl h h5=>
  intro d c;simp only[Hm.nZ]at c
  split at c
  .rename_i J L;cases c;exact .ptr J k pl ((hr _ _ L).trans h) h5
  cases c
 |sl o E len O cap n pl h hs t hb V=>
  intro d c;simp only[Hm.nZ]at c
  split at c
  .rename_i J L;cases c;exact .sl J E len O cap n pl ((hr _ _ L).trans h) hs t hb V
  cases c
 |pY o E O b k=>
  intro d c;simp only[Hm.nZ]at c
  split at c
  .cases c;exact .pY _ E O b k
  cases c
 |mp o pl h=>
  intro d c;simp only[Hm.nZ]at c
  split at c
  .rename_i J L;cases c;exact .mp J pl ((hr _ _ L).trans h)
  cases c
 |fn f fi ca fs h6 h1 h2 h3 h4 h7 h8=>
  intro d c;simp only[Hm.nZ]at c
  split at c
  .rename_i a' b' ha hb;cases c;obtain⟨W,z⟩:=gQ ha;obtain⟨b1,b2⟩:=gQ hb;exact .fn f a' b' fs h6 (by omega) (by omega) (λi v u c G=>let⟨x,p,q⟩:=z i v c;h7 i x u p G v q) (λi v u c G=>let⟨x,p,q⟩:=b2 i v c;h8 i x u p G v q)
  cases c
 |iK l pl h=>intro d c;simp only[Hm.nZ]at c;cases c
 |agg l cs h0 h1 _ ih=>
  intro d c;simp only[Hm.nZ]at c
  split at c
  .rename_i H t;cases c;obtain⟨W,z⟩:=gQ t;exact .agg H cs (wT t h0) (by omega) (λi v u c G=>let⟨x,p,q⟩:=z i v c;ih i x u p G v q)
  cases c
 |cO l cs h1 _ ih=>
  intro d c;simp only[Hm.nZ]at c
  split at c
  .rename_i H t;cases c;obtain⟨W,z⟩:=gQ t;exact .cO H cs (by omega) (λi v u c G=>let⟨x,p,q⟩:=z i v c;ih i x u p G v q)
  cases c
 |psl0 A cap hn=>intro d c;simp only[Hm.nZ,zH]at c;cases c;exact .psl0 A cap hn
 |psl hf b o cap O g I B hd h9 h0 V c ih=>
  intro d m;simp only[Hm.nZ]at m
  split at m
  .rename_i H t;cases m;obtain⟨W,z⟩:=wS t;have:=HR.psl (β:=Z) (N:=N') (w:=w) H b o cap O g (λx=>I (hN b B x)) B (by omega) (λi row Y=>?_) (λrow X=>?_) (λi j Y D=>V i j (by omega) D) (λi row j a Y D=>?_)
   .rw[W]at this;exact this
   .obtain⟨x,p,q⟩:=z i row Y;rw[(gQ q).1];exact h9 i x p
   .obtain⟨j,D,rfl⟩:=oQ X;obtain⟨x,p,q⟩:=z j _ (aX D);exact wT q (h0 x (cE p))
   obtain⟨x,p,q⟩:=z i row Y;obtain⟨y,d1,d2⟩:=(gQ q).2 j a D;exact ih i x j y p d1 a d2
  cases m
 |aw cells b o g h0 I B V c ih=>
  intro d m;simp only[Hm.nZ]at m
  split at m
  .rename_i H t;cases m;obtain⟨W,z⟩:=gQ t;exact .aw H b o g (wT t h0) (λx=>I (hN b B x)) B (λj D=>V j (by omega)) (λj a D=>let⟨x,p,q⟩:=z j a D;ih j x p a q)
  cases m
def mH{r:List (Ky×Ky)}:∀{t c:Tr HV},zh r t=some c->∀(k:Nat) (d:HV),fI c k=some d->∃v,fI t k=some v/\nZ r v=some d
 |.lf,c,h,k,d,b=>by simp only[zh]at h;cases h;cases b
 |.nd none l m,c,h,k,d,b=>by
  simp only[zh]at h
  split at h
  .rename_i o p i j;cases h;rw[iX]at b;simp only[iX];by_cases h0:k=0
   .rw[au h0]at b;cases b
   rw[ar h0]at b ⊢;by_cases f:k%2=1
   .rw[au f]at b ⊢;exact mH i _ _ b
   rw[ar f]at b ⊢;exact mH j _ _ b
  cases h
 |.nd (some x) l m,c,h,k,d,b=>by
  simp only[zh]at h
  split at h
  .rename_i q o p h0 i j;cases h;rw[iX]at b;simp only[iX];by_cases g:k=0
   .rw[au g]at b ⊢;cases b;exact⟨x,rfl,h0⟩
   rw[ar g]at b ⊢;by_cases f:k%2=1
   .rw[au f]at b ⊢;exact mH i _ _ b
   rw[ar f]at b ⊢;exact mH j _ _ b
  cases h
def z7{r:List (Ky×Ky)}:∀{l l':List (HV×HV)},Hp r l=some l'->l'.length=l.length/\∀(j:Nat) (b c:HV),l'[j]?=some (b,c)->∃k v,l[j]?=some (k,v)/\nZ r k=some b/\nZ r v=some c
 |[],l',h=>by simp only[Hp]at h;cases h;exact⟨rfl,by simp⟩
 |(k,v)::l,l',h=>by
  rw[Hp]at h
  split at h
  .rename_i q t u h0 f g;cases h;obtain⟨i,m⟩:=z7 g;refine⟨by simp[i],λj b c d=>?_⟩;cases j with|zero=>simp at d;obtain⟨rfl,rfl⟩:=d;exact⟨k,v,rfl,h0,f⟩|succ j=>obtain⟨x,y,o,p⟩:=m j b c (by simpa using d);exact⟨x,y,by simpa using o,p⟩
  cases h
def qS{r:List (Ky×Ky)}{e:En}:∀{l:az} {e':En},Cy r e l=some e'->∀(t:Nat) (c:HV),look e' t=some c->∃v,look e t=some v/\nZ r v=some c
 |[],e',h,t,c,b=>by simp only[Cy]at h;cases h;cases b
 |x::l,e',h,t,c,b=>by
  rw[Cy]at h
  split at h
  .rename_i j d
   split at h
   .rename_i v f
    split at h
    .rename_i k g;cases h;rw[ei]at b
     split at b
     .rename_i i;subst i;cases b;exact⟨v,f,g⟩
     exact qS d t c b
    cases h
   cases h;exact qS d t c b
  cases h
inductive Je(r:List (Ky×Ky))(k:Ky):Ob->Ob->Prop
 |cells (t t':Tr HV) (lo hi:Nat) (g:Ky) (h:zh r t=some t'):Je r k (.cells t lo hi g) (.cells t' lo hi k)
 |mp (es K9:List (HV×HV)) (h:Hp r es=some K9):Je r k (.mp es) (.mp K9)
def wU{s:HS}{r:List (Ky×Ky)}:∀{l:List (Ky×Ky)} {h:Tr Ob} {gr:Tr cg} {ty:Tr (Nat×Nat)} {W:cg},Cz s r l=some (h,gr,ty,W)->(l.map (·.2)).Nodup->
  (∀k jV,aj h k=some jV->∃o ob,(o,k)∈l/\aj s.h o=some ob/\Je r k ob jV)/\
  (∀k ms,aj gr k=some ms->ms=[k]/\∃o,(o,k)∈l)/\
  (∀k t D E g,aj h k=some (.cells t D E g)->g=k/\aj gr k=some [k])/\
  (∀k p,aj ty k=some p->∃o,(o,k)∈l/\aj s.ty o=some p)/\
  (∀o k t D E g,(o,k)∈l->aj s.h o=some (.cells t D E g)->g∈W)/\
  (∀o k o' k' t D E g t' h2 h3 g',(o,k)∈l->(o',k')∈l->k≠k'->aj s.h o=some (.cells t D E g)->aj s.h o'=some (.cells t' h2 h3 g')->g≠g')
 |[],h,gr,ty,W,i,_=>by simp only[Cz]at i;cases i;exact⟨λk jV b=>(by cases b),λk ms b=>(by cases b),λk t D E g b=>(by cases b),λk p b=>(by cases b),by simp,by simp⟩
 |(o,k)::l,h,gr,ty,W,i,H=>by
  simp only[bX,mE]at H;rw[Cz]at i
  split at i
  case h_2=>cases i
  rename_i h1 ha hb I J;obtain⟨a1,a2,a3,a4,X,a6⟩:=wU J H.2;have hd:∀x,(x,k) ∉ l:=λx b=>H.1 (cU.2 ⟨(x,k),b,rfl⟩)
  split at i
  .rename_i t D E g A;cases Y:jg g I with
   |true=>rw[Y]at i;cases i
   |false=>
   rw[Y,cond_false]at i;have L:g ∉ I:=λd=>by rw[pr d]at Y;cases Y
   split at i
   case h_2=>cases i
   rename_i t' h4;cases i;refine⟨λc jV b=>?_,λc ms b=>?_,λc N y z O b=>?_,λc p b=>?_,λG c N y z O d b=>?_,λG c Z k2 N y z O t2 h5 h6 g2 j f B m q=>?_⟩
   .rw[af]at b;by_cases e:c=k
    .subst e;rw[au rfl]at b;cases b;exact⟨o,_,by simp,A,.cells t t' D E g h4⟩
    rw[ar e]at b;obtain⟨x,ob,u,v⟩:=a1 c jV b;exact⟨x,ob,by simp[u],v⟩
   .rw[af]at b;by_cases e:c=k
    .subst e;rw[au rfl]at b;cases b;exact⟨rfl,o,by simp⟩
    rw[ar e]at b;obtain⟨u,x,v⟩:=a2 c ms b;exact⟨u,x,by simp[v]⟩
   .rw[af]at b ⊢;by_cases e:c=k
    .subst e;rw[au rfl]at b;cases b;exact⟨rfl,by rw[au rfl]⟩
    rw[ar e]at b ⊢;exact a3 c _ _ _ _ b
   .split at b
    .rename_i p' h7;rw[af]at b;by_cases e:c=k
     .subst e;rw[au rfl]at b;cases b;exact⟨o,by simp,h7⟩
     rw[ar e]at b;obtain⟨x,u,v⟩:=a4 c p b;exact⟨x,by simp[u],v⟩
    obtain⟨x,u,v⟩:=a4 c p b;exact⟨x,by simp[u],v⟩
   .rcases bk.1 d with e|d
    .cases e;rw[A]at b;cases b;simp
    exact cY _ (X G c _ _ _ _ d b)
   rcases bk.1 j with e1|j
   .cases e1;rw[A]at m;cases m;rcases bk.1 f with V|f
    .cases V;exact absurd rfl B
    intro e;subst e;exact L (X Z k2 _ _ _ _ f q)
   rcases bk.1 f with V|f
   .cases V;rw[A]at q;cases q;intro e;subst e;exact L (X G c _ _ _ _ j m)
   exact a6 G c Z k2 _ _ _ _ _ _ _ _ j f B m q
  .rename_i es A
   split at i
   case h_2=>cases i
   rename_i h8 h9;cases i;refine⟨λc jV b=>?_,λc ms b=>?_,λc N y z O b=>?_,λc p b=>?_,λG c N y z O d b=>?_,λG c Z k2 N y z O t2 h5 h6 g2 j f B m q=>?_⟩
   .rw[af]at b;by_cases e:c=k
    .subst e;rw[au rfl]at b;cases b;exact⟨o,_,by simp,A,.mp es h8 h9⟩
    rw[ar e]at b;obtain⟨x,ob,u,v⟩:=a1 c jV b;exact⟨x,ob,by simp[u],v⟩
   .obtain⟨u,x,v⟩:=a2 c ms b;exact⟨u,x,by simp[v]⟩
   .rw[af]at b;by_cases e:c=k
    .subst e;rw[au rfl]at b;cases b
    rw[ar e]at b;exact a3 c _ _ _ _ b
   .obtain⟨x,u,v⟩:=a4 c p b;exact⟨x,by simp[u],v⟩
   .rcases bk.1 d with e|d
    .cases e;rw[A]at b;cases b
    exact X G c _ _ _ _ d b
   rcases bk.1 j with e1|j
   .cases e1;rw[A]at m;cases m
   rcases bk.1 f with V|f
   .cases V;rw[A]at q;cases q
   exact a6 G c Z k2 _ _ _ _ _ _ _ _ j f B m q
  cases i
section canon
variable{M:aG}{C:eR}{P:Program}{β:Bt}{s:HS}{w:World}{e:En}{a:Act}
def C4{nt:Nat}{keep ks:az}{ro:bL}{lo:Nat}{e':En}{s':HS}(m:At M C nt keep ro lo β s e a w)(h:canon ks e s=some (e',s')):
  ∃G,At M C nt keep ro lo G s' e' a w/\∀b,iO s' G b->iO s β b:=by
 unfold canon at h
 split at h
 case h_2=>cases h
 rename_i d O
 split at h
 case h_2=>cases h
 rename_i e1 z h5 h6 k3 h7 h8;cases h;have hg:=nK s _ _ _ _ .nil O;generalize h9:ahi 0 d=r at h7 h8;have q:∀o k,(o,k)∈r↔∃i,d[i]?=some o/\k=zg i:=λo k=>by rw[<-h9,C3];simp
 have hj:(r.map (·.2)).Nodup:=by
  rw[<-h9];have gen:∀(l:cg) (n:Nat),((ahi n l).map (·.2)).Nodup/\∀k∈(ahi n l).map (·.2),n<=k.toNat:=by
   intro l
   induction l with
   |nil=>intro n;simp[ahi]
   |cons x l ih=>
    intro n;obtain⟨H,I⟩:=ih (n+1);simp only[ahi,bX,mE];refine⟨⟨λhx=>?_,H⟩,λk f=>?_⟩
    .have:=I _ hx;rw[iE]at this;omega
    rcases bk.1 f with rfl|f
    .rw[iE];exact aV _
    have:=I k f;omega
  exact(gen d 0).1
 obtain⟨a1,a2,a3,a4,a5,a6⟩:=wU h8 hj;let G:Bt:=λk=>(d[k.toNat]?).bind β
 have Y:∀o k,(o,k)∈r->G k=β o:=λo k hm=>by obtain⟨i,z,rfl⟩:=(q o k).1 hm;show(d[(zg i).toNat]?).bind β=β o;rw[iE,z];rfl
 have y:∀o k,NU o r=some k->G k=β o:=λo k f=>Y o k (Gk f)
 have Z:=m.rel;have V:∀b,iO {h:=z,nx:=zg (aM d),gr:=h5,ty:=h6} G b->iO s β b:=by
  rintro b ⟨k,A,pl,q1,q2,q3⟩
  obtain⟨o,ob,B,J,_⟩:=a1 k A q1;exact⟨o,ob,pl,J,by rw[<-Y o k B];exact q2,q3⟩
 have c:ie (Live M {h:=z,nx:=zg (aM d),gr:=h5,ty:=h6} G) (Live M s β) w:=λb _ hb=>hb.imp id (V b)
 have W:∀o k L p,(o,k)∈r->(L,p)∈r->k≠p->o≠L:=λo k L p hm ho D e=>by
  subst e;obtain⟨i,z,rfl⟩:=(q o k).1 hm;obtain⟨j,h2,rfl⟩:=(q o p).1 ho;have:i=j:=by have hi:=(aU.1 z).1;exact(List.getElem?_inj hi hg).1 (z.trans h2.symm)
  exact D (by rw[this])
 refine⟨G,⟨⟨λk pl f=>?_,λk A f=>?_,λk p ob A pl hp hx hy h3 h4 D hq=>?_,λk t lo hi g f=>?_,λk ms f=>?_,Z.mlt,λb hm ha=>Z.sO b hm (V b ha),λk E n f=>?_⟩,λt N hv=>?_,m.size,?_,m.lo_le,λb o hb=>?_,m.HE⟩,V⟩
 .have f:(d[k.toNat]?).bind β=some pl:=f;obtain⟨o,z,h2⟩:=ag3.1 f;have:=(aU.1 z).1;exact⟨by rw[iE,bK];exact this,(Z.lt o pl h2).2⟩
 .obtain⟨o,ob,B,J,p3⟩:=a1 k A f;obtain⟨pl,q1,q2⟩:=Z.obj o ob J;refine⟨pl,(Y o k B).trans q1,?_⟩;cases p3 with
  |cells t t' lo hi g ht=>
   cases q2 with
   |cells _ _ _ _ cs E fr c1 c2 c3 c4 c5=>
   refine .cells _ _ _ _ cs E fr c1 c2 c3 c4 λp N d1 d2 d3=>?_
   obtain⟨v,f1,f2⟩:=mH ht p N d3;obtain⟨H,u,I,g3⟩:=c5 p v d1 d2 f1;exact⟨Gl f2 H,u,I,g3.nZ y c N f2⟩
  |mp es k4 hs=>
   cases q2 with
   |mp _ hz c1 c2 c3=>
   obtain⟨f1,f2⟩:=z7 hs;refine .mp _ hz (by rw[f1];exact c1) (by rw[f1];exact c2) λi p N hi=>?_
   obtain⟨k0,v0,H,I,g3⟩:=f2 i p N hi;obtain⟨en,d1,d2,d3,d4⟩:=c3 i k0 v0 H;exact⟨en,d1,d2.nZ y c p I,d3.nZ y c N g3,d4⟩
 .obtain⟨o,k1,B,J,p3⟩:=a1 k ob hx;obtain⟨L,hd,X,hf,k5⟩:=a1 p A hy;have k2:=W o k L p B X D;rw[Y o k B]at h3;rw[Y L p X]at h4;obtain⟨_,t1,l1,k6,H,t2,l2,k7,z2,z3⟩:=Z.apart o L k1 hd pl hp J hf h3 h4 k2 hq;subst z2;subst z3;exact absurd rfl (a6 o k L p _ _ _ _ _ _ _ _ B X D J hf)
 .obtain⟨rfl,h2⟩:=a3 k t lo hi g f;exact⟨_,h2,by simp⟩
 .obtain⟨_,o,B⟩:=a2 k ms f;obtain⟨i,z,rfl⟩:=(q o k).1 B;have:=(aU.1 z).1;rw[iE,iE,bK];exact this
 .obtain⟨o,B,J⟩:=a4 k _ f;obtain⟨pl,q1,q2⟩:=Z.zl o E n J;exact⟨pl,(Y o k B).trans q1,q2⟩
 .obtain⟨v,f1,f2⟩:=qS h7 t N hv;obtain⟨H,I⟩:=m.env t v f1;exact⟨H,I.nZ y c N f2⟩
 .obtain⟨rs,m1,m2,m3⟩:=m.marks;refine⟨rs,m1,m2,λx hx=>?_⟩;obtain⟨b1,b2,b3⟩:=m3 x hx;exact⟨b1,b2,λhl=>b3 (c x (lt_of_block b2) hl)⟩
 obtain⟨b1,b2⟩:=m.fix b o hb;exact⟨b1,λhl=>b2 (c b (lt_of_block b1) hl)⟩
end canon
section Vn
variable{fx:Nat->Option Obj}{P:Program}{nt:Nat}{keep:az}{ih:Task->Out}
def nD.ext{M:aG}{C:eR}{β g:Bt}{s s':HS}{w0 w w':World}(l:nD w0 w)(j:qx w0 s β)(u:∀b,M b->b<w0.heap.size)(h:bW M C g s' w')(c:Ext M β s w g s' w'):nD w0 w'/\qx w0 s' g:=by
 obtain⟨m,o,p,q,r⟩:=l;refine⟨⟨fu m c.keeps.size,λb f=>?_,c.os.trans p,c.tape.trans q,c.output.trans r⟩,λb f=>?_⟩
 .rw[<-o b f];by_cases k:M b
  .exact c.oP b k
  refine c.keeps.same b (by omega) ?_
  rintro(d|d)
  .exact k d
  have:=j b d;omega
 rcases jF b w0.heap.size with t|i
 .rcases c.less b (by omega) (.inr f)with d|d
  .exact absurd f (h.sO b d)
  exact j b d
 exact i
def oY.of{code:Code}{e:En}{s:HS}{x:Ex}{e':En}{s':HS}(h:mD (CR fx P) P nt keep code e s x e' s'):oY (CR fx P) P nt keep code e s x e' s':=by
 intro M d f β a w w0 b g i j;refine wpIn_mono (h M d f β a w b) ?_
 rintro p q t ⟨r,k,c,l⟩
 obtain⟨m,o⟩:=g.ext i j c.rel l;exact⟨r,k,c,m,o⟩
def oY.then{x:Code}{e:En}{s:HS}{z:Ex}{j:En}{s1:HS}(h:oY (CR fx P) P nt keep x e s z j s1){Q:Exit->Act->World->Prop}{M:aG}{f:bL}{g:Nat}{β:Bt}{a:Act}{w w0:World}(k:At M (CR fx P) nt keep f g β s e a w)
  (r:nD w0 w)(t:qx w0 s β)(u:∀b,M b->b<w0.heap.size)
  {K:Act->World->Prop}(v:z=.normal->∀d c w',At M (CR fx P) nt keep f g d s1 j c w'->nD w0 w'->qx w0 s1 d->K c w')(q:z≠ .normal->∀c w',I3 M (CR fx P) nt keep f g w0 z j s1 z.to c w'->Q z.to c w'):
  x.wpIn (FW f) 0 P (Exit.then K Q) a w:=by
 refine wpIn_mono (h M f g β a w w0 k r t u) ?_;intro y c w' l;obtain⟨rfl,d,m,o,p⟩:=l;cases z with|normal=>exact v rfl d c w' m o p|ret=>exact q (by simp) c w' ⟨rfl,d,m,o,p⟩|exit i=>exact q (by simp) c w' ⟨rfl,d,m,o,p⟩
def oY.seq{x y:Code}{e:En}{s:HS}{z:Ex}{b:En}{s1:HS}{c:Ex}{d:En}{s2:HS}(h:oY (CR fx P) P nt keep x e s z b s1)
  (l:z=.normal->oY (CR fx P) P nt keep y b s1 c d s2)(m:z≠ .normal->z=c/\b=d/\s1=s2):oY (CR fx P) P nt keep (.seq x y) e s c d s2:=by
 intro M o p β a w w0 f q r i;refine wpIn_seq (h.then f q r i (λg t j k u v A=>?_) λg j k B=>?_)
 .exact l g M o p t j k w0 u v A i
 obtain⟨rfl,rfl,rfl⟩:=m g;exact B
def oZ.seq{c:Code}{e:En}{s:HS}{z:Ex}{b:En}{s1:HS}{d:Ex}{f:En}{s2:HS}(h:oY (CR fx P) P nt keep c e s z b s1)
  (m:z=.normal->oZ (CR fx P) P nt keep c b s1 d f s2)(o:z≠ .normal->z=d/\b=f/\s1=s2):oZ (CR fx P) P nt keep c e s d f s2:=by
 intro M p q β a w w0 g r t j;refine uA (h.then g r t j (λi u k l v x y=>?_) λi k l A=>?_)
 .exact m i M p q u k l w0 v x y j
 obtain⟨rfl,rfl,rfl⟩:=o i;exact A
def oZ.code{c:Code}{e:En}{s:HS}{d:Ex}{f:En}{s2:HS}(h:oZ (CR fx P) P nt keep c e s d f s2):oY (CR fx P) P nt keep (.loop c) e s d f s2:=
 λM g i β a w w0 b j k l=>uB (h M g i β a w w0 b j k l)
def zq{c:HC}{e:En}{s:HS}{x:Ex}{e':En}{s':HS}(f:rZ c=true)(h:bO ih c e s=.code x e' s'):x=.normal:=by
 cases c<;>first|(cases f;done)|skip
 .exact nJ (ih:=ih) (c:=.K8 _) rfl h
 .exact nJ (ih:=ih) (c:=.OB _ _ _) rfl h
 rename_i b;have h:bR (canon b e s) (λp=>Out.code .normal p.1 p.2) (.bad 52)=.code x e' s':=h;cases d:canon b e s with
 |none=>rw[d]at h;cases h
 |some p=>rw[d]at h;cases h;rfl
def A8{M:aG}{i:bL}{j:Nat}{β:Bt}{a:Act}{w w0:World}{c:HC}{e:En}{s:HS}{e':En}{s':HS}{x:Ex}(f:At M (CR fx P) nt keep i j β s e a w)(r:nD w0 w)(o:qx w0 s β)(t:∀b,M b->b<w0.heap.size)
  (u:rZ c=true)(h:bO ih c e s=.code x e' s'):∃d,At M (CR fx P) nt keep i j d s' e' a w/\qx w0 s' d:=by
 have old:∀{c':HC},rZ c'=true->ev ih c' e s=.code x e' s'->∃d,At M (CR fx P) nt keep i j d s' e' a w/\qx w0 s' d:=λk v=>by obtain⟨g,l⟩:=uD f k v;exact⟨β,g,(r.ext o t g.rel l).2⟩
 cases c<;>first|(cases u;done)|skip
 .exact old (c':=.K8 _) rfl h
 .exact old (c':=.OB _ _ _) rfl h
 rename_i q;have h:bR (canon q e s) (λp=>Out.code .normal p.1 p.2) (.bad 52)=.code x e' s':=h;cases m:canon q e s with
 |none=>rw[m]at h;cases h
 |some p=>obtain⟨z,A⟩:=p;rw[m]at h;cases h;obtain⟨d,g,l⟩:=C4 f m;exact⟨d,g,λb y=>o b (l b y)⟩
def pw(hi:hU (CR fx P) P ih)(hm:P.follows .mixedOrders=true):∀(c:HC) (code:Code) (e:En) (s:HS) (x:Ex) (e':En) (s':HS),et P nt keep c code=true->bO ih c e s=.code x e' s'->oY (CR fx P) P nt keep code e s x e' s':=by
 intro c
 induction c with
 |skip=>exact λcode e s x e' s' hc h=>.of (eM hi hm .skip code e s x e' s' hc h)
 |ret=>exact λcode e s x e' s' hc h=>.of (eM hi hm .ret code e s x e' s' hc h)
 |exit i=>exact λcode e s x e' s' hc h=>.of (eM hi hm (.exit i) code e s x e' s' hc h)
 |seq c d k B=>
  intro code e s x e' s' hc h;rw[CY]at hc;cases L:rZ c with
  |true=>
   rw[L,cond_true]at hc;rcases eD (o:=bO ih c e s) (f:=bO ih d) h with⟨D,s1,m,g⟩|⟨m,g⟩
   .intro M H lo β a w w0 p ho I r;obtain⟨X,J,N⟩:=A8 p ho I r L m;exact B _ _ _ _ _ _ hc g M H lo X a w w0 J ho N r
   exact absurd (zq L m) g
  |false=>
   rw[L,cond_false]at hc;cases code<;>first|(cases hc;done)|skip
   simp only[aL]at hc;rcases eD (o:=bO ih c e s) (f:=bO ih d) h with⟨D,s1,m,g⟩|⟨m,g⟩
   .exact(k _ _ _ _ _ _ hc.1 m).seq (λ_=>B _ _ _ _ _ _ hc.2 g) (λE=>absurd rfl E)
   exact(k _ _ _ _ _ _ hc.1 m).seq (λE=>absurd E g) (λ_=>⟨rfl,rfl,rfl⟩)
 |cond b c d k B=>
  intro code e s x e' s' hc h;cases code<;>first|(simp[et]at hc;done)|skip
  simp only[et,aL]at hc;have h:bR (bw b e) (λv=>v.asBool (bO ih c e s) (bO ih d e s) (.bad 8)) (.bad 8)=.code x e' s':=h;cases hb:bw b e with
  |none=>rw[hb]at h;cases h
  |some v=>
   rw[hb]at h;cases v<;>first|(cases h;done)|skip
   rename_i q;intro M H lo β a w w0 p ho I r;have hv:=aH p.env.toV hc.1.1 hb;rename_i Y _ _;generalize W:a.eval Y=u at hv;cases hv;cases q with|true=>exact wpIn_cond_true W (k _ _ _ _ _ _ hc.1.2 h M H lo β a w w0 p ho I r)|false=>exact wpIn_cond_false W (B _ _ _ _ _ _ hc.2 h M H lo β a w w0 p ho I r)
 |block i c k=>
  intro code e s x e' s' hc h;cases code<;>first|(simp[et]at hc;done)|skip
  simp only[et,aL,bU]at hc;obtain⟨rfl,hc⟩:=hc;cases G:bO ih c e s with
  |val v s1=>
   have h:(.bad 9:Out)=.code x e' s':=by have g:=h;simp only[bO]at g G;rw[G]at g;exact g
   cases h
  |bad w=>
   have h:(.bad w:Out)=.code x e' s':=by have g:=h;simp only[bO]at g G;rw[G]at g;exact g
   cases h
  |code y D s1=>
   have h:(Ex.rec (motive:=λ_=>Out) (Out.code .normal D s1) (Out.code .ret D s1) (λj=>gW (Nat.beq i j) (Out.code .normal D s1) (Out.code (.exit j) D s1)) y:Out)=.code x e' s':=by have g:=h;simp only[bO]at g G;rw[G]at g;exact g
   intro M H lo β a w w0 p ho I r;refine wpIn_block (wpIn_mono (k _ _ _ _ _ _ hc G M H lo β a w w0 p ho I r) ?_);intro Z a' w' O;obtain⟨rfl,β',m,g⟩:=O;cases y with
   |normal=>cases h;exact⟨rfl,β',m,g⟩
   |ret=>cases h;exact⟨rfl,β',m,g⟩
   |exit j=>
    have h:gW (Nat.beq i j) (Out.code .normal D s1) (Out.code (.exit j) D s1)=.code x e' s':=h;cases A:Nat.beq i j with
    |true=>rw[bf]at A;subst A;rw[qJ]at h;cases h;simp only[Ex.to,Exit.inBlock,bp];exact⟨rfl,β',m,g⟩
    |false=>
     rw[A]at h;cases h;have V:j≠i:=λe=>by subst e;rw[qJ]at A;cases A
     simp only[Ex.to,Exit.inBlock,ar V];exact⟨rfl,β',m,g⟩
 |loop c k=>
  intro code e s x e' s' hc h;cases code<;>first|(simp[et]at hc;done)|skip
  simp only[et]at hc;refine oZ.code ?_;rcases eD (o:=bO ih c e s) (f:=λe' s'=>ih (.oJ c e' s')) h with⟨D,s1,m,g⟩|⟨m,g⟩
  .exact oZ.seq (k _ _ _ _ _ _ hc m) (λ_=>hi.oJ nt keep c _ hc _ _ _ _ _ g) (λE=>absurd rfl E)
  exact oZ.seq (k _ _ _ _ _ _ hc m) (λE=>absurd E g) (λ_=>⟨rfl,rfl,rfl⟩)
 |rg outs l=>exact λcode e s x e' s' hc h=>.of (eM hi hm (.rg outs l) code e s x e' s' hc h)
 |Li outs main cy=>exact λcode e s x e' s' hc h=>.of (eM hi hm (.Li outs main cy) code e s x e' s' hc h)
 |rf x ps gV body _ _=>exact λcode e s z e' s' hc h=>.of (eM hi hm (.rf x ps gV body) code e s z e' s' hc h)
 |K8 ts=>intro code e s x e' s' hc h;simp[et]at hc
 |OB t bj n=>intro code e s x e' s' hc h;simp[et]at hc
 |gh keep=>intro code e s x e' s' hc h;simp[et]at hc
end Vn
section fn
variable{M:aG}{fx:Nat->Option Obj}{P:Program}{β:Bt}{s:HS}{w:World}{keep:az}
def zr{fn:Func}{e:En}{tm:Array Value}{w0:World}{R:Ending->World->Prop}
  (fin:∀w',bW M (CR fx P) β s w'->nD w0 w'->nm β (Live M s β) w' keep e tm->∃u,(results fn tm).run P w'=.ok u w'/\R (.returned u) w'):
  ∀(g:az) (w:World),g.Nodup->(∀r∈g,w0.heap.size<=r/\w.heap[r]?=some (.deferred (some []))/\¬Live M s β r)->bW M (CR fx P) β s w->nD w0 w->nm β (Live M s β) w keep e tm->
   LeavesInM Fence.wide 0 P fn tm R (g.map λr=>{target:=.collected r,args:= #[]}) .returning w:=by
 intro g
 induction g with
 |nil=>intro w _ _ j l m;exact fin w j l m
 |cons r g ih=>
  intro w d c j l m;obtain⟨W,h,t⟩:=c r dr;obtain⟨o,d⟩:=mE.1 d;refine⟨by simp,.inl ⟨r,dG w r (.deferred none),rfl,?_,?_⟩⟩
  .have z:(getObj r).run P w=.ok (.deferred (some [])) w:=eL h rfl;have A:=ig (P:=P) (o':=.deferred none) h rfl;simp[Instr.takeDeferred,z,A]
  have f:=λx k v=>tw (o':=.deferred none) h rfl x k v
  have i:=λx E n=>jq (o':=.deferred none) h rfl x E n
  obtain⟨B,D,G,H,I⟩:=l;refine ih _ d (λy q=>?_) (j.qe h rfl λJ=>t (.inr J)) ⟨by simpa[dG]using B,λb L=>(bP w _ (by omega)).trans (D b L),G,H,I⟩ (m.vj f i (by simp[dG]));obtain⟨N,O,V⟩:=c y (cY _ q);have p:y≠r:=λe=>o (e▸q)
  exact⟨N,(bP w _ p).trans O,V⟩
def nD.keeps{w w':World}(h:nD w w')(N:aG):cJ N w w':=
 ⟨h.1,λb d _=>h.2.1 b d,λb E n ⟨f,g,c,i⟩=>⟨f,g,(h.2.1 b (lt_of_block c)).trans c,i⟩⟩
def bW.old{C:eR}{w':World}(h:bW M C β s w)(d:nD w w'):bW M C β s w'/\Ext M β s w β s w':=by
 have g:cJ (Live M s β) w w':=d.keeps _;refine⟨⟨λo pl j=>⟨(h.lt o pl j).1,dJ (h.lt o pl j).2 d.1⟩,λo ob c=>let⟨pl,f,i⟩:=h.obj o ob c;⟨pl,f,i.keep (Bt.le_refl _) (ie.refl _ _) g (d.2.1 _ (h.lt o pl f).2)⟩,h.apart,h.qK,h.vg,
   λb c=>dJ (h.mlt b c) d.1,h.sO,λo E n c=>let⟨pl,f,i,k⟩:=h.zl o E n c;⟨pl,f,i.keep g,k⟩⟩,
  ⟨Bt.le_refl _,g,ie.refl _ _,d.2.2.1,d.2.2.2.1,d.2.2.2.2,λb r c=>⟨r,(d.2.1 b (lt_of_block c)).trans c⟩,aV _,λb c=>d.2.1 b (h.mlt b c)⟩⟩
def mI{f:HV->Bool}:∀{l:ai},vd f l=true->∀v∈l,f v=true
 |[],_,v,h=>by cases h
 |a::r,h,v,b=>by
  rw[vd,aL]at h;rcases bk.1 b with rfl|b
  .exact h.1
  exact mI h.2 v b
def HR.Vo{i:Bt}{N j:aG}{v:HV}{u:Value}(h:HR β N w v u)(d:ff v=true):HR i j w v u:=by
 cases h
 case psl0 A cap k=>exact .psl0 A cap k
 case psl c b o cap q g l m f p h0 t y=>
  cases c with
  |cons x r=>simp[ff]at d
  |nil=>exact .psl0 _ cap (λh=>by cases h)
 all_goals first|(simp[ff]at d;done)|constructor
def Jf{C:eR}(hr:bW M C β s w){N0:Nat}(hy:∀b,iO s β b->N0<=b):∀(n:Nat) (v c:HV) (t:cg) (u:Value),vw s n v=some (c,t)->vu s n v=true->HR β (Live M s β) w v u->∀(V:Bt),HR V (λb=>b<N0) w c u:=by
 intro n
 induction n with
 |zero=>intro v c t u h;cases h
 |succ n ih=>
  intro v c t u h B d V;have B:(bif ff v then true else(match(generalizing:=false) v with
   |.sl o X len m=>bif Nat.beq len 0 then true else(match s.bF o X (len*m)with|some l=>vd (vu s n) l|none=>false)
   |.agg l=>vd (vu s n) l
   |.cO l=>vd (vu s n) l
   |_=>false))=true:=B
  cases Y:ff v with
  |true=>
   have k:(c=v∨v=.ah/\c=.psl []):=by
    have h:(bif eo v then some (v,([]:cg))else _)=some (c,t):=h;cases E:eo v with
    |true=>rw[E,cond_true]at h;cases h;exact .inl rfl
    |false=>
     rw[E,cond_false]at h;cases v with
     |ah=>cases h;exact .inr ⟨rfl,rfl⟩
     |psl ha=>cases ha with|nil=>simp[eo,eT]at E|cons x r=>simp[ff]at Y
     |_=>first|(simp[eo]at E;done)|(simp[ff]at Y;done)
   rcases k with rfl|⟨rfl,rfl⟩
   .exact d.Vo Y
   cases d;exact .psl0 _ _ (λ_=>rfl)
  |false=>
  rw[Y,cond_false]at B;have hq:=(mG hr (n+1) v c t u h d).1;have h:(bif eo v then some (v,([]:cg))else _)=some (c,t):=h;cases v with
  |sl o X len m=>
   have h:(bif Nat.beq len 0 then some (HV.psl [],[])else(match s.bF o X (len*m)with
    |some l=>(match oI (vw s n) l with|some (q,t)=>some (.psl (jD m len q),o::t)|none=>none)
    |none=>none))=some (c,t):=h
   cases D:Nat.beq len 0 with
   |true=>
    rw[D,cond_true]at h;cases h;rw[bf]at D;subst D;cases d with
    |sl _ _ _ _ cap n' pl Z hs hc=>exact .psl0 _ _ (λh=>by cases h)
    |pY=>exact .psl0 _ _ (λ_=>rfl)
   |false=>
    simp only[D,cond_false]at h B;have hd:len≠0:=λe=>by subst e;cases D
    split at h
    case h_2=>cases h
    rename_i l h5;simp only[h5]at B
    split at h
    case h_2=>cases h
    rename_i q t' H;cases h;cases d with
    |pY=>exact absurd rfl hd
    |sl _ _ _ _ cap n' pl Z hs hg hb ht=>
    obtain⟨d1,d2,d3,gg,d4,d5⟩:=hr.bF Z h5;obtain⟨f1,f2⟩:=gG H;obtain⟨tr,lo,A,g,q1,q2,q3,_⟩:=HS.kB h5;have hlen:q.length=len*m:=f1.trans d2;have I:∀(j:Nat) (x:HV),q[j]?=some x->HR V (λb=>b<N0) w x (gg j)/\x.one=true:=by intro j x J;obtain⟨z,t0,G,k2,_⟩:=f2 j x J;exact⟨ih z x t0 (gg j) k2 (mI B z (cE G)) (d5 j z G) V,(mG hr n z x t0 (gg j) k2 (d5 j z G)).1 (d3 z (cE G))⟩
    have L:∀(i:Nat) (row:ai),(jD m len q)[i]?=some row->i<len/\row.length=m/\∀j,j<m->row[j]?=q[i*m+j]?:=by
     intro i row A;have h3:i<len:=by have:=(aU.1 A).1;rwa[eu]at this
     rw[tz m len q i h3]at A;cases A;have hm:(i+1)*m<=len*m:=ji _ h3;rw[iR]at hm;refine⟨h3,by simp[hlen];omega,λj hj=>?_⟩;rw[rN hj,kX]
    have:=HR.psl (β:=V) (N:=λb=>b<N0) (w:=w) (jD m len q) pl.b (X-pl.s) cap m (λi j=>gg (i*m+j)) (by have:=hy pl.b ⟨o,_,pl,q1,Z,rfl⟩;omega) (hr.lt o pl Z).2 (by rw[eu];exact hg) (λi row A=>(L i row A).2.1) (λrow hk x J=>?_) (λi j A hj=>?_) (λi row j a A hj=>?_)
    .rw[eu]at this;exact this
    .obtain⟨i,A,rfl⟩:=oQ hk;obtain⟨j,hj,rfl⟩:=oQ J;obtain⟨g1,g2,g3⟩:=L i _ (aX A);have h4:=g3 j (by omega);rw[aX hj]at h4;exact(I _ _ h4.symm).2
    .rw[eu]at A;have hm:(i+1)*m<=len*m:=ji _ A;rw[iR]at hm;exact d4 _ (by omega)
    obtain⟨g1,g2,g3⟩:=L i row A;have ho:j<m:=by rw[<-g2];exact(aU.1 hj).1
    rw[g3 j ho]at hj;exact(I _ _ hj).1
  |agg l=>
   simp only at B;cases E:eo (.agg l)with
   |true=>
    rw[E,cond_true]at h;cases h;cases d with
    |agg _ W h0 h1 h2=>
    refine .agg l W h0 h1 λi c p k f=>?_
    have h6:eo c=true:=by
     have h7:dv l=true:=E;have key:∀(l:ai),dv l=true->∀v∈l,eo v=true:=by
      intro l
      induction l with
      |nil=>intro _ v d;cases d
      |cons a r h8=>
       intro D v d;simp only[dv,aL]at D;rcases bk.1 d with rfl|d
       .exact D.1
       exact h8 D.2 v d
     exact key l h7 c (cE k)
    have O:=mI B c (cE k);cases n with
    |zero=>cases O
    |succ n=>exact ih c c [] p (by show(bif eo c then some (c,([]:cg))else _)=_;rw[h6];rfl) O (h2 i c p k f) V
   |false=>
   rw[E,cond_false]at h;have h:(match oI (vw s n) l with|some (q,t)=>some (HV.agg q,t)|none=>none)=some (c,t):=h
   split at h
   case h_2=>cases h
   rename_i q t' H;cases h;cases d with
   |agg _ W h0 h1 h2=>
   obtain⟨f1,f2⟩:=gG H;have I:∀(i:Nat) (x:HV) (p:Value),q[i]?=some x->W[i]?=some p->HR V (λb=>b<N0) w x p/\((∀y∈l,y.one=true)->x.one=true):=by intro i x p J f;obtain⟨z,t0,G,k2,_⟩:=f2 i x J;exact⟨ih z x t0 p k2 (mI B z (cE G)) (h2 i z p G f) V,λh9=>(mG hr n z x t0 p k2 (h2 i z p G f)).1 (h9 z (cE G))⟩
   refine .agg q W (λx J=>?_) (by omega) λi x p J f=>(I i x p J f).1
   obtain⟨i,A⟩:=uG.1 J;have h3:=(aU.1 A).1;have hp:i<W.size:=by omega
   exact(I i x W[i] A (by simp[hp])).2 h0
  |cO l=>
   simp only at B;cases E:eo (.cO l)with
   |true=>
    rw[E,cond_true]at h;cases h;cases d with
    |cO _ W h1 h2=>
    refine .cO l W h1 λi c p k f=>?_
    have h6:eo c=true:=by
     have h7:dv l=true:=E;have key:∀(l:ai),dv l=true->∀v∈l,eo v=true:=by
      intro l
      induction l with
      |nil=>intro _ v d;cases d
      |cons a r h8=>
       intro D v d;simp only[dv,aL]at D;rcases bk.1 d with rfl|d
       .exact D.1
       exact h8 D.2 v d
     exact key l h7 c (cE k)
    have O:=mI B c (cE k);cases n with
    |zero=>cases O
    |succ n=>exact ih c c [] p (by show(bif eo c then some (c,([]:cg))else _)=_;rw[h6];rfl) O (h2 i c p k f) V
   |false=>
   rw[E,cond_false]at h;have h:(match oI (vw s n) l with|some (q,t)=>some (HV.cO q,t)|none=>none)=some (c,t):=h
   split at h
   case h_2=>cases h
   rename_i q t' H;cases h;cases d with
   |cO _ W h1 h2=>
   obtain⟨f1,f2⟩:=gG H;refine .cO q W (by omega) λi x p J f=>?_
   obtain⟨z,t0,G,k2,_⟩:=f2 i x J;exact ih z x t0 p k2 (mI B z (cE G)) (h2 i z p G f) V
  |_=>cases B
def wV{ih:Task->Out}(hi:hU (CR fx P) P ih)(hm:P.follows .mixedOrders=true){f:Nat}{F:HF}(O:pq P f F=true){args:ai}{v:HV}(h:kh F ih args=some v):
  dQ P f/\∀(M:aG) w (vs:List Value),(∀b,M b->b<w.heap.size)->jG (CR fx P) M w->eQ (λ_=>none) M w args vs->Calls P f vs.toArray w (λZ w'=>∃u,Z=.returned u/\nD w w'/\HR (λ_=>none) M w' v u/\(gy F ih args=true->HR (λ_=>none) (λb=>b<w.heap.size) w' v u)):=by
 unfold kh at h;unfold pq at O
 split at O
 case h_2=>cases O
 rename_i fn V;simp only[aL,bU,bY,fG,fX,wv,ne_eq]at O;obtain⟨⟨⟨⟨⟨h9,ha⟩,G⟩,W⟩,m⟩,H⟩:=O
 split at m
 case h_2=>cases m
 rename_i c p;refine⟨⟨fn,V,by rw[p];rfl,by simpa using H⟩,λM w vs D X I=>?_⟩;cases z:Nat.beq (aM args) F.np with
 |false=>rw[z]at h;cases h
 |true=>
 rw[z]at h;rw[bf,bK]at z;simp only[gW]at h;obtain⟨x,q,A,d,t,j,B,k,r⟩:∃x q A d t,bO ih F.c (bc args 0) s0=.code x q A/\(x=.normal∨x=.ret)/\(∃s2,leave F q A=.val d s2/\vw s2 16 d=some (v,t))/\True:=by
  have fin:∀(x:Ex) (q:En) (A:HS),(match leave F q A with|.val v s'=>(match vw s' 16 v with|some (v',_)=>some v'|none=>none)|_=>none)=some v->∃d t,∃s2,leave F q A=.val d s2/\vw s2 16 d=some (v,t):=by
   intro x q A h
   split at h
   .rename_i d s2 k
    split at h
    .rename_i v' t r;cases h;exact⟨d,t,s2,k,r⟩
    cases h
   cases h
  cases j:bO ih F.c (bc args 0) s0 with
  |val a b=>rw[j]at h;cases h
  |bad a=>rw[j]at h;cases h
  |code x q A=>
   rw[j]at h;cases x with
   |normal=>obtain⟨d,t,y⟩:=fin .normal q A h;exact⟨_,_,_,d,t,rfl,.inl rfl,y,trivial⟩
   |ret=>obtain⟨d,t,y⟩:=fin .ret q A h;exact⟨_,_,_,d,t,rfl,.inr rfl,y,trivial⟩
   |exit i=>cases h
 obtain⟨s2,k,r⟩:=k;refine callsIn_wide (n:=0).1 (callsIn_of_wp_marks V p trivial ?_);have hd:vs.length=F.np:=I.1.trans z;have Y:∀b,Live M s0 (λ_=>none) b->M b:=by
  rintro b (m|⟨o,ob,pl,N,y,h3⟩)
  .exact m
  cases y
 have h4:bW M (CR fx P) (λ_=>none) s0 w:=⟨λo pl h=>(by cases h),λo ob h=>(by cases h),λo o' ob hf pl hg h=>(by cases h),λo t lo hi g h=>(by cases h),λg ms h=>(by cases h),D,λb h ⟨o,ob,pl,N,y,h3⟩=>(by cases y),λo E n h=>(by cases h)⟩;have h5:At M (CR fx P) F.nt F.keep none w.heap.size (λ_=>none) s0 (bc args 0) {tmps:=vs.toArray++Array.replicate (fn.ntmps-vs.toArray.size) undef,defers:=[]} w:=by
  refine⟨h4,λt x B=>?_,?_,.nil,aV _,λb o m=>⟨(X b o m).1,λB=>(X b o m).2 (Y b B)⟩,λl z=>by cases z⟩
  .rw[qR]at B;simp only[fN,bp,I5]at B;have ht:t<args.length:=(aU.1 B).1;refine⟨by simpa using G t (by omega),?_⟩;have J:t<vs.length:=by rw[I.1];exact ht
   have hh:=I.2 t x vs[t] B (aX J);simp only[fM];rw[Ew (by simpa using J)];simp[J];exact hh.keep (Bt.le_refl _) (λb _ m=>Y b m) (cJ.refl _ _)
  simp;omega
 have hold:nD w w:=⟨aV _,λ_ _=>rfl,rfl,rfl,rfl⟩;refine wpIn_mono (pw hi hm _ _ _ _ _ _ _ m j M none w.heap.size _ _ w w h5 hold (λb ⟨o,ob,pl,N,y,h3⟩=>by cases y) D) ?_;intro Z a' w' h6;obtain⟨rfl,β',N,y,h3⟩:=h6;obtain⟨rs,m1,m2,m3⟩:=N.marks;have z:=zr (fn:=fn) (e:=q) (tm:=a'.tmps) (keep:=F.keep) (R:=λZ w'=>∃u,Z=.returned u/\nD w w'/\HR (λ_=>none) M w' v u/\(gy F ih args=true->HR (λ_=>none) (λb=>b<w.heap.size) w' v u)) (w0:=w) (λw2 r1 x1 he=>by
  obtain⟨rfl,u,q1,q2⟩:=uE r1 he W k;obtain⟨_,c2,c3⟩:=mG r1 16 d v t u r q2;exact⟨u,q1,u,rfl,x1,c3 _ M (λb m _=>.inl m) (λo ho pl h7 hM=>by
   obtain⟨tr,lo,hi,g,h8⟩:=c2 o ho;exact r1.sO _ hM ⟨o,_,pl,h8,h7,rfl⟩),λL=>Jf r1 h3 16 d v t u r (by
    unfold gy at L;rw[j]at L;rcases B with rfl|rfl<;>simpa only[k]using L) q2 _⟩) rs w' m2 m3 N.rel y N.env
 rw[<-m1]at z;rcases B with rfl|rfl
 .exact z
 exact z
def HR.flat{i:Bt}{N j:aG}{v:HV}{u:Value}(h:HR β N w v u)(d:ff v=true):HR i j w v u:=by
 cases h
 case psl0 A cap k=>exact .psl0 A cap k
 case psl c b o cap q g l m f p h0 t y=>
  cases c with
  |cons x r=>simp[ff]at d
  |nil=>exact .psl0 _ cap (λh=>by cases h)
 all_goals first|(simp[ff]at d;done)|constructor
def HR.aD{y:Bt}{N z:aG}{v:HV}{u:Value}(h:HR β N w v u)(c:fp v=true):HR y z w v u:=by
 cases h with
 |agg l f h0 j m=>simp only[fp,fG]at c;exact .agg l f h0 j λi v u d p=>(m i v u d p).flat (c v (cE d))
 |cO l f j m=>simp only[fp,fG]at c;exact .cO l f j λi v u d p=>(m i v u d p).flat (c v (cE d))
 |int k n=>exact .int k n
 |bool b=>exact .bool b
 |str s=>exact .str s
 |ah=>exact .ah
 |dE=>exact .dE
 |gY=>exact .gY
 |fS=>exact .fS
 |fU=>exact .fU
 |undef=>simp[fp,ff]at c
 |ptr=>simp[fp,ff]at c
 |sl=>simp[fp,ff]at c
 |pY=>simp[fp,ff]at c
 |mp=>simp[fp,ff]at c
 |fn=>simp[fp,ff]at c
 |iK=>simp[fp,ff]at c
 |psl0 A cap B=>exact .psl0 A cap B
 |psl q b o cap H g D E t G h0 I d=>
  cases q with
  |cons x r=>simp[fp,ff]at c
  |nil=>exact .psl0 _ cap (λh=>by cases h)
 |aw=>simp[fp,ff]at c
def EP{ih:Task->Out}(D:hU (CR fx P) P ih)(Z:P.follows .mixedOrders=true){f:Nat}{F:HF}(hc:pq P f F=true){args:ai}{v:HV}{s s':HS}(h:cv F ih args s=.val v s'):
  dQ P f/\∀(M:aG) β w (vs:List Value),bW M (CR fx P) β s w->jG (CR fx P) (Live M s β) w->eQ β (Live M s β) w args vs->Calls P f vs.toArray w (qw M (CR fx P) β s w v s'):=by
 unfold cv at h;cases E:cI args with
 |true=>
  rw[E,cond_true]at h;cases c:kh F ih (bif dv args then args else oH args)with
  |none=>rw[c]at h;cases h
  |some r=>
   rw[c]at h;cases h;obtain⟨G,H⟩:=wV D Z hc c;refine⟨G,λM β w vs q m p=>?_⟩;have i:eQ (λ_=>none) (Live M s β) w (bif dv args then args else oH args) vs:=by have k:eQ (λ_=>none) (Live M s β) w args vs:=⟨p.1,λj a b y d=>(p.2 j a b y d).pure _ (ie.refl _ _) (iS E a (cE y))⟩;cases hD:dv args with|true=>exact k|false=>refine⟨by rw[cond_false,jc,bz];exact k.1,λj a b y d=>?_⟩;rw[cond_false,jc,fV]at y;obtain⟨x,I,rfl⟩:=lR.1 y;exact(k.2 j x b I d).nn
   refine(H (Live M s β) w vs (λb d=>Live.lt q d) m i).mono ?_
   rintro en w' ⟨u,rfl,z,J,_⟩
   obtain⟨L,N⟩:=q.old z;exact⟨u,β,rfl,L,N,J.keep (λo pl h=>by cases h) (ie.refl _ _) (cJ.refl _ _)⟩
 |false=>
  rw[E,cond_false]at h
  split at h
  case h_2=>cases h
  rename_i l t O;cases c:kh F ih l with
  |none=>rw[c]at h;cases h
  |some r=>
   rw[c]at h;have h:(bif fp r then Out.val r s else bif gy F ih l then .val r s else .bad 41)=.val v s':=h;have h:v=r/\s'=s/\(fp r=true∨gy F ih l=true):=by
    cases A:fp r with
    |true=>rw[A,cond_true]at h;cases h;exact⟨rfl,rfl,.inl rfl⟩
    |false=>
     rw[A,cond_false]at h;cases B:gy F ih l with
     |false=>rw[B]at h;cases h
     |true=>rw[B,cond_true]at h;cases h;exact⟨rfl,rfl,.inr rfl⟩
   obtain⟨rfl,rfl,V⟩:=h;obtain⟨G,H⟩:=wV D Z hc c;refine⟨G,λM β w vs q m p=>?_⟩;obtain⟨_,c2,c3⟩:=zY q O p;have i:eQ (λ_=>none) M w l vs:=c3 _ M (λb d _=>.inl d) (λo z pl W hM=>by
    obtain⟨tr,lo,D,g,X⟩:=c2 o z;exact q.sO _ hM ⟨o,_,pl,X,W,rfl⟩)
   refine(H M w vs q.mlt (λb o d=>⟨(m b o d).1,λI=>(m b o d).2 (.inl I)⟩) i).mono ?_
   rintro en w' ⟨u,rfl,z,J,Y⟩
   obtain⟨L,N⟩:=q.old z;refine⟨u,β,rfl,L,N,?_⟩;rcases V with A|B
   .exact J.aD A
   exact(Y B).keep (λo pl h=>by cases h) (λb _ d=>Live.lt q (d)) (cJ.refl _ _)
def z8{L:jE}{prog:Nat->Option HF}(o:P.follows .mixedOrders=true)(b:∀f F,prog f=some F->pq P f F=true)(H:wR fx P L.dw (ur L))(I:wR fx P L.str (mc L))(J:wR fx P L.fmt wh)(N:∀t,L.ve=some t->wR fx P t lN)(O:∀f,zi f L.Iu=true->wR fx P f EN):∀n,hU (CR fx P) P (run L prog n)
 |0=>⟨(λf args s v s' h=>by cases h),(λl args s v s' h=>by cases h),(λnt keep c code i e s x e' s' h=>by cases h),(λnt keep c code i e s x e' s' h=>by cases h)⟩
 |n+1=>by
  have j:=z8 o b H I J N O n;refine⟨λf args s v s' h=>?_,λl args s v s' h M β w pl V W A B D=>C1 j o h M β w pl V W A B D,λnt keep c code i e s x e' s' h=>?_,λnt keep c code i e s x e' s' h=>?_⟩
  .have h:rF L f args s (bG prog (run L prog n) f args s)=.val v s':=h;unfold rF at h;cases d:Nat.beq f L.dw with
   |true=>rw[d]at h;rw[bf]at d;subst d;exact H args s v s' h
   |false=>
   cases g:Nat.beq f L.str with
   |true=>rw[d,g]at h;rw[bf]at g;subst g;exact I args s v s' h
   |false=>
   cases k:Nat.beq f L.fmt with
   |true=>rw[d,g,k]at h;rw[bf]at k;subst k;exact J args s v s' h
   |false=>
   rw[d,g,k]at h;have h:bR L.ve (λt=>bif Nat.beq f t then lN args s else gz L f args s (bG prog (run L prog n) f args s)) (gz L f args s (bG prog (run L prog n) f args s))=.val v s':=h;have h:gz L f args s (bG prog (run L prog n) f args s)=.val v s'∨(∃t,L.ve=some t/\f=t/\lN args s=.val v s'):=by
    cases y:L.ve with
    |none=>rw[y]at h;exact .inl h
    |some t=>rw[y]at h;simp only[bR]at h;cases m:Nat.beq f t with|true=>rw[m]at h;rw[bf]at m;exact .inr ⟨t,rfl,m,h⟩|false=>rw[m]at h;exact .inl h
   rcases h with h|⟨t,y,rfl,h⟩
   case inr=>exact N f y args s v s' h
   rcases zI L f args s with E|⟨G,rfl,E⟩
   case inr=>rw[E]at h;exact O f G _ s v s' h
   rw[E]at h;have h:bG prog (run L prog n) f args s=.val v s':=h;unfold bG at h;cases z:prog f with
   |none=>rw[z]at h;cases h
   |some F=>rw[z]at h;have h:(bif F.pu then cv F (run L prog n) args s else dO F (run L prog n) args s)=.val v s':=h;cases u:F.pu with|true=>rw[u]at h;exact EP j o (b f F z) h|false=>rw[u]at h;exact EM j o (b f F z) h
  .have h:(ev (run L prog n) c e s).cA (λe' s'=>run L prog n (.loop c e' s'))=.code x e' s':=h;rcases eD h with⟨X,Y,p,q⟩|⟨p,q⟩
   .exact oX.seq (eM j o _ _ _ _ _ _ _ i p) (λ_=>j.loop nt keep c _ i _ _ _ _ _ q) (λr=>absurd rfl r)
   exact oX.seq (eM j o _ _ _ _ _ _ _ i p) (λr=>absurd r q) (λ_=>⟨rfl,rfl,rfl⟩)
  have h:(bO (run L prog n) c e s).cA (λe' s'=>run L prog n (.oJ c e' s'))=.code x e' s':=h;rcases eD h with⟨X,Y,p,q⟩|⟨p,q⟩
  .exact oZ.seq (pw j o _ _ _ _ _ _ _ i p) (λ_=>j.oJ nt keep c _ i _ _ _ _ _ q) (λr=>absurd rfl r)
  exact oZ.seq (pw j o _ _ _ _ _ _ _ i p) (λr=>absurd r q) (λ_=>⟨rfl,rfl,rfl⟩)
end fn
open Go Go.RowKit
def vl{α:Type}(p:Nat->α->Prop):Tr α->Prop
 |.lf=>True
 |.nd v l r=>(match v with|some x=>p 0 x|none=>True)/\vl (λk=>p (2*k+1)) l/\vl (λk=>p (2*k+2)) r
def Lw{α:Type}(p:Nat->α->Bool):Tr α->Bool
 |.lf=>true
 |.nd v l r=>(match v with|some x=>p 0 x|none=>true)&&(Lw (λk=>p (2*k+1)) l&&Lw (λk=>p (2*k+2)) r)
def Lx.get{α:Type}:∀(t:Tr α) (p:Nat->α->Bool),Lw p t=true->vl (λk x=>p k x=true) t
 |.lf,_,_=>trivial
 |.nd v l r,p,h=>by unfold Lw at h;simp only[aL]at h;refine⟨?_,Lx.get l _ h.2.1,Lx.get r _ h.2.2⟩;cases v with|none=>trivial|some x=>exact h.1
def vl.get{α:Type}:∀(t:Tr α) (p:Nat->α->Prop),vl p t->∀k x,fI t k=some x->p k x
 |.lf,_,_,k,x,b=>by cases b
 |.nd v l r,p,⟨d,f,g⟩,k,x,b=>by
  rw[iX]at b;by_cases h0:k=0
  .subst h0;rw[au rfl]at b;subst b;exact d
  rw[ar h0]at b;by_cases c:k%2=1
  .rw[au c]at b;have:=vl.get l _ f _ _ b;rwa[show 2*(k/2)+1=k by omega]at this
  rw[ar c]at b;have:=vl.get r _ g _ _ b;rwa[show 2*((k-1)/2)+2=k by omega]at this
structure ag5(P:Program)(L:jE):Prop where
 c1:dQ P L.dw
 c2:∀(b:Nat) (w:World),w.cell? ⟨b,0,none⟩=some (.pointer (some ⟨b,0,none⟩))->Calls P L.dw #[.pointer (some ⟨b,0,none⟩)] w λe w'=>e=.returned (.tuple #[])/\w'=w
 c3:∀(b:Nat) (w:World),w.cell? ⟨b,0,none⟩=some (.pointer none)->w.shape? b=some (L.bt,2)->w.frozen? ⟨b,0,none⟩=false->
   Calls P L.dw #[.pointer (some ⟨b,0,none⟩)] w λe w'=>e=.returned (.tuple #[])/\w'=w.setCell ⟨b,0,none⟩ (.pointer (some ⟨b,0,none⟩))
 s1:dQ P L.str
 s2:∀(b:Nat) (w:World),w.cell? ⟨b,1,none⟩=some (.slice none 0 0)->Calls P L.str #[.pointer (some ⟨b,0,none⟩)] w λe w'=>e=.returned (.string ⟨#[]⟩)/\w'=w.drewN 1
 s3:∀(b g cap n:Nat) (l:List UInt8) (w:World),l≠ []->w.cell? ⟨b,1,none⟩=some (.slice (some ⟨g,0,none⟩) l.length cap)->l.length<=cap->w.shape? g=some (L.It,n)->l.length<=n->l.length<=9223372036854775807->
   (∀j x,l[j]?=some x->w.cell? ((⟨g,0,none⟩:Addr).add j)=some (.int .u8 x.toNat))->
   Calls P L.str #[.pointer (some ⟨b,0,none⟩)] w λe w'=>e=.returned (.string ⟨l.toArray⟩)/\w'=(w.drewN 1).freeze ⟨g,0,none⟩ l.length
 f1:dQ P L.fmt
 f2:∀(n:Int) (w:World),-9223372036854775808<=n->n<=9223372036854775807->Lib.TabIs P w "internal/strconv.uint64pow10" .u64 Lib.pow10Tab->
   Calls P L.fmt #[.int .i64 n,.int .i64 10] w λe w'=>e=.returned (.string ⟨(Lib.itoa n).toArray⟩)/\∃k os,w'=Go.Sort.grow (w.drewN k) os
 n1:∀f,zi f L.Iu=true->dQ P f/\∀(A:Option Addr) (c:Nat) (w:World),(A=none->c=0)->Calls P f #[.slice A 0 c] w λe w'=>∃A' c',e=.returned (.slice A' 0 c')/\(A'=none->c'=0)/\Below w.heap.size w w'
def zs{fx:Nat->Option Obj}{P:Program}{t:Nat}{s':HS}{ih:Task->Out}(r:hU (CR fx P) P ih)(h:ih (.call t [] s0)=.val (.bool true) s'):wR fx P t lN:=by
 intro args s v d x;obtain⟨rfl,rfl,rfl⟩:args=[]/\v=.bool true/\d=s:=by
  cases args with
  |nil=>cases x;exact⟨rfl,rfl,rfl⟩
  |cons=>cases x
 obtain⟨p,i⟩:=r.call t [] s0 _ _ h;refine⟨p,λM β w A y j q=>?_⟩;have k:A=[]:=ja q.1;subst k;have l:∀b,Live (Live M d β) s0 (λ_=>none) b->Live M d β b:=by
  rintro b (f|⟨o,ob,pl,p,i,B⟩)
  .exact f
  cases i
 have m:bW (Live M d β) (CR fx P) (λ_=>none) s0 w:=⟨λo pl h=>(by cases h),λo ob h=>(by cases h),λo V ob D pl G h=>(by cases h),λo t W r g h=>(by cases h),λg X h=>(by cases h),λb h=>Live.lt y h,λb h ⟨o,ob,pl,p,i,B⟩=>(by cases i),λo E n h=>(by cases h)⟩;refine(i (Live M d β) (λ_=>none) w [] m (λb o f=>⟨(j b o f).1,λc=>(j b o f).2 (l b c)⟩) eQ.nil).mono ?_
 rintro e H ⟨u,Y,rfl,_,c,I⟩
 cases I;have J:nD w H:=⟨c.keeps.size,λb f=>by
  by_cases z:Live M d β b
  .exact c.oP b z
  exact c.keeps.same b f λL=>z (l b L),c.os,c.tape,c.output⟩
 obtain⟨N,O⟩:=y.old J;exact⟨_,β,rfl,N,O,.bool true⟩
def A9{fx:Nat->Option Obj}{P:Program}{f:Nat}(h:dQ P f/\∀(A:Option Addr) (c:Nat) (w:World),(A=none->c=0)->Calls P f #[.slice A 0 c] w λe w'=>∃j c',e=.returned (.slice j 0 c')/\(j=none->c'=0)/\Below w.heap.size w w'):wR fx P f EN:=by
 intro args s v s' d;unfold EN at d
 split at d
 case h_2=>cases d
 cases d;refine⟨h.1,λM β w X t y k=>?_⟩;obtain⟨u,z,rfl,p,B⟩:=k.split;have:z=[]:=by have:=B.1;simpa using this
 subst this;have key:∀(A:Option Addr) (c:Nat),(A=none->c=0)->Calls P f [Value.slice A 0 c].toArray w (qw M (CR fx P) β s w (.psl []) s):=by
  intro A c l;refine(h.2 A c w l).mono ?_
  rintro e w' ⟨j,c',rfl,m,D⟩
  obtain⟨E,G,H,I,J⟩:=D;have L:nD w w':=⟨I,λb i=>J b i,E,G,H⟩;obtain⟨N,O⟩:=t.old L;exact⟨_,β,rfl,N,O,.psl0 j c' m⟩
 generalize q:HV.psl []=x at p;cases p with
 |psl0 A c l=>exact key A c l
 |psl V b o cap Y g Z i r W h0 hc d=>cases q;exact key _ cap (λh=>by cases h)
 |_=>cases q
def ag5.sound{P:Program}{L:jE}(F:ag5 P L)(l:P.follows .mixedOrders=true){W:World}
  (k:Lib.TabIs P W "internal/strconv.uint64pow10" .u64 Lib.pow10Tab):∃fx:Nat->Option Obj,(∀b o,fx b=some o->W.heap[b]?=some o)/\∀(prog:Nat->Option HF),(∀f F,prog f=some F->pq P f F=true)->∀c,(∀t,c=some t->wR fx P t lN)->∀n,hU (CR fx P) P (run {L with ve:=c} prog n):=by
 unfold Lib.TabIs World.var? at k;obtain⟨g,m,j⟩:=ag3.1 k
 split at j
 .rename_i y E p q;cases j;refine⟨λb=>if b=g then W.heap[g]?else none,λb o h=>?_,λprog d c i=>z8 (L:={L with ve:=c}) l d (C2 F.c1 F.c2 F.c3) (A7 F.s1 F.s2 F.s3) (A6 (b0:=g) (o0:=.cells _ E p) F.f1 (by rw[au rfl,q]) λn w r u v=>F.f2 n w r u ?_) i (λf x=>A9 (F.n1 f x))⟩
  .have h:(if b=g then W.heap[g]?else none)=some o:=h;by_cases e:b=g
   .subst e;rw[au rfl]at h;exact h
   rw[ar e]at h;cases h
  unfold Lib.TabIs World.var?;rw[m,Ey,v]
 cases j
def C5{P:Program}{W:World}{k l:String×DataW Unit}{g:Nat}{t e:TypeId}{n:Nat}(m:P.globalNamed "internal/strconv.uint64pow10" =some g)(c:(P.globals[g]?).map (·.type)=some t)(o:P.underlying t=some (.array n e))
  (r:P.underlying e=some (.int .u64))(d:P.cellsOf e=1)(f:P.cellsOf t=n)(h:laidMet P [k,l,("internal/strconv.uint64pow10",Lib.tabData .u64 Lib.pow10Tab)] W):Lib.TabIs P W "internal/strconv.uint64pow10" .u64 Lib.pow10Tab:=by
 obtain⟨v,⟨_,_,_,_,_,_,_,_,_,_,⟨_,_,_,_,_,_,_,_,_,_,⟨x,y,z,fuel,p,q,i,j,b,u,_,_⟩,_⟩,_⟩,_⟩:=h;obtain rfl:=lr (m.symm.trans i);obtain rfl:=lr (c.symm.trans j);unfold Lib.TabIs;rw[b,<-Lib.cells_of_tab o r d f u]
open Go Go.Shelf Go.RowKit
variable{P:Program}{ρ:Ren}
set_option maxHeartbeats 2000000 in
set_option maxRecDepth 100000 in
def Ly(L:Lays.n169 P ρ)(X:Builder.Extra P ρ)(b:Nat)(w:World)(c0:w.cell? ⟨b,1,none⟩=some (.slice none 0 0)):
  Calls P (ρ.f 169) #[.pointer (some ⟨b,0,none⟩)] w λe w'=>e=.returned (.string ⟨#[]⟩)/\w'=w.drewN 1:=by
 have d:=Any.unsafeString_none L X;have k:w.drew.cell? ⟨b,1,none⟩=some (.slice none 0 0):=c0;have g:(Builtin.unsafeSliceData_ #[(ρ.t 37)] (ρ.t 127) #[.slice none 0 0]).run P w.drew=.ok (.pointer none) w.drew:=rfl;have mixed:=L.mixed;have t72:=L.t72;have a72:=L.a72;have z72:=L.z72;have v72:=L.v72;have h:=run_underlying L.t72;have t70:=L.t70;have a70:=L.a70;have z70:=L.z70;have v70:=L.v70;have i:=run_underlying L.t70;have t37:=L.t37;have a37:=L.a37;have z37:=L.z37;have v37:=L.v37;have j:=run_underlying L.t37;have t127:=L.t127;have a127:=L.a127;have z127:=L.z127;have v127:=L.v127;have c:=run_underlying L.t127;have t3:=L.t3;have a3:=L.a3;have z3:=L.z3;have v3:=L.v3;have l:=run_underlying L.t3;have t9:=L.t9;have a9:=L.a9;have z9:=L.z9;have v9:=L.v9;have m:=run_underlying L.t9;have t5:=X.t5;have a5:=X.a5;have z5:=X.z5;have v5:=X.v5;have o:=run_underlying X.t5
 go_enter L.f169,Body.n169_ntmps ρ
 go_wp2
 go_region_o
 all_goals (go_wp2;go_ret;exact⟨rfl,rfl⟩)
set_option maxHeartbeats 2000000 in
set_option maxRecDepth 100000 in
def Jg(L:Lays.n169 P ρ)(X:Builder.Extra P ρ)(b g cap n:Nat)(l:List UInt8)(w:World)(h0:l≠ [])(c0:w.cell? ⟨b,1,none⟩=some (.slice (some ⟨g,0,none⟩) l.length cap))(k:l.length<=cap)
  (d:w.shape? g=some (ρ.t 5,n))(m:l.length<=n)(h:l.length<=9223372036854775807)(c:∀j x,l[j]?=some x->w.cell? ((⟨g,0,none⟩:Addr).add j)=some (.int .u8 x.toNat)):
  Calls P (ρ.f 169) #[.pointer (some ⟨b,0,none⟩)] w λe w'=>e=.returned (.string ⟨l.toArray⟩)/\w'=(w.drewN 1).freeze ⟨g,0,none⟩ l.length:=by
 have o:l.length≠0:=by simpa using h0
 have y:w.drew.cell? ⟨b,1,none⟩=some (.slice (some ⟨g,0,none⟩) l.length cap):=c0;have p:(Builtin.unsafeSliceData_ #[(ρ.t 37)] (ρ.t 127) #[.slice (some ⟨g,0,none⟩) l.length cap]).run P w.drew=.ok (.pointer (some ⟨g,0,none⟩)) w.drew:=
  Lib.run_unsafeSliceData_row _ _ _ _ _ _ (by omega)
 have q:(Builtin.unsafeString_ #[(ρ.t 127),(ρ.t 3)] (ρ.t 9) #[.pointer (some ⟨g,0,none⟩),.int .i64 l.length]).run P w.drew=.ok (.string ⟨l.toArray⟩) (w.drew.freeze ⟨g,0,none⟩ l.length):=
  Lib.run_unsafeString_row w.drew (ρ.t 127) (ρ.t 3) (ρ.t 9) (ρ.t 5) L.t127 X.cellsByte g n d l h0 m h c
 have mixed:=L.mixed;have t72:=L.t72;have a72:=L.a72;have z72:=L.z72;have v72:=L.v72;have r:=run_underlying L.t72;have t70:=L.t70;have a70:=L.a70;have z70:=L.z70;have v70:=L.v70;have u:=run_underlying L.t70;have t37:=L.t37;have a37:=L.a37;have z37:=L.z37;have v37:=L.v37;have v:=run_underlying L.t37;have t127:=L.t127;have a127:=L.a127;have z127:=L.z127;have v127:=L.v127;have i:=run_underlying L.t127;have t3:=L.t3;have a3:=L.a3;have z3:=L.z3;have v3:=L.v3;have z:=run_underlying L.t3;have t9:=L.t9;have a9:=L.a9;have z9:=L.z9;have v9:=L.v9;have A:=run_underlying L.t9;have t5:=X.t5;have a5:=X.a5;have z5:=X.z5;have v5:=X.v5;have B:=run_underlying X.t5
 go_enter L.f169,Body.n169_ntmps ρ
 go_wp2
 go_region_o
 all_goals (go_wp2;go_ret;exact⟨rfl,rfl⟩)
end Go.Proofs.YtcfbbbjhnaienaaGreatDoor.K.Hm
namespace Go.Proofs
open Go Go.RowKit Go.Lib
set_option maxRecDepth 100000 in
def Tryz.ajh(A:Option Addr)(c:Nat)(w:World)(d:A=none->c=0):
  Calls Tryz.prog 89 #[.slice A 0 c] w λe w'=>∃b c',e=.returned (.slice b 0 c')/\(b=none->c'=0)/\Below w.heap.size w w':=by
 have q:=λ(w:World) (a:Option Addr) (n c f c':Nat)=>Lib.run_eql_slice_nil (P:=Tryz.prog) w 41 _ a n c f c' Tryz.underlying41
 cases A with
 |none=>
  rw[d rfl]
  go_enter Tryz.func89,Tryz.ntmps89
  go_wp2
  go_ret
  exact⟨_,_,rfl,λ_=>rfl,Below.refl _ w⟩
 |some A=>
  go_enter Tryz.func89,Tryz.ntmps89
  go_wp2
  go_ret
  exact⟨_,_,rfl,λh=>(by cases h),(Below.refl _ w).alloc (ER _) _⟩
set_option maxRecDepth 100000 in
def Tryz.aiN(A:Option Addr)(c:Nat)(w:World)(d:A=none->c=0):
  Calls Tryz.prog 169 #[.slice A 0 c] w λe w'=>∃b c',e=.returned (.slice b 0 c')/\(b=none->c'=0)/\Below w.heap.size w w':=by
 have q:=λ(w:World) (a:Option Addr) (n c f c':Nat)=>Lib.run_eql_slice_nil (P:=Tryz.prog) w 28 _ a n c f c' Tryz.underlying28
 cases A with
 |none=>
  rw[d rfl]
  go_enter Tryz.func169,Tryz.ntmps169
  go_wp2
  go_ret
  exact⟨_,_,rfl,λ_=>rfl,Below.refl _ w⟩
 |some A=>
  go_enter Tryz.func169,Tryz.ntmps169
  go_wp2
  go_ret
  exact⟨_,_,rfl,λh=>(by cases h),(Below.refl _ w).alloc (ER _) _⟩
set_option maxRecDepth 100000 in
def Tryz.aiO(A:Option Addr)(c:Nat)(w:World)(d:A=none->c=0):
  Calls Tryz.prog 170 #[.slice A 0 c] w λe w'=>∃b c',e=.returned (.slice b 0 c')/\(b=none->c'=0)/\Below w.heap.size w w':=by
 have q:=λ(w:World) (a:Option Addr) (n c f c':Nat)=>Lib.run_eql_slice_nil (P:=Tryz.prog) w 95 _ a n c f c' Tryz.underlying95
 cases A with
 |none=>
  rw[d rfl]
  go_enter Tryz.func170,Tryz.ntmps170
  go_wp2
  go_ret
  exact⟨_,_,rfl,λ_=>rfl,Below.refl _ w⟩
 |some A=>
  go_enter Tryz.func170,Tryz.ntmps170
  go_wp2
  go_ret
  exact⟨_,_,rfl,λh=>(by cases h),(Below.refl _ w).alloc (ER _) _⟩
set_option maxRecDepth 100000 in
def Tryz.aiP(A:Option Addr)(c:Nat)(w:World)(d:A=none->c=0):
  Calls Tryz.prog 171 #[.slice A 0 c] w λe w'=>∃b c',e=.returned (.slice b 0 c')/\(b=none->c'=0)/\Below w.heap.size w w':=by
 have q:=λ(w:World) (a:Option Addr) (n c f c':Nat)=>Lib.run_eql_slice_nil (P:=Tryz.prog) w 40 _ a n c f c' Tryz.underlying40
 cases A with
 |none=>
  rw[d rfl]
  go_enter Tryz.func171,Tryz.ntmps171
  go_wp2
  go_ret
  exact⟨_,_,rfl,λ_=>rfl,Below.refl _ w⟩
 |some A=>
  go_enter Tryz.func171,Tryz.ntmps171
  go_wp2
  go_ret
  exact⟨_,_,rfl,λh=>(by cases h),(Below.refl _ w).alloc (ER _) _⟩
end Go.Proofs
namespace Go.Proofs
open Go.Shelf
def Tryz.uH:Go.Shelf.Ren:=⟨λ|169=>88|n=>n,λ|70=>163|9=>9|0=>0|72=>166|37=>164|127=>202|3=>3|5=>5|n=>n,λ|n=>n⟩
def Tryz.Gm:Go.Proofs.Lays.n169 Tryz.prog Tryz.uH:={
 mixed:=by kernel_rfl
 f169:=Tryz.func88.trans (congrArg some (by kernel_rfl))
 t0:=Tryz.underlying0
 a0:=Tryz.isAgg0
 z0:=Tryz.sizeOf0
 v0:=Tryz.zeroValue0
 t3:=Tryz.underlying3
 a3:=Tryz.isAgg3
 z3:=Tryz.sizeOf3
 v3:=Tryz.zeroValue3
 t9:=Tryz.underlying9
 a9:=Tryz.isAgg9
 z9:=Tryz.sizeOf9
 v9:=Tryz.zeroValue9
 t37:=Tryz.underlying164
 a37:=Tryz.isAgg164
 z37:=Tryz.sizeOf164
 v37:=Tryz.zeroValue164
 t70:=Tryz.underlying163
 a70:=Tryz.isAgg163
 z70:=Tryz.sizeOf163
 v70:=Tryz.zeroValue163
 t72:=Tryz.underlying166
 a72:=Tryz.isAgg166
 z72:=Tryz.sizeOf166
 v72:=Tryz.zeroValue166
 t127:=Tryz.underlying202
 a127:=Tryz.isAgg202
 z127:=Tryz.sizeOf202
 v127:=Tryz.zeroValue202}
def Tryz.lU:Builder.Extra Tryz.prog Tryz.uH:={
 sizeBuilder:=by kernel_rfl
 liesBuilder:=by kernel_rfl
 t5:=Tryz.underlying5
 a5:=Tryz.isAgg5
 z5:=Tryz.sizeOf5
 v5:=Tryz.zeroValue5
 infoByte:=by kernel_rfl
 cellsByte:=by kernel_rfl
 sizeByte:=by kernel_rfl
 neB5:=by decide}
def Tryz.Ba:Go.Shelf.Ren:=⟨λ|246=>201|283=>202|284=>203|285=>204|286=>205|129=>207|317=>206|318=>208|319=>209|320=>210|337=>211|338=>212|n=>n,λ|2=>2|3=>3|9=>9|4=>4|171=>297|0=>0|53=>293|37=>164|5=>5|173=>300|212=>303|51=>290|20=>20|213=>304|46=>284|232=>307|233=>308|n=>n,λ|17=>0|18=>1|19=>2|n=>n⟩
def Tryz.Jh:Go.Proofs.LaysM.n246 Tryz.prog Tryz.Ba:={
 mixed:=by kernel_rfl
 f129:=Tryz.func207.trans (congrArg some (by kernel_rfl))
 f246:=Tryz.func201.trans (congrArg some (by kernel_rfl))
 f283:=Tryz.func202.trans (congrArg some (by kernel_rfl))
 f284:=Tryz.func203.trans (congrArg some (by kernel_rfl))
 f285:=Tryz.func204.trans (congrArg some (by kernel_rfl))
 f286:=Tryz.func205.trans (congrArg some (by kernel_rfl))
 f317:=Tryz.func206.trans (congrArg some (by kernel_rfl))
 f318:=Tryz.func208.trans (congrArg some (by kernel_rfl))
 f319:=Tryz.func209.trans (congrArg some (by kernel_rfl))
 f320:=Tryz.func210.trans (congrArg some (by kernel_rfl))
 f337:=Tryz.func211.trans (congrArg some (by kernel_rfl))
 f338:=Tryz.func212.trans (congrArg some (by kernel_rfl))
 t0:=Tryz.underlying0
 a0:=Tryz.isAgg0
 z0:=Tryz.sizeOf0
 v0:=Tryz.zeroValue0
 t2:=Tryz.underlying2
 a2:=Tryz.isAgg2
 z2:=Tryz.sizeOf2
 v2:=Tryz.zeroValue2
 t3:=Tryz.underlying3
 a3:=Tryz.isAgg3
 z3:=Tryz.sizeOf3
 v3:=Tryz.zeroValue3
 t4:=Tryz.underlying4
 a4:=Tryz.isAgg4
 z4:=Tryz.sizeOf4
 v4:=Tryz.zeroValue4
 t5:=Tryz.underlying5
 a5:=Tryz.isAgg5
 z5:=Tryz.sizeOf5
 v5:=Tryz.zeroValue5
 t9:=Tryz.underlying9
 a9:=Tryz.isAgg9
 z9:=Tryz.sizeOf9
 v9:=Tryz.zeroValue9
 t20:=Tryz.underlying20
 a20:=Tryz.isAgg20
 z20:=Tryz.sizeOf20
 v20:=Tryz.zeroValue20
 t37:=Tryz.underlying164
 a37:=Tryz.isAgg164
 z37:=Tryz.sizeOf164
 v37:=Tryz.zeroValue164
 t46:=Tryz.underlying284
 a46:=Tryz.isAgg284
 z46:=Tryz.sizeOf284
 v46:=Tryz.zeroValue284
 t51:=Tryz.underlying290
 a51:=Tryz.isAgg290
 z51:=Tryz.sizeOf290
 v51:=Tryz.zeroValue290
 t53:=Tryz.underlying293
 a53:=Tryz.isAgg293
 z53:=Tryz.sizeOf293
 v53:=Tryz.zeroValue293
 t171:=Tryz.underlying297
 a171:=Tryz.isAgg297
 z171:=Tryz.sizeOf297
 v171:=Tryz.zeroValue297
 t173:=Tryz.underlying300
 a173:=Tryz.isAgg300
 z173:=Tryz.sizeOf300
 v173:=Tryz.zeroValue300
 t212:=Tryz.underlying303
 a212:=Tryz.isAgg303
 z212:=Tryz.sizeOf303
 v212:=Tryz.zeroValue303
 t213:=Tryz.underlying304
 a213:=Tryz.isAgg304
 z213:=Tryz.sizeOf304
 t232:=Tryz.underlying307
 a232:=Tryz.isAgg307
 z232:=Tryz.sizeOf307
 v232:=Tryz.zeroValue307
 t233:=Tryz.underlying308
 a233:=Tryz.isAgg308
 z233:=Tryz.sizeOf308
 v233:=Tryz.zeroValue308
 g17:=by kernel_rfl
 g18:=by kernel_rfl
 g19:=by kernel_rfl
 i0:=by kernel_rfl
 i2:=by kernel_rfl
 i3:=by kernel_rfl
 i4:=by kernel_rfl
 i5:=by kernel_rfl
 i9:=by kernel_rfl
 i20:=by kernel_rfl
 i37:=by kernel_rfl
 i46:=by kernel_rfl
 i51:=by kernel_rfl
 i53:=by kernel_rfl
 i171:=by kernel_rfl
 i173:=by kernel_rfl
 i212:=by kernel_rfl
 i232:=by kernel_rfl
 i233:=by kernel_rfl
 m17:=by kernel_rfl
 m18:=by kernel_rfl
 m19:=by kernel_rfl}
open Go.RowKit Go.Sort Go.Lib in
def Tryz.internal_strconv_FormatInt_10(n:Int)(h0: -9223372036854775808<=n)(c:n<=9223372036854775807)(w:World)(b:Lib.TabIs Tryz.prog w "internal/strconv.uint64pow10" .u64 Lib.pow10Tab):
  Calls Tryz.prog 201 #[.int .i64 n,.int .i64 10] w λe w'=>e=.returned (.string ⟨(Lib.itoa n).toArray⟩)/\∃k os,w'=grow (w.drewN k) os:=Any.internal_strconv_FormatInt_10 Tryz.Jh n h0 c w b
set_option maxHeartbeats 1000000 in
set_option maxRecDepth 100000 in
def Tryz.Lz(b:Nat)(w:World)(h0:w.cell? ⟨b,0,none⟩=some (.pointer (some ⟨b,0,none⟩))):
  Calls Tryz.prog 113 #[.pointer (some ⟨b,0,none⟩)] w λe w'=>e=.returned (.tuple #[])/\w'=w:=by
 obtain⟨j,c,_⟩:=PM.1 (show(Tryz.prog.info? 166).map (·.size)=some 2 by kernel_rfl)
 go_enter Tryz.func113,Tryz.ntmps113
 go_wp2
 rw[Lib.run_neq_ptr_same w _ Tryz.underlying163 c]
 go_wp2
 go_end0
 exact⟨rfl,rfl⟩
set_option maxHeartbeats 1000000 in
set_option maxRecDepth 100000 in
def Tryz.Ji(b:Nat)(w:World)(h0:w.cell? ⟨b,0,none⟩=some (.pointer none))(c:w.shape? b=some (166,2))(g:w.frozen? ⟨b,0,none⟩=false):
  Calls Tryz.prog 113 #[.pointer (some ⟨b,0,none⟩)] w λe w'=>e=.returned (.tuple #[])/\w'=w.setCell ⟨b,0,none⟩ (.pointer (some ⟨b,0,none⟩)):=by
 obtain⟨j,f,d⟩:=PM.1 (show(Tryz.prog.info? 166).map (·.size)=some 2 by kernel_rfl)
 go_enter Tryz.func113,Tryz.ntmps113
 go_wp2
 rw[Lib.run_to_unsafe w ⟨b,0,none⟩ Tryz.underlying163 Tryz.underlying234 f (by rw[d];decide) c (Nat.zero_lt_succ 1)];simp only[Result.andThen];rw[Oper.upon_value]
 go_wp2
 rw[run_callFunc_extern Tryz.func137 (by kernel_rfl) (by kernel_rfl) (by kernel_rfl) (e:=Extern.AbiNoEscape.same) (by kernel_rfl)];rw[Lib.run_noEscape];simp only[Result.andThen];rw[Oper.upon_value]
 go_wp2
 rw[Lib.run_from_unsafe w ⟨b,0,none⟩ Tryz.underlying234 Tryz.underlying163 f c (by kernel_rfl)];simp only[Result.andThen];rw[Oper.upon_value]
 go_wp2
 go_end0
 exact⟨rfl,rfl⟩
end Go.Proofs
namespace Go.Proofs.YtcfbbbjhnaienaaGreatDoor.K.Hm
open Go
def libs:jE:={bt:=166,It:=5,dw:=113,str:=88,fmt:=201,Iu:=[89,169,170,171]}
def Jj:ag5 Tryz.prog libs where
 c1:=⟨Tryz.f113,Tryz.func113,by kernel_rfl,by kernel_rfl⟩
 c2:=Tryz.Lz
 c3:=Tryz.Ji
 s1:=⟨Tryz.f88,Tryz.func88,by kernel_rfl,by kernel_rfl⟩
 s2:=Ly Tryz.Gm Tryz.lU
 s3:=Jg Tryz.Gm Tryz.lU
 f1:=⟨Tryz.f201,Tryz.func201,by kernel_rfl,by kernel_rfl⟩
 f2:=λn w h0 b ht=>Tryz.internal_strconv_FormatInt_10 n h0 b w ht
 n1:=λf h=>by
  have h:f=89∨f=169∨f=170∨f=171:=by simpa[libs,zi]using h
  rcases h with rfl|rfl|rfl|rfl
  .exact⟨⟨Tryz.f89,Tryz.func89,by kernel_rfl,by kernel_rfl⟩,Tryz.ajh⟩
  .exact⟨⟨Tryz.f169,Tryz.func169,by kernel_rfl,by kernel_rfl⟩,Tryz.aiN⟩
  .exact⟨⟨Tryz.f170,Tryz.func170,by kernel_rfl,by kernel_rfl⟩,Tryz.aiO⟩
  exact⟨⟨Tryz.f171,Tryz.func171,by kernel_rfl,by kernel_rfl⟩,Tryz.aiP⟩
end Go.Proofs.YtcfbbbjhnaienaaGreatDoor.K.Hm
