/- PactWitness returns true for every pact, strategy and side, part 1. -/
import Derived.Below
import Derived.RangeFuncLeaves
import Derived.OrdersIn
import Derived.Laws.Entries
import Derived.WalkKit
import Derived.Laws.BytesString
import Derived.Laws.Slices
import Derived.Laws.StructEq
import Derived.Laws.Cover3
import Derived.Laws.Pointers
import Derived.Deep.AppendSrc
import Derived.Deep.Upon
import Derived.Laws.MakeOwn
import Derived.Laws.IdiomStrings
set_option linter.all false
open List renaming length_nil->aC,length_cons->aB,mem_of_mem_drop->OK,extract_eq_take_drop->OZ,foldl_cons->nw,cons_append->bo,drop_eq_nil_of_le->O5,ext_getElem?->Pj,getElem?_take->Pv
open Nat renaming add_zero->iB,add_assoc->OL,pred_succ->Pf
open Option renaming getD_some->gB,map_some->me,isSome_none->IL,map_none->OX,bind_some->Ey
open Array renaming toList_inj->OM,toList_extract->OY,size_append->Pm
open Int renaming ofNat_eq_natCast->ns,negSucc_eq->ON,toNat_natCast->gD
namespace Go.Proofs
def aU:=@List.getElem?_eq_some_iff
def aX:=@List.getElem?_eq_getElem
def aL:=@Bool.and_eq_true
def cE:=@List.mem_of_getElem?
def aV:=@Nat.le_refl
def au:=@if_pos
def ar:=@if_neg
def cb:=@List.getElem_mem
def bn:=@Nat.zero_add
def KP:=@List.getD_eq_getElem?_getD
def bz:=@List.length_map
def dD:=@List.getElem?_append_left
def cr:=@List.mem_singleton
def bZ:=@List.length_append
def bk:=@List.mem_cons
def bQ:=@Option.some.injEq
def eW:=@List.take_succ_eq_append_getElem
def bY:=@decide_eq_true_eq
def cY:=@List.mem_cons_of_mem
def df:=@Bool.false_eq_true
def l5:=@List.mem_append
def cK:=@decide_eq_false
def fM:=@Array.getD_eq_getD_getElem?
def dr:=@List.mem_cons_self
def bX:=@List.map_cons
def eO:=@List.mem_iff_getElem
def dJ:=@Nat.lt_of_lt_of_le
def fW:=@Array.getElem?_eq_getElem
def dq:=@decide_eq_true
def fD:=@List.take_of_length_le
def cU:=@List.mem_map
def ja:=@List.eq_nil_of_length_eq_zero
def bU:=@beq_iff_eq
def bD:=@if_false
def iZ:=@List.getElem?_append_right
def gK:=@List.getElem?_set_self
def bp:=@if_true
def fX:=@List.mem_range
def fV:=@List.getElem?_map
def ec:=@Nat.lt_irrefl
def fG:=@List.all_eq_true
def eU:=@List.map_append
def gl:=@List.getElem?_set
def ch:=@congrArg
def oS:=@Array.getElem?_setIfInBounds_ne
def jm:=@List.getElem?_set_ne
def ag1:=@List.mem_of_mem_take
def ji:=@Nat.mul_le_mul_right
def lR:=@Option.map_eq_some_iff
def wy:=@Array.getElem?_setIfInBounds_self_of_lt
def eV:=@decide_true
def fu:=@Nat.le_trans
def uv:=@List.drop_eq_getElem_cons
def ag3:=@Option.bind_eq_some_iff
def mA:=@Array.getElem?_toList
def gj:=@Prod.mk.injEq
def kX:=@List.getElem?_drop
def fN:=@Nat.zero_le
def n5:=@Nat.eq_of_beq_eq_true
def jk:=@List.length_set
def sv:=@List.eq_nil_or_concat
def rL:=@Array.getElem?_eq_some_iff
def cZ:=@eq_true
def ph:=@List.mem_append_left
def qz:=@List.getElem?_eq_none
def mU:=@List.flatMap_cons
def od:=@List.length_take
def rN:=@List.getElem?_take_of_lt
def j7:=@Bool.true_and
def iR:=@Nat.succ_mul
def Al:=@List.take_append_of_le_length
def sf:=@List.length_eq_zero_iff
def jl:=@Nat.mul_one
def mP:=@List.take_length
def lr:=@Option.some.inj
def Ep:=@List.take_append_drop
def oQ:=@List.getElem_of_mem
def jL:=@Bool.and_true
def yk:=@List.mem_or_eq_of_mem_set
def mE:=@List.nodup_cons
def jF:=@Nat.lt_or_ge
def uG:=@List.mem_iff_getElem?
def n6:=@List.cons.injEq
def yJ:=@List.getElem?_replicate
def qF:=@List.mem_flatMap
def mB:=@Bool.not_true
def A3:=@Classical.byContradiction
def Ap:=@List.mem_of_find?_eq_some
def kY:=@decide_false
def n9:=@Bool.or_eq_true
def qE:=@List.append_nil
def qD:=@List.ext_getElem
def Aw:=@List.eq_of_mem_replicate
def uL:=@List.flatMap_append
def pf:=@Bool.not_eq_true'
def zV:=@decide_eq_false_iff_not
def qy:=@Bool.eq_iff_iff
def tk:=@List.mem_filter
def lO:=@List.map_nil
def mR:=@List.map_set
def Dz:=@List.getElem?_eq_none_iff
def rD:=@of_decide_eq_true
def zJ:=@Nat.ble_eq_true_of_le
def zL:=@UInt8.lt_iff_toNat_lt
def ta:=@Array.getElem?_modify
def tW:=@List.concat_eq_append
def yy:=@List.getElem_append_left
def qO:=@Nat.eq_or_lt_of_le
def rr:=@List.prefix_refl
def pR:=@List.countP_cons
def kZ:=@Nat.sub_self
def EE:=@List.drop_of_length_le
def rh:=@List.any_eq_false
def ym:=@List.length_pos_iff
def A0:=@List.mem_append_right
def BM:=@List.dropLast_sublist
def yD:=@List.set_getElem_self
def yd:=@Bool.or_eq_false_iff
def wo:=@Nat.lt_trichotomy
def tB:=@List.nodup_append
def ahf:=@List.any_eq_true
def Ew:=@Array.getElem?_append_left
def yI:=@List.prefix_append
def BU:=@List.length_replicate
def FO:=@List.getElem_append_right
def yl:=@List.range_succ
def pn:=@Nat.le_of_eq
def B5:=@List.length_range
def BR:=@List.getElem_map
def Tm:=@List.Nodup.length_le_of_subset
def oR:=@Nat.add_mul
def qJ:=@Nat.beq_refl
def AV:=@Array.ext_getElem?
def sY:=@List.getElem?_ofFn
def re:=@Nat.le_of_lt
def B4:=@List.getElem_range
def Ee:=@Nat.le_of_ble_eq_true
def yt:=@List.append_assoc
def JM:=@List.getElem?_append
def FD:=@Bool.false_and
def yz:=@Bool.and_false
def ua:=@Bool.not_false
def Ej:=@List.length_drop
def wB:=@List.map_map
def BX:=@Bool.not_eq_true
def Fv:=@List.map_congr_left
def FJ:=@List.map_eq_nil_iff
def wq:=@Bool.false_or
def ahV:=@Option.isSome_iff_exists
def jY:=@Ne.symm
def yn:=@Bool.decide_and
def BQ:=@List.find?_eq_none
def wM:=@Nat.add_comm
def BF:=@Bool.and_assoc
def FT:=@Nat.mul_le_mul
def J3:=@List.dropLast_eq_take
def Ka:=@List.length_filter_le
def El:=@beq_self_eq_true
def Em:=@Nat.mod_eq_of_lt
def Jb:=@List.drop_length
def R9:=@List.mem_eraseIdx_iff_getElem?
def RQ:=@List.drop_append_of_le_length
def J1:=@List.dropLast_concat
def Ki:=@List.idxOf_eq_length
def Ez:=@Nat.min_eq_left
def EA:=@Nat.min_le_left
def Fu:=@List.findIdx_eq
def tS:=@Int.natCast_inj
def SF:=@List.countP_eq_length_filter
def SU:=@List.dropLast_concat_getLast
def ID:=@Array.getElem?_push
def Jd:=@List.mem_map_of_mem
def JQ:=@Int.toNat_of_nonneg
def J9:=@Nat.add_le_add_left
def Kp:=@List.getElem_set_ne
def B2:=@List.set_set
def SJ:=@List.idxOf_lt_length_of_mem
def IG:=@List.map_inj_right
def Sa:=@List.length_eraseIdx_of_lt
def Si:=@List.tail_append_of_ne_nil
def ah1:=@List.filter_append
def Pb:=@Array.mapM_eq_mapM_toList
def PL:=@List.getElem?_zip_eq_some
def Su:=@List.getLast?_eq_getElem?
def I0:=@List.size_toArray
def JO:=@List.all_eq_false
def Eo:=@List.map_take
def J8:=@List.not_mem_nil
def sW:=@Array.ext'
def wv:=@bne_iff_ne
def Et:=@Nat.mul_comm
def FE:=@Bool.or_comm
def IH:=@UInt8.toNat_inj
def JP:=@List.sum_append
def KL:=@List.find?_some
def IU:=@List.drop_drop
def Ku:=@List.take_succ
def Kx:=@Bool.decide_or
def ahv:=@Prod.ext
abbrev ep:=List (List Nat)
abbrev az:=List Nat
abbrev bb:=List Int
abbrev bL:=Option Nat
abbrev cf:=List Bool
abbrev aG:=Nat->Prop
end Go.Proofs
set_option maxRecDepth 10000
noncomputable section
namespace Go.Proofs.YtcfbbbjhnaienaaGreatDoor.K.Hm
open Go
inductive Ky where
 |e
 |z (k:Ky)
 |o (k:Ky)
 deriving Inhabited,DecidableEq
abbrev bM:=Ky->Prop
abbrev cg:=List Ky
abbrev aW:=Ky->bL
def Ky.succ(k:Ky):Ky:=Ky.rec (motive:=λ_=>Ky) (.z .e) (λk _=>.o k) (λ_ ih=>.z ih) k
def Ky.beq(a:Ky):Ky->Bool:=Ky.rec (motive:=λ_=>Ky->Bool)
 (λb=>Ky.rec (motive:=λ_=>Bool) true (λ_ _=>false) (λ_ _=>false) b)
 (λ_ ih b=>Ky.rec (motive:=λ_=>Bool) false (λk _=>ih k) (λ_ _=>false) b)
 (λ_ ih b=>Ky.rec (motive:=λ_=>Bool) false (λ_ _=>false) (λk _=>ih k) b) a
inductive Tr(α:Type) where
 |lf
 |nd (v:Option α) (l r:Tr α)
 deriving Inhabited
section Oz
variable{α:Type}
def aj(t:Tr α):Ky->Option α:=
 Tr.rec (motive:=λ_=>Ky->Option α) (λ_=>none) (λv _ _ b gr k=>Ky.rec (motive:=λ_=>Option α) v (λk' _=>b k') (λk' _=>gr k') k) t
def tv(t:Tr α):Option α:=Tr.rec (motive:=λ_=>Option α) none (λv _ _ _ _=>v) t
def tl(t:Tr α):Tr α:=Tr.rec (motive:=λ_=>Tr α) .lf (λ_ l _ _ _=>l) t
def tr(t:Tr α):Tr α:=Tr.rec (motive:=λ_=>Tr α) .lf (λ_ _ r _ _=>r) t
def av(x:Option α)(k:Ky):Tr α->Tr α:=
 Ky.rec (motive:=λ_=>Tr α->Tr α) (λt=>.nd x (tl t) (tr t)) (λ_ ih t=>.nd (tv t) (ih (tl t)) (tr t)) (λ_ ih t=>.nd (tv t) (tl t) (ih (tr t))) k
def fI(t:Tr α):Nat->Option α:=
 Tr.rec (motive:=λ_=>Nat->Option α) (λ_=>none)
  (λv _ _ b gr k=>Bool.rec (motive:=λ_=>Option α) (Bool.rec (motive:=λ_=>Option α) (gr (Nat.div (Nat.pred k) 2)) (b (Nat.div k 2)) (Nat.beq (Nat.mod k 2) 1)) v (Nat.beq k 0)) t
def nh(x:Option α)(n:Nat):Nat->Tr α:=Nat.rec (motive:=λ_=>Nat->Tr α) (λ_=>.lf)
 (λ_ ih k=>Bool.rec (motive:=λ_=>Tr α) (Bool.rec (motive:=λ_=>Tr α) (.nd none .lf (ih (Nat.div (Nat.pred k) 2))) (.nd none (ih (Nat.div k 2)) .lf) (Nat.beq (Nat.mod k 2) 1)) (.nd x .lf .lf) (Nat.beq k 0)) n
def jn(x:Option α)(t:Tr α):Nat->Tr α:=
 Tr.rec (motive:=λ_=>Nat->Tr α) (λk=>nh x (Nat.succ k) k)
  (λv l r sl b k=>Bool.rec (motive:=λ_=>Tr α) (Bool.rec (motive:=λ_=>Tr α) (.nd v l (b (Nat.div (Nat.pred k) 2))) (.nd v (sl (Nat.div k 2)) r) (Nat.beq (Nat.mod k 2) 1)) (.nd x l r) (Nat.beq k 0)) t
end Oz
inductive HV where
 |int (k:IntKind) (n:Int)
 |bool (b:Bool)
 |str (s:az)
 |ah|dE|gY|fS|fU|undef
 |ptr (o:Ky) (k:Nat)
 |sl (o:Ky) (bj len sz:Nat)
 |mp (o:Ky)
 |fn (f:Nat) (OA aat:List HV)
 |iK (l:Ky)
 |agg (l:List HV)
 |cO (l:List HV)
 |psl (ak:List (List HV))
 |aw (cells:List HV)
 deriving Inhabited
abbrev de:=List (Ky×List HV)
abbrev bS:=Option HV
abbrev ai:=List HV
abbrev aP:=List ai
inductive X where
 |t (n:Nat)
 |k (v:HV)
 deriving Inhabited
inductive Pc where
 |z (l:ai)
 |x (o:X) (n:Nat)
 deriving Inhabited
structure Kd where
 ag:Bool
 ks:az
 deriving Inhabited
inductive lL where
 |mv (x:X)
 |pick (c a b:X)
 |alloc (z:ai)
 |alb (t:Nat) (z:ai)
 |box (x:X)
 |fbx (x:X)
 |build (ps:List Pc)
 |bsl (sz:Nat) (xs:List X)
 |fbl (sz:Nat) (xs:List X)
 |ld (x:X) (n:bL)
 |st (n:Nat) (a x:X)
 |fa (x:X) (bj:Nat)
 |ia (x i:X) (sz:Nat)
 |idx (x i:X)
 |len (k:Nat) (x:X)
 |bin (bl:Bool) (op:BinOp) (x y:X)
 |un (op:UnOp) (x:X)
 |mkf (g:Nat) (OA aat:List X)
 |ext (x:X) (i:Nat)
 |cnv (k:IntKind) (x:X)
 |nck (x:X)
 |mm (agE:Bool) (x y:X)
 |app (sz bI:Nat) (tg:bL) (x ys:X)
 |mks (sz bI:Nat) (z:ai) (l c:X)
 |mkm
 |lkp (K:Kd) (m k:X) (z:HV) (ok:Bool)
 |mup (K:Kd) (m k v:X)
 |eqs (K:Kd) (neg:Bool) (x y:X)
 |niq (k:Nat) (neg:Bool) (x:X)
 |slc (x:X) (lo hi mx:Option X) (sz:Nat)
 |sls (x:X) (lo hi:Option X)
 |call (f:Nat) (xs:List X)
 |dyn (x:X) (xs:List X)
 |cis (x:X)
 |men (K:Kd) (m k:X) (z:HV)
 |mes (m st v:X)
 |aps (bI:Nat) (tg:bL) (x y:X)
 |cpy (sz:Nat) (x y:X)
 |cap (x:X)
 |bad
 deriving Inhabited
structure aR where
 d:bL
 op:lL
 g:Option (Nat×Bool)
 deriving Inhabited
inductive DK where
 |r
 |l (lo hi:Nat)
 |a
 |e
 deriving Inhabited
structure dY where
 i:Nat
 o:aR
 k:DK
 deriving Inhabited
inductive HC where
 |skip|ret
 |exit (i:Nat)
 |seq (a b:HC)
 |cond (x:X) (a b:HC)
 |block (i:Nat) (c:HC)
 |loop (c:HC)
 |rg (outs:az) (mq:List aR)
 |Li (outs:az) (main:List dY) (cy:List aR)
 |rf (x:X) (ps:az) (gV body:HC)
 |K8 (ts:az)
 |OB (t bj n:Nat)
 |gh (keep:az)
 deriving Inhabited
inductive Rs where
 |tmp (n:Nat)
 |cell (n:Nat) (sz:bL)
 deriving Inhabited
structure HF where
 nt:Nat
 np:Nat
 keep:az
 rs:List Rs
 c:HC
 pu:Bool:=false
 deriving Inhabited
inductive En where
 |nil
 |cons (n:Nat) (v:HV) (r:En)
 deriving Inhabited
inductive Ob where
 |cells (t:Tr HV) (lo hi:Nat) (g:Ky)
 |mp (es:List (HV×HV))
 |loop (st:Nat) (wc:Option HC) (tm:En) (ps:az) (gV body:HC)
 deriving Inhabited
structure HS where
 h:Tr Ob
 nx:Ky
 gr:Tr cg
 ty:Tr (Nat×Nat)
def look(e:En)(k:Nat):bS:=
 En.rec (motive:=λ_=>bS) none (λn v _ ih=>Bool.rec (motive:=λ_=>bS) ih (some v) (Nat.beq n k)) e
def En.oE(e:En)(k:Nat)(x:HV):En:=
 En.rec (motive:=λ_=>En) (.cons k x .nil) (λn v r ih=>Bool.rec (motive:=λ_=>En) (.cons n v ih) (.cons n x r) (Nat.beq n k)) e
def bw(x:X)(e:En):bS:=X.rec (motive:=λ_=>bS) (λn=>look e n) (λv=>some v) x
def ob{α β:Type}(f:α->Option β)(o:Option α):Option β:=Option.rec (motive:=λ_=>Option β) none f o
def gx(l:List X)(e:En):Option ai:=
 List.rec (motive:=λ_=>Option ai) (some []) (λx _ ih=>Option.rec (motive:=λ_=>Option ai) none (λv=>Option.rec (motive:=λ_=>Option ai) none (λl=>some (v::l)) ih) (bw x e)) l
def dh(l:ai):Nat->Tr HV->Tr HV:=
 List.rec (motive:=λ_=>Nat->Tr HV->Tr HV) (λ_ t=>t) (λv _ ih k t=>ih (Nat.succ k) (jn (some v) t k)) l
def mr(t:Tr HV)(n:Nat):Nat->Option ai:=
 Nat.rec (motive:=λ_=>Nat->Option ai) (λ_=>some [])
  (λ_ ih k=>Option.rec (motive:=λ_=>Option ai) none (λv=>Option.rec (motive:=λ_=>Option ai) none (λl=>some (v::l)) (ih (Nat.succ k))) (fI t k)) n
def aM{α:Type}(l:List α):Nat:=List.rec (motive:=λ_=>Nat) 0 (λ_ _ n=>Nat.succ n) l
inductive cX where
 |v (x:HV) (s:HS)
 |call (f:Nat) (args:ai)
 |round (l:Ky) (args:ai)
 |bad
def rv(s:HS)(o:bS):cX:=Option.rec (motive:=λ_=>cX) .bad (λv=>.v v s) o
def HS.new(s:HS)(l:ai)(K:Ky->HV):cX:=
 .v (K s.nx) {h:=av (some (.cells (dh l 0 .lf) 0 (aM l) s.nx)) s.nx s.h,nx:=s.nx.succ,gr:=av (some [s.nx]) s.nx s.gr,ty:=s.ty}
section elim
variable{β:Type}
def HV.kS(v:HV)(f:Ky->Nat->β)(d:β):β:=HV.casesOn (motive_1:=λ_=>β) v (λ_ _=>d) (λ_=>d) (λ_=>d) d d d d d d (λo k=>f o k) (λ_ _ _ _=>d) (λ_=>d) (λ_ _ _=>d) (λ_=>d) (λ_=>d) (λ_=>d) (λ_=>d) (λ_=>d)
def HV.asInt(v:HV)(f:IntKind->Int->β)(d:β):β:=HV.casesOn (motive_1:=λ_=>β) v (λk n=>f k n) (λ_=>d) (λ_=>d) d d d d d d (λ_ _=>d) (λ_ _ _ _=>d) (λ_=>d) (λ_ _ _=>d) (λ_=>d) (λ_=>d) (λ_=>d) (λ_=>d) (λ_=>d)
def HV.asBool(v:HV)(t f d:β):β:=HV.casesOn (motive_1:=λ_=>β) v (λ_ _=>d) (λb=>Bool.rec (motive:=λ_=>β) f t b) (λ_=>d) d d d d d d (λ_ _=>d) (λ_ _ _ _=>d) (λ_=>d) (λ_ _ _=>d) (λ_=>d) (λ_=>d) (λ_=>d) (λ_=>d) (λ_=>d)
def HV.OC(v:HV)(f:Ky->Nat->Nat->Nat->β)(d:β):β:=HV.casesOn (motive_1:=λ_=>β) v (λ_ _=>d) (λ_=>d) (λ_=>d) d d d d d d (λ_ _=>d) (λo a b c=>f o a b c) (λ_=>d) (λ_ _ _=>d) (λ_=>d) (λ_=>d) (λ_=>d) (λ_=>d) (λ_=>d)
def HV.NP(v:HV)(f:ai->β)(d:β):β:=HV.casesOn (motive_1:=λ_=>β) v (λ_ _=>d) (λ_=>d) (λ_=>d) d d d d d d (λ_ _=>d) (λ_ _ _ _=>d) (λ_=>d) (λ_ _ _=>d) (λ_=>d) (λ_=>d) (λl=>f l) (λ_=>d) (λ_=>d)
def HV.UY(v:HV)(f:az->β)(d:β):β:=HV.casesOn (motive_1:=λ_=>β) v (λ_ _=>d) (λ_=>d) (λl=>f l) d d d d d d (λ_ _=>d) (λ_ _ _ _=>d) (λ_=>d) (λ_ _ _=>d) (λ_=>d) (λ_=>d) (λ_=>d) (λ_=>d) (λ_=>d)
end elim
def cellsOf(v:HV):Option ai:=HV.casesOn (motive_1:=λ_=>Option ai) v (λ_ _=>some [v]) (λ_=>some [v]) (λ_=>some [v]) (some [v]) (some [v]) (some [v]) (some [v]) (some [v]) none (λ_ _=>some [v]) (λ_ _ _ _=>some [v]) (λ_=>some [v]) (λ_ _ _=>some [v]) (λ_=>some [v]) (λl=>some l) (λ_=>none) (λ_=>some [v]) (λ_=>some [v])
def Ob.vt{β:Type}(b:Ob)(f:Tr HV->Nat->Nat->Ky->β)(d:β):β:=Ob.rec (motive:=λ_=>β) (λt lo hi g=>f t lo hi g) (λ_=>d) (λ_ _ _ _ _ _=>d) b
def gW{β:Type}(b:Bool)(x y:β):β:=Bool.rec (motive:=λ_=>β) y x b
def bR{α β:Type}(o:Option α)(f:α->β)(d:β):β:=Option.rec (motive:=λ_=>β) d f o
def HS.cell(s:HS)(o:Ky)(k:Nat):bS:=
 bR (aj s.h o) (λb=>b.vt (λt c d _=>gW (Nat.ble c k) (gW (Nat.blt k d) (fI t k) none) none) none) none
def HS.bF(s:HS)(o:Ky)(k n:Nat):Option ai:=
 bR (aj s.h o) (λb=>b.vt (λt c d _=>gW (Nat.ble c k) (gW (Nat.ble (Nat.add k n) d) (mr t n k) none) none) none) none
def HS.load(s:HS)(o:Ky)(k:Nat)(n:bL):bS:=
 bR n (λm=>bR (s.bF o k m) (λl=>some (.agg l)) none) (s.cell o k)
def bN(h:Tr Ob)(o:Ky)(a b:Nat):cg->(Tr Ob×List Ky)
 |[]=>(h,[])
 |m::r=>match bN h o a b r with
  |(c,l)=>bif m.beq o then(c,m::l)else match aj c m with|some (.cells _ d f _)=>bif Nat.blt d b&&Nat.blt a f then(av none m c,l)else(c,m::l)|_=>(c,l)
def HS.kT(s:HS)(o:Ky)(k:Nat)(l:ai)(t:Tr HV)(c d:Nat)(g:Ky):cg->Option HS:=λms=>
 match ms with
 |[_]=>some {h:=av (some (.cells (dh l k t) c d g)) o s.h,nx:=s.nx,gr:=s.gr,ty:=s.ty}
 |ms=>match bN s.h o k (Nat.add k (aM l)) ms with|(f,b)=>some {h:=av (some (.cells (dh l k t) c d g)) o f,nx:=s.nx,gr:=av (some b) g s.gr,ty:=s.ty}
def HS.store(s:HS)(o:Ky)(k:Nat)(l:ai):Option HS:=
 bR (aj s.h o) (λb=>b.vt (λt c d g=>gW (Nat.ble c k) (gW (Nat.ble (Nat.add k (aM l)) d) (bR (aj s.gr g) (s.kT o k l t c d g) none) none) none) none) none
def gX{α}:Nat->List α->List α
 |0,_=>[]
 |_+1,[]=>[]
 |n+1,x::r=>x::gX n r
def iL{α}:Nat->List α->List α
 |0,l=>l
 |_+1,[]=>[]
 |n+1,_::r=>iL n r
def jg(o:Ky):cg->Bool
 |[]=>false
 |m::r=>bif m.beq o then true else jg o r
def eS(h:Tr Ob):Nat->cg->(Tr Ob×List Ky)
 |0,[]=>(h,[])
 |0,m::r=>eS (av none m h) 0 r
 |_+1,[]=>(h,[])
 |n+1,m::r=>match eS h n r with|(b,l)=>(b,m::l)
def Ea(b:bL)(s:HS):Tr (Nat×Nat):=match b with|none=>s.ty|some E=>av (some (E,0)) s.nx s.ty
def l7(b:bL)(o:Ky)(s:HS):Tr (Nat×Nat):=match b with
 |none=>s.ty
 |some E=>match aj s.ty o with|some (c,_)=>bif Nat.beq c E then av (some (E,0)) s.nx s.ty else s.ty|none=>s.ty
def HS.Cq(s:HS)(ty:Tr (Nat×Nat))(l:ai)(K:Ky->HV):cX:=
 .v (K s.nx) {h:=av (some (.cells (dh l 0 .lf) 0 (aM l) s.nx)) s.nx s.h,nx:=s.nx.succ,gr:=av (some [s.nx]) s.nx s.gr,ty:=ty}
def HS.append(s:HS)(sz bI:Nat)(i:bL)(x:HV)(new:ai)(ea:Nat):cX:=
 match x with
 |.ah=>bif Nat.beq ea 0 then .v .ah s else bif Nat.ble ea bI then s.Cq (Ea i s) new (λo=>.sl o 0 ea sz)else .bad
 |.sl o b len d=>bif Nat.beq ea 0 then .v x s else bif !(Nat.beq sz d)then .bad else(
  match aj s.h o with
  |some (.cells _ _ _ g)=>
   match aj s.gr g with
   |some l=>
    match eS s.h 12 l with
    |(h0,f)=>match bN h0 o (b+len*sz) (b+len*sz+aM new) f with
     |(j,c)=>match aj j o with
      |some (.cells t k m _)=>
       bif jg o c&&Nat.ble k b&&Nat.ble (b+len*sz) m&&Nat.ble (len+ea) bI then
        .v (.sl s.nx b (len+ea) sz) {h:=av (some (.cells (dh new (b+len*sz) t) b (b+len*sz+aM new) g)) s.nx (av (some (.cells t k (b+len*sz) g)) o j),nx:=s.nx.succ,gr:=av (some (s.nx::c)) g s.gr,ty:=l7 i o s}
       else .bad
      |_=>.bad
   |none=>.bad
  |_=>.bad)
 |_=>.bad
def ni(a b:Int):Bool:=Int.rec (motive:=λ_=>Bool) (λx=>Int.rec (motive:=λ_=>Bool) (λy=>Nat.beq x y) (λ_=>false) b) (λx=>Int.rec (motive:=λ_=>Bool) (λ_=>false) (λy=>Nat.beq x y) b) a
def j9(a b:Int):Bool:=Int.rec (motive:=λ_=>Bool) (λx=>Int.rec (motive:=λ_=>Bool) (λy=>Nat.ble x y) (λ_=>false) b) (λx=>Int.rec (motive:=λ_=>Bool) (λ_=>true) (λy=>Nat.ble y x) b) a
def qo:az->az->Bool
 |[],[]=>true
 |x::r,y::s=>Nat.beq x y&&qo r s
 |_,_=>false
def uo:az->az->Bool
 |[],[]=>false
 |[],_=>true
 |_,[]=>false
 |x::r,y::s=>bif Nat.blt x y then true else bif Nat.beq x y then uo r s else false
def ag2:Nat->HV->Bool
 |0,.int _ _=>true
 |1,.bool _=>true
 |2,.str _=>true
 |_,_=>false
def dt:az->ai->Bool
 |[],[]=>true
 |k::r,v::l=>ag2 k v&&dt r l
 |_,_=>false
def HV.zf:HV->HV->Option Bool
 |.int k a,.int j b=>bif decide (k=j)then some (ni a b)else none
 |.bool a,.bool b=>some (a==b)
 |.str a,.str b=>some (qo a b)
 |_,_=>none
def sQ:ai->ai->Option Bool
 |[],[]=>some true
 |x::r,y::s=>match x.zf y with|some true=>sQ r s|some false=>some false|none=>none
 |_,_=>none
def pW(K:Kd)(x y:HV):Option Bool:=bif K.ag
 then(match x,y with|.agg l,.agg m=>bif dt K.ks l&&dt K.ks m then sQ l m else none|_,_=>none)
 else bif dt K.ks [x]&&dt K.ks [y]then x.zf y else none
def bT(k:IntKind)(n:Int):Int:=match k,n with|.i64,.ofNat m=>bif Nat.blt m 9223372036854775808 then .ofNat m else k.wrap n|.i64,.negSucc m=>bif Nat.blt m 9223372036854775808 then .negSucc m else k.wrap n|k,n=>k.wrap n
def wg(a b:Int):Int:=match a,b with|.ofNat x,.ofNat y=>.ofNat (Nat.add x y)|a,b=>Int.add a b
def Iz(a b:Int):Int:=match a,b with|.ofNat x,.ofNat y=>bif Nat.ble y x then .ofNat (Nat.sub x y)else .negSucc (Nat.sub y (Nat.succ x))|a,b=>Int.sub a b
def jo:IntKind->Bool
 |.i64=>true
 |.u64=>true
 |_=>false
def OD(op:BinOp)(k:IntKind)(a b:Int):bS:=match op with
  |.add=>some (.int k (bT k (wg a b)))
  |.sub=>some (.int k (bT k (Iz a b)))
  |.mul=>some (.int k (bT k (a*b)))
  |.eql=>some (.bool (ni a b))
  |.neq=>some (.bool (!ni a b))
  |.lss=>some (.bool (!j9 b a))
  |.leq=>some (.bool (j9 a b))
  |.gtr=>some (.bool (!j9 a b))
  |.geq=>some (.bool (j9 b a))
  |.rem=>bif ni b 0 then none else some (.int k (a.tmod b))
  |.and=>(match a,b with|.ofNat x,.ofNat y=>bif Nat.blt x 9223372036854775808&&Nat.blt y 9223372036854775808&&jo k then some (.int k (.ofNat (Nat.land x y)))else none|_,_=>none)
  |.quo=>bif ni b 0 then none else some (.int k (bT k (a.tdiv b)))
  |_=>none
def OE(op:BinOp)(a b:Bool):bS:=match op with|.eql=>some (.bool (a==b))|.neq=>some (.bool (a != b))|_=>none
def OF(op:BinOp)(a b:az):bS:=match op with|.eql=>some (.bool (qo a b))|.neq=>some (.bool (!qo a b))|.add=>gW (Nat.ble (Nat.add (aM a) (aM b)) 9223372036854775807) (some (.str (a++b))) none|.lss=>some (.bool (uo a b))|.gtr=>some (.bool (uo b a))|.leq=>some (.bool (!uo b a))|.geq=>some (.bool (!uo a b))|_=>none
def Ha(c:Bool)(op:BinOp)(x y:HV):bS:=
  x.asInt (λk a=>y.asInt (λj b=>match op with
      |.shr=>(match a,b with|.ofNat x,.ofNat y=>bif Nat.blt y 64&&jo k then some (.int k (.ofNat (Nat.shiftRight x y)))else none|_,_=>none)
      |.shl=>(match a,b with|.ofNat x,.ofNat y=>bif Nat.blt y 64&&jo k then some (.int k (bT k (.ofNat (Nat.shiftLeft x y))))else none|_,_=>none)
      |op=>bif decide (k=j)then OD op k a b else none) none)
    (match x,y with
     |.bool a,.bool b=>bif c then OE op a b else none
     |.str a,.str b=>OF op a b
     |_,_=>none)
def zE{α:Type}(l:List α):Nat->Option α:=List.rec (motive:=λ_=>Nat->Option α) (λ_=>none) (λx _ ih k=>Nat.rec (motive:=λ_=>Option α) (some x) (λp _=>ih p) k) l
def pX(K:Kd)(k:HV):Bool:=bif K.ag then(match k with|.agg l=>dt K.ks l|_=>false)else dt K.ks [k]
def dZ(K:Kd)(m:List (HV×HV))(k:HV)(i:Nat):Option (Nat×Option HV):=match m with
 |[]=>some (i,none)
 |(a,v)::r=>match pW K k a with|some true=>some (i,some v)|some false=>dZ K r k (Nat.succ i)|none=>none
def l9:List (HV×HV)->Nat->HV->List (HV×HV)
 |[],_,_=>[]
 |(a,x)::r,i,v=>bif Nat.beq i 0 then(a,v)::r else(a,x)::l9 r (Nat.pred i) v
def eJ(e:En):List Pc->Option ai
 |[]=>some []
 |.z l::r=>match eJ e r with|some m=>some (l++m)|none=>none
 |.x o n::r=>match bw o e with|some v=>(match cellsOf v,eJ e r with|some l,some m=>bif Nat.beq (aM l) n then some (l++m)else none|_,_=>none)|none=>none
def flat(sz:Nat):ai->Option ai
 |[]=>some []
 |v::r=>match cellsOf v,flat sz r with|some l,some m=>bif Nat.beq (aM l) sz then some (l++m)else none|_,_=>none
def mu(z:ai):Nat->ai
 |0=>[]
 |n+1=>z++mu z n
def NQ:HV->bL
 |.int _ (.ofNat n)=>some n
 |_=>none
def fw(e:En)(d:Nat):Option X->bL
 |none=>some d
 |some x=>match bw x e with|some v=>NQ v|none=>none
def mw(l:az)(b c:Nat):az:=gX (c-b) (l.drop b)
def bytesOf:ai->Option az
 |[]=>some []
 |.int .u8 (.ofNat n)::r=>bif Nat.blt n 256 then(match bytesOf r with|some l=>some (n::l)|none=>none)else none
 |_=>none
def fO:az->ai
 |[]=>[]
 |n::r=>.int .u8 (.ofNat n)::fO r
def dT:Nat->Nat->az
 |0,_=>[]
 |f+1,n=>bif Nat.blt n 10 then [48+n]else dT f (n/10)++[48+n%10]
def itoa:Int->az
 |.ofNat n=>dT 25 n
 |.negSucc n=>45::dT 25 (n+1)
def TZ(x:X)(e:En)(s:HS):cX:=rv s (bw x e)
def lM(c a b:X)(e:En)(s:HS):cX:=bR (bw c e) (λv=>v.asBool (rv s (bw a e)) (rv s (bw b e)) .bad) .bad
def Eb(z:ai)(_:En)(s:HS):cX:=s.new z (λo=>.ptr o 0)
def OG(t:Nat)(z:ai)(_:En)(s:HS):cX:=s.Cq (av (some (t,aM z)) s.nx s.ty) z (λo=>.ptr o 0)
def Hb(x:X)(e:En)(s:HS):cX:=bR (bw x e) (λv=>bR (cellsOf v) (λl=>s.new l (λo=>.ptr o 0)) .bad) .bad
def uT(x:X)(e:En)(s:HS):cX:=bR (bw x e) (λv=>bR (cellsOf v) (λl=>.v (.aw l) s) .bad) .bad
def mb(ps:List Pc)(e:En)(s:HS):cX:=bR (eJ e ps) (λl=>.v (.agg l) s) .bad
def Hc(sz:Nat)(xs:List X)(e:En)(s:HS):cX:=bR (gx xs e) (λl=>bR (flat sz l) (λm=>s.new m (λo=>.sl o 0 (aM xs) sz)) .bad) .bad
def jC(sz:Nat):ai->Option aP
 |[]=>some []
 |v::r=>match cellsOf v,jC sz r with|some l,some m=>bif Nat.beq (aM l) sz then some (l::m)else none|_,_=>none
def uU(sz:Nat)(xs:List X)(e:En)(s:HS):cX:=bR (gx xs e) (λl=>bR (jC sz l) (λm=>.v (.psl m) s) .bad) .bad
def my(v:HV)(n:bL):bS:=match v with|.aw c=>bR n (λm=>gW (Nat.ble m (aM c)) (some (.agg (gX m c))) none) (zE c 0)|_=>none
def NR(x:X)(n:bL)(e:En)(s:HS):cX:=bR (bw x e) (λv=>v.kS (λo k=>rv s (s.load o k n)) (rv s (my v n))) .bad
def T0(n:Nat)(a x:X)(e:En)(s:HS):cX:=bR (bw a e) (λp=>p.kS (λo k=>bR (bw x e) (λv=>bR (cellsOf v) (λl=>gW (Nat.beq (aM l) n) (bR (s.store o k l) (λs'=>.v .undef s') .bad) .bad) .bad) .bad) .bad) .bad
def faP(v:HV)(bj:Nat):bS:=match v with|.aw c=>gW (Nat.ble bj (aM c)) (some (.aw (iL bj c))) none|_=>none
def Is(x:X)(bj:Nat)(e:En)(s:HS):cX:=bR (bw x e) (λv=>v.kS (λo k=>.v (.ptr o (Nat.add k bj)) s) (rv s (faP v bj))) .bad
def T1(v:HV)(i:bS)(sz:Nat):bS:=match v,i with
  |.psl b,some (.int _ (.ofNat n))=>(match zE b n with|some r=>gW (Nat.beq (aM r) sz) (some (.aw r)) none|none=>none)
  |_,_=>none
def Ck(x i:X)(sz:Nat)(e:En)(s:HS):cX:=bR (bw x e) (λv=>v.OC (λo bj len D4=>bR (bw i e) (λq=>q.asInt (λ_ z=>Int.rec (motive:=λ_=>cX) (λn=>gW (Nat.blt n len) (gW (Nat.beq sz D4) (.v (.ptr o (Nat.add bj (Nat.mul n sz))) s) .bad) .bad) (λ_=>.bad) z) .bad) .bad) (rv s (T1 v (bw i e) sz))) .bad
def hIdx(x i:X)(e:En)(s:HS):cX:=bR (bw x e) (λv=>v.UY (λl=>bR (bw i e) (λq=>q.asInt (λ_ z=>Int.rec (motive:=λ_=>cX) (λn=>bR (zE l n) (λb=>.v (.int .u8 (.ofNat b)) s) .bad) (λ_=>.bad) z) .bad) .bad) .bad) .bad
def Lj(k:Nat)(s:HS)(v:HV):bL:=match k,v with
  |0,.ah=>some 0
  |0,.sl _ _ n _=>some n
  |0,.psl b=>some (aM b)
  |1,.str l=>some (aM l)
  |2,.fS=>some 0
  |2,.mp o=>(match aj s.h o with|some (.mp c)=>some (aM c)|_=>none)
  |_,_=>none
def Cr(k:Nat)(x:X)(e:En)(s:HS):cX:=bR (bw x e) (λv=>bR (Lj k s v) (λn=>.v (.int .i64 (.ofNat n)) s) .bad) .bad
def uV(c:Bool)(op:BinOp)(x y:X)(e:En)(s:HS):cX:=bR (bw x e) (λa=>bR (bw y e) (λb=>rv s (Ha c op a b)) .bad) .bad
def T2(op:UnOp)(x:X)(e:En)(s:HS):cX:=match bw x e with
  |some (.bool b)=>(match op with|.not=>.v (.bool (!b)) s|_=>.bad)
  |some (.int k n)=>(match op with|.neg=>.v (.int k (bT k (0-n))) s|_=>.bad)
  |_=>.bad
def uW(g:Nat)(c cs:List X)(e:En)(s:HS):cX:=bR (gx c e) (λa=>bR (gx cs e) (λb=>.v (.fn g a b) s) .bad) .bad
def uX(x:X)(i:Nat)(e:En)(s:HS):cX:=bR (bw x e) (λv=>v.NP (λl=>rv s (zE l i)) .bad) .bad
def uY(k:IntKind)(x:X)(e:En)(s:HS):cX:=bR (bw x e) (λv=>v.asInt (λ_ n=>.v (.int k (bT k n)) s) .bad) .bad
def uZ(x:X)(e:En)(s:HS):cX:=bR (bw x e) (λv=>v.kS (λo k=>.v (.ptr o k) s) (match v with|.aw c=>.v (.aw c) s|_=>.bad)) .bad
def T3(m:Bool)(x y:X)(e:En)(s:HS):cX:=match bw x e,bw y e with|some (.int k a),some (.int _ b)=>.v (.int k (bif m then(bif j9 a b then b else a)else(bif j9 a b then a else b))) s|_,_=>.bad
def aD:aP->ai
 |[]=>[]
 |r::l=>r++aD l
def dk(sz:Nat):aP->Bool
 |[]=>true
 |r::l=>Nat.beq (aM r) sz&&dk sz l
def gZ:HV->Bool
 |.ah=>true
 |.sl .. =>true
 |_=>false
def Hd(sz bI:Nat)(f:bL)(x ys:X)(e:En)(s:HS):cX:=match bw x e,bw ys e with
  |some a,some b=>bif gZ a then(match b with
   |.ah=>.v a s
   |.sl o d len _=>bif Nat.beq len 0 then .v a s else bR (s.bF o d (len*sz)) (λl=>s.append sz bI f a l len) .bad
   |.psl c=>bif Nat.beq (aM c) 0 then .v a s else bif dk sz c then s.append sz bI f a (aD c) (aM c)else .bad
   |_=>.bad)else .bad
  |_,_=>.bad
def He(sz bI:Nat)(z:ai)(l c:X)(e:En)(s:HS):cX:=match bw l e,bw c e with|some (.int _ (.ofNat n)),some (.int _ (.ofNat m))=>bif Nat.ble n m&&Nat.ble m bI then s.new (mu z n) (λo=>.sl o 0 n sz)else .bad|_,_=>.bad
def HS.UZ(s:HS)(o:Ob)(K:Ky->HS->cX):cX:=K s.nx {h:=av (some o) s.nx s.h,nx:=s.nx.succ,gr:=s.gr,ty:=s.ty}
def HS.aJ(s:HS)(o:Ky)(b:Ob):HS:={h:=av (some b) o s.h,nx:=s.nx,gr:=s.gr,ty:=s.ty}
def HS.kill(s:HS)(o:Ky):HS:={h:=av none o s.h,nx:=s.nx,gr:=s.gr,ty:=s.ty}
def U0(_:En)(s:HS):cX:=s.UZ (.mp []) (λo s'=>.v (.mp o) s')
def Cs(K:Kd)(m k:X)(z:HV)(ok:Bool)(e:En)(s:HS):cX:=match bw m e,bw k e with
  |some .fS,some key=>bif pX K key then .v (bif ok then .cO [z,.bool false]else z) s else .bad
  |some (.mp o),some key=>bif pX K key then(match aj s.h o with
   |some (.mp b)=>(match dZ K b key 0 with
    |some (_,some v)=>.v (bif ok then .cO [v,.bool true]else v) s
    |some (_,none)=>.v (bif ok then .cO [z,.bool false]else z) s
    |none=>.bad)
   |_=>.bad)else .bad
  |_,_=>.bad
def Hf(K:Kd)(m k v:X)(e:En)(s:HS):cX:=match bw m e,bw k e,bw v e with
  |some (.mp o),some key,some v=>bif pX K key then(match aj s.h o with
   |some (.mp b)=>(match dZ K b key 0 with
    |some (i,some _)=>.v .undef (s.aJ o (.mp (l9 b i v)))
    |some (_,none)=>.v .undef (s.aJ o (.mp (b++[(key,v)])))
    |none=>.bad)
   |_=>.bad)else .bad
  |_,_,_=>.bad
def Hg(K:Kd)(neg:Bool)(x y:X)(e:En)(s:HS):cX:=match bw x e,bw y e with|some a,some b=>(match pW K a b with|some q=>.v (.bool (q != neg)) s|none=>.bad)|_,_=>.bad
def nY(k:Nat)(v:HV):Option Bool:=match k,v with|0,.ah=>some true|0,.sl .. =>some false|0,.psl (_::_)=>some false|1,.fS=>some true|1,.mp _=>some false|2,.gY=>some true|2,.fn .. =>some false|2,.iK _=>some false|3,.dE=>some true|3,.ptr .. =>some false|3,.aw _=>some false|_,_=>none
def u9(k:Nat)(neg:Bool)(x:X)(e:En)(s:HS):cX:=bR (bw x e) (λv=>bR (nY k v) (λq=>.v (.bool (q != neg)) s) .bad) .bad
def Ct(x:X)(d f mx:Option X)(sz:Nat)(e:En)(s:HS):cX:=match bw x e with
  |some (.sl o g len h)=>(match fw e 0 d,fw e len f,mx with
   |some a,some b,none=>bif Nat.ble a b&&Nat.ble b len&&Nat.beq sz h then .v (.sl o (g+a*sz) (b-a) sz) s else .bad
   |_,_,_=>.bad)
  |some (.psl c)=>(match fw e 0 d,fw e (aM c) f,mx with
   |some a,some b,none=>bif Nat.ble a b&&Nat.ble b (aM c)&&dk sz c then .v (.psl (gX (b-a) (iL a c))) s else .bad
   |_,_,_=>.bad)
  |some .ah=>(match fw e 0 d,fw e 0 f,mx with|some 0,some 0,none=>.v .ah s|_,_,_=>.bad)
  |_=>.bad
def Cu(x:X)(c d:Option X)(e:En)(s:HS):cX:=match bw x e with
  |some (.str l)=>(match fw e 0 c,fw e (aM l) d with
   |some a,some b=>bif Nat.ble a b&&Nat.ble b (aM l)then .v (.str (mw l a b)) s else .bad
   |_,_=>.bad)
  |_=>.bad
def Cv(x:X)(e:En)(s:HS):cX:=match bw x e with|some (.int _ (.ofNat n))=>bif Nat.blt n 128 then .v (.str [n]) s else bif Nat.blt n 2048 then .v (.str [192+n/64,128+n%64]) s else .bad|_=>.bad
def Hi(bI:Nat)(c:bL)(x y:X)(e:En)(s:HS):cX:=match bw x e,bw y e with
  |some a,some b=>bif gZ a then(match b with
   |.str l=>bif Nat.beq (aM l) 0 then .v a s else s.append 1 bI c a (fO l) (aM l)
   |_=>.bad)else .bad
  |_,_=>.bad
def Hj(K:Kd)(m k:X)(z:HV)(e:En)(s:HS):cX:=match bw m e,bw k e with
  |some (.mp o),some key=>bif pX K key then(match aj s.h o with
   |some (.mp b)=>(match dZ K b key 0 with
    |some (i,some v)=>.v (.cO [v,.int .i64 (.ofNat i)]) s
    |some (_,none)=>.v (.cO [z,.int .i64 (.ofNat (aM b))]) (s.aJ o (.mp (b++[(key,z)])))
    |none=>.bad)
   |_=>.bad)else .bad
  |_,_=>.bad
def Hk(m i v:X)(e:En)(s:HS):cX:=match bw m e,bw i e,bw v e with
  |some (.mp o),some (.int _ (.ofNat i)),some v=>(match aj s.h o with
   |some (.mp b)=>bif Nat.blt i (aM b)then .v .undef (s.aJ o (.mp (l9 b i v)))else .bad
   |_=>.bad)
  |_,_,_=>.bad
def Hl(sz:Nat)(x y:X)(e:En)(s:HS):cX:=match bw x e,bw y e with
    |some (.sl o d len f),some (.sl h g b _)=>
      bif !(Nat.beq sz f)then .bad else
      bif Nat.beq (bif Nat.ble len b then len else b) 0 then .v (.int .i64 0) s else
      (match s.bF h g ((bif Nat.ble len b then len else b)*sz)with
       |some l=>(match s.store o d l with|some s'=>.v (.int .i64 (.ofNat (bif Nat.ble len b then len else b))) s'|none=>.bad)
       |none=>.bad)
    |some (.sl o d len f),some (.psl c)=>
      bif !(Nat.beq sz f)then .bad else
      bif Nat.beq (bif Nat.ble len (aM c)then len else aM c) 0 then .v (.int .i64 0) s else bif dk sz c then
      (match s.store o d (aD (gX (bif Nat.ble len (aM c)then len else aM c) c))with|some s'=>.v (.int .i64 (.ofNat (bif Nat.ble len (aM c)then len else aM c))) s'|none=>.bad)else .bad
    |some (.sl ..),some .ah=>.v (.int .i64 0) s
    |some .ah,some .ah=>.v (.int .i64 0) s
    |some .ah,some (.sl ..)=>.v (.int .i64 0) s
    |some .ah,some (.psl _)=>.v (.int .i64 0) s
    |_,_=>.bad
def zG(f:Nat)(xs:List X)(e:En)(_:HS):cX:=bR (gx xs e) (λl=>.call f l) .bad
def Ec(x:X)(xs:List X)(e:En)(_:HS):cX:=match bw x e,gx xs e with|some (.fn f a b),some l=>.call f (a++l++b)|some (.iK r),some l=>.round r l|_,_=>.bad
def U1(_:En)(_:HS):cX:=.bad
def dA(op:lL):En->HS->cX:=
 lL.rec (motive:=λ_=>En->HS->cX) TZ lM Eb OG Hb uT mb Hc uU NR T0 Is Ck hIdx Cr uV T2 uW uX uY uZ T3 Hd He U0 Cs Hf Hg u9 Ct Cu zG Ec Cv Hj Hk Hi Hl (λ_=>U1) U1 op
def fA(h:Tr Ob):cg->Tr Ob
 |[]=>h
 |m::r=>av none m (fA h r)
mutual
def cm:HV->Bool
 |.ptr _ _=>false
 |.sl _ _ _ _=>false
 |.mp _=>false
 |.iK _=>false
 |.fn _ a b=>cI a&&cI b
 |.agg l=>cI l
 |.cO l=>cI l
 |.aw l=>cI l
 |.psl c=>iA c
 |_=>true
def cI:ai->Bool
 |[]=>true
 |v::r=>cm v&&cI r
def iA:aP->Bool
 |[]=>true
 |l::r=>cI l&&iA r
end
mutual
def eo:HV->Bool
 |.ptr _ _=>false
 |.sl _ _ _ _=>false
 |.mp _=>false
 |.iK _=>false
 |.ah=>false
 |.fn _ a b=>dv a&&dv b
 |.agg l=>dv l
 |.cO l=>dv l
 |.aw l=>dv l
 |.psl c=>eT c
 |_=>true
def dv:ai->Bool
 |[]=>true
 |v::r=>eo v&&dv r
def eT:aP->Bool
 |[]=>true
 |l::r=>dv l&&eT r
end
mutual
def nn:HV->HV
 |.ah=>.psl []
 |.agg l=>.agg (oH l)
 |.cO l=>.cO (oH l)
 |.aw l=>.aw (oH l)
 |.psl b=>.psl (qp b)
 |v=>v
def oH:ai->ai
 |[]=>[]
 |v::r=>nn v::oH r
def qp:aP->aP
 |[]=>[]
 |l::r=>oH l::qp r
end
def ff:HV->Bool
 |.int _ _=>true
 |.bool _=>true
 |.str _=>true
 |.ah=>true
 |.dE=>true
 |.gY=>true
 |.fS=>true
 |.fU=>true
 |.psl []=>true
 |_=>false
def fp:HV->Bool
 |.cO l=>l.all ff
 |.agg l=>l.all ff
 |v=>ff v
def jD(sz:Nat):Nat->ai->aP
 |0,_=>[]
 |n+1,l=>gX sz l::jD sz n (iL sz l)
section vw
variable(s:HS)
def oI(f:HV->Option (HV×List Ky)):ai->Option (List HV×List Ky)
 |[]=>some ([],[])
 |v::r=>match f v,oI f r with|some (b,t),some (c,d)=>some (b::c,t++d)|_,_=>none
def vw:Nat->HV->Option (HV×List Ky)
 |0,_=>none
 |n+1,v=>bif eo v then some (v,[])else match v with
  |.ah=>some (.psl [],[])
  |.psl d=>bif iA d then some (.psl (qp d),[])else none
  |.aw l=>bif cI l then some (.aw (oH l),[])else none
  |.sl o g len i=>bif Nat.beq len 0 then some (.psl [],[])else(match s.bF o g (len*i)with
   |some l=>(match oI (vw n) l with
    |some (c,t)=>some (.psl (jD i len c),o::t)
    |none=>none)
   |none=>none)
  |.ptr o k=>(match aj s.h o with
   |some (.cells _ _ j _)=>bif Nat.ble k j then(match s.bF o k (j-k)with
    |some l=>(match oI (vw n) l with
     |some (c,t)=>some (.aw c,o::t)
     |none=>none)
    |none=>none)else none
   |_=>none)
  |.agg l=>(match oI (vw n) l with|some (c,t)=>some (.agg c,t)|none=>none)
  |.cO l=>(match oI (vw n) l with|some (c,t)=>some (.cO c,t)|none=>none)
  |.fn f a b=>(match oI (vw n) a,oI (vw n) b with|some (m,t),some (p,q)=>some (.fn f m p,t++q)|_,_=>none)
  |v=>bif cm v then some (v,[])else none
end vw
def bx(s:HS):cg->HS
 |[]=>s
 |o::r=>match bx s r with
  |s'=>(match aj s.h o with
   |some (.cells _ _ _ g)=>(match aj s.gr g with
    |some b=>{h:=fA s'.h b,nx:=s'.nx,gr:=s'.gr,ty:=s'.ty}
    |none=>s')
   |_=>s')
def qt(s:HS)(e:En):az->Option (En×HS)
 |[]=>some (e,s)
 |t::r=>match qt s e r with
  |some (b,s')=>(match look b t with
   |some v=>(match vw s' 16 v with
    |some (c,l)=>some (b.oE t c,bx s' l)
    |none=>none)
   |none=>none)
  |none=>none
def uq(s:HS)(e:En)(t bj n:Nat):Option HS:=match look e t with
 |some (.ptr o k)=>(match s.bF o (k+bj) n with
  |some l=>(match oI (vw s 16) l with
   |some (c,b)=>bif jg o b then none else(match bx s b with
    |s'=>(match aj s'.h o with
     |some (.cells tr d f g)=>some {h:=av (some (.cells (dh c (k+bj) tr) d f g)) o s'.h,nx:=s'.nx,gr:=s'.gr,ty:=s'.ty}
     |_=>none))
   |none=>none)
  |none=>none)
 |_=>none
mutual
def ids:HV->cg
 |.ptr o _=>[o]
 |.sl o _ _ _=>[o]
 |.mp o=>[o]
 |.iK o=>[o]
 |.fn _ a b=>Ed a++Ed b
 |.agg l=>Ed l
 |.cO l=>Ed l
 |.aw l=>Ed l
 |.psl c=>NS c
 |_=>[]
def Ed:ai->cg
 |[]=>[]
 |v::r=>ids v++Ed r
def NS:aP->cg
 |[]=>[]
 |l::r=>Ed l++NS r
end
def OH:Tr HV->cg
 |.lf=>[]
 |.nd v l r=>(match v with|some x=>ids x|none=>[])++(OH l++OH r)
def U2:List (HV×HV)->cg
 |[]=>[]
 |(k,v)::r=>ids k++(ids v++U2 r)
def Ho(s:HS):Nat->cg->cg->Option cg
 |0,_,_=>none
 |_+1,[],b=>some b
 |n+1,o::r,b=>bif jg o b then Ho s n r b else(match aj s.h o with
  |some (.cells t _ _ _)=>Ho s n (OH t++r) (b++[o])
  |some (.mp c)=>Ho s n (U2 c++r) (b++[o])
  |_=>none)
def zg:Nat->Ky
 |0=>.e
 |n+1=>(zg n).succ
def NU(o:Ky):List (Ky×Ky)->Option Ky
 |[]=>none
 |(a,b)::r=>bif a.beq o then some b else NU o r
def ahi:Nat->cg->List (Ky×Ky)
 |_,[]=>[]
 |n,o::r=>(o,zg n)::ahi (n+1) r
mutual
def nZ(r:List (Ky×Ky)):HV->bS
 |.ptr o k=>match NU o r with|some g=>some (.ptr g k)|none=>none
 |.sl o a b c=>match NU o r with|some g=>some (.sl g a b c)|none=>none
 |.mp o=>match NU o r with|some g=>some (.mp g)|none=>none
 |.iK _=>none
 |.fn f a b=>match vc r a,vc r b with|some i,some j=>some (.fn f i j)|_,_=>none
 |.agg l=>match vc r l with|some d=>some (.agg d)|none=>none
 |.cO l=>match vc r l with|some d=>some (.cO d)|none=>none
 |.aw l=>match vc r l with|some d=>some (.aw d)|none=>none
 |.psl h=>match zH r h with|some d=>some (.psl d)|none=>none
 |v=>some v
def vc(r:List (Ky×Ky)):ai->Option ai
 |[]=>some []
 |v::l=>match nZ r v,vc r l with|some b,some c=>some (b::c)|_,_=>none
def zH(r:List (Ky×Ky)):aP->Option aP
 |[]=>some []
 |v::l=>match vc r v,zH r l with|some b,some c=>some (b::c)|_,_=>none
end
def zh(r:List (Ky×Ky)):Tr HV->Option (Tr HV)
 |.lf=>some .lf
 |.nd none l m=>match zh r l,zh r m with|some b,some c=>some (.nd none b c)|_,_=>none
 |.nd (some v) l m=>match nZ r v,zh r l,zh r m with|some d,some b,some c=>some (.nd (some d) b c)|_,_,_=>none
def Hp(r:List (Ky×Ky)):List (HV×HV)->Option (List (HV×HV))
 |[]=>some []
 |(k,v)::l=>match nZ r k,nZ r v,Hp r l with|some b,some c,some d=>some ((b,c)::d)|_,_,_=>none
def Cy(r:List (Ky×Ky))(e:En):az->Option En
 |[]=>some .nil
 |t::l=>match Cy r e l with
  |some b=>(match look e t with
   |some v=>(match nZ r v with|some c=>some (.cons t c b)|none=>none)
   |none=>some b)
  |none=>none
def Cz(s:HS)(r:List (Ky×Ky)):List (Ky×Ky)->Option (Tr Ob×Tr cg×Tr (Nat×Nat)×List Ky)
 |[]=>some (.lf,.lf,.lf,[])
 |(o,k)::l=>match Cz s r l with
  |some (h,d,ty,b)=>(match aj s.h o with
   |some (.cells t f i g)=>bif jg g b then none else(match zh r t with
    |some j=>some (av (some (.cells j f i k)) k h,av (some [k]) k d,(match aj s.ty o with|some p=>av (some p) k ty|none=>ty),g::b)
    |none=>none)
   |some (.mp m)=>(match Hp r m with
    |some c=>some (av (some (.mp c)) k h,d,ty,b)
    |none=>none)
   |_=>none)
  |none=>none
def IA(e:En):az->cg
 |[]=>[]
 |t::l=>(match look e t with|some v=>ids v|none=>[])++IA e l
def canon(keep:az)(e:En)(s:HS):Option (En×HS):=match Ho s 500 (IA e keep) []with
 |some b=>(match Cy (ahi 0 b) e keep,Cz s (ahi 0 b) (ahi 0 b)with
  |some d,some (h,c,ty,_)=>some (d,{h:=h,nx:=zg (aM b),gr:=c,ty:=ty})
  |_,_=>none)
 |none=>none
inductive Ex where
 |normal|ret
 |exit (i:Nat)
inductive Task where
 |call (f:Nat) (args:ai) (s:HS)
 |round (l:Ky) (args:ai) (s:HS)
 |loop (c:HC) (e:En) (s:HS)
 |oJ (c:HC) (e:En) (s:HS)
inductive Out where
 |val (v:HV) (s:HS)
 |code (x:Ex) (e:En) (s:HS)
 |bad (why:Nat)
def Out.n4{β:Type}(o:Out)(f:HV->HS->β)(d:β):β:=Out.rec (motive:=λ_=>β) (λv s=>f v s) (λ_ _ _=>d) (λ_=>d) o
def Out.cA(o:Out)(f:En->HS->Out):Out:=Out.rec (motive:=λ_=>Out) (λ_ _=>o) (λx e s=>Ex.rec (motive:=λ_=>Out) (f e s) o (λ_=>o) x) (λ_=>o) o
def En.put(e:En)(d:bL)(v:HV):En:=Option.rec (motive:=λ_=>En) e (λn=>.cons n v e) d
def ic(outs:az)(l:En):En->En:=List.rec (motive:=λ_=>En->En) (λe=>e) (λn _ ih e=>ih (bR (look l n) (λv=>e.oE n v) e)) outs
def kU(e:En)(g:Option (Nat×Bool)):Option Bool:=
 Option.rec (motive:=λ_=>Option Bool) (some true) (λp=>match look e p.1 with|some (.bool q)=>some (q==p.2)|some .undef=>some false|_=>none) g
def one(ih:Task->Out)(o:aR)(e:En)(s:HS)(K:En->HS->Out):Out:=
 bR (kU e o.g) (λw=>Bool.rec (motive:=λ_=>Out) (K (e.put o.d .undef) s)
   (cX.rec (motive:=λ_=>Out) (λv s'=>K (e.put o.d v) s') (λf l=>(ih (.call f l s)).n4 (λv s'=>K (e.put o.d v) s') (.bad 1)) (λf l=>(ih (.round f l s)).n4 (λv s'=>K (e.put o.d v) s') (.bad 2)) (.bad 3) (dA o.op e s)) w) (.bad 4)
def mq(ih:Task->Out)(K:En->HS->Out)(l:List aR):En->HS->Out:=
 List.rec (motive:=λ_=>En->HS->Out) K (λo _ rest e s=>one ih o e s rest) l
def kV(ih:Task->Out)(K:En->HS->List HS->Out)(l:List dY):En->HS->List HS->Out:=
 List.rec (motive:=λ_=>En->HS->List HS->Out) K (λd _ rest e s vs=>one ih d.o e s (λe' s'=>rest e' s' (DK.rec (motive:=λ_=>List HS) vs (λ_ _=>vs) (vs++[s']) (vs++[s']) d.k))) l
def fJ:HV->HV->Bool
 |.int k a,.int j b=>decide (k=j)&&ni a b
 |.bool a,.bool b=>a==b
 |.str a,.str b=>qo a b
 |.ah,.ah=>true
 |.dE,.dE=>true
 |.gY,.gY=>true
 |.fS,.fS=>true
 |.fU,.fU=>true
 |.ptr o k,.ptr p j=>o.beq p&&Nat.beq k j
 |.sl o a b c,.sl p d e f=>o.beq p&&Nat.beq a d&&Nat.beq b e&&Nat.beq c f
 |.mp o,.mp p=>o.beq p
 |.fn f a b,.fn g c d=>Nat.beq f g&&iM a c&&iM b d
 |.iK a,.iK b=>a.beq b
 |.agg a,.agg b=>iM a b
 |.cO a,.cO b=>iM a b
 |.aw a,.aw b=>iM a b
 |.psl a,.psl b=>qI a b
 |.undef,.undef=>true
 |_,_=>false
where
 iM:ai->ai->Bool
 |[],[]=>true
 |x::r,y::s=>fJ x y&&iM r s
 |_,_=>false
 qI:aP->aP->Bool
 |[],[]=>true
 |x::r,y::s=>iM x y&&qI r s
 |_,_=>false
def iw(o:aR)(e:En)(n:Nat):List HS->Bool
 |[]=>true
 |s::r=>(match o.d with
   |some d=>(match look e d,dA o.op e s with
    |some v,.v u _=>fJ v u
    |_,_=>false)
   |none=>false)&&(match n with|0=>true|m+1=>iw o e m r)
def bV(e:En)(vs:List HS):List dY->Bool
 |[]=>true
 |d::r=>(match d.k with
   |.l b c=>(match kU e d.o.g with|some true=>iw d.o e (c-b) (vs.drop b)|some false=>true|none=>false)
   |_=>true)&&bV e vs r
def NV(ih:Task->Out)(outs:az)(main:List dY)(b:List aR)(e0:En)(s:HS):Out:=
 kV ih (λe s' d=>gW (bV e d main) (mq ih (λf c=>.code .normal (ic outs f e0) c) b e s') (.bad 14)) main e0 s [s]
def lG(ih:Task->Out)(x:X)(ps:az)(gV body:HC)(e:En)(s:HS):Out:=
 match bw x e with
 |some (.fn f a b)=>(match ih (.call f (a++[HV.iK s.nx]++b) {h:=av (some (.loop 0 none e ps gV body)) s.nx s.h,nx:=s.nx.succ,gr:=s.gr,ty:=s.ty})with
  |.val _ s2=>(match aj s2.h s.nx with
   |some (.loop d c ..)=>bif Nat.beq d 2 then .bad 15 else(match c with
    |none=>.code .normal e (s2.kill s.nx)
    |some .ret=>.code .ret e (s2.kill s.nx)
    |some (.exit i)=>.code (.exit i) e (s2.kill s.nx)
    |_=>.bad 5)
   |_=>.bad 5)
  |_=>.bad 6)
 |_=>.bad 7
def ev(ih:Task->Out)(c:HC):En->HS->Out:=
 HC.rec (motive:=λ_=>En->HS->Out)
  (λe s=>.code .normal e s) (λe s=>.code .ret e s) (λi e s=>.code (.exit i) e s)
  (λ_ _ d f e s=>(d e s).cA f)
  (λx _ _ d f e s=>bR (bw x e) (λv=>v.asBool (d e s) (f e s) (.bad 8)) (.bad 8))
  (λi _ g e s=>Out.rec (motive:=λ_=>Out) (λ_ _=>.bad 9) (λx e' s'=>Ex.rec (motive:=λ_=>Out) (.code .normal e' s') (.code .ret e' s') (λj=>gW (Nat.beq i j) (.code .normal e' s') (.code (.exit j) e' s')) x) (λw=>.bad w) (g e s))
  (λc g e s=>(g e s).cA (λe' s'=>ih (.loop c e' s')))
  (λouts l e s=>mq ih (λe' s'=>.code .normal (ic outs e' e) s') l e s)
  (λouts main b e s=>NV ih outs main b e s)
  (λx ps gV body _ _ e s=>lG ih x ps gV body e s)
  (λh e s=>bR (qt s e h) (λp=>.code .normal p.1 p.2) (.bad 50))
  (λt bj n e s=>bR (uq s e t bj n) (λs'=>.code .normal e s') (.bad 51))
  (λ_ _ _=>.bad 52) c
def bO(ih:Task->Out)(c:HC):En->HS->Out:=
 HC.rec (motive:=λ_=>En->HS->Out)
  (λe s=>.code .normal e s) (λe s=>.code .ret e s) (λi e s=>.code (.exit i) e s)
  (λ_ _ d f e s=>(d e s).cA f)
  (λx _ _ d f e s=>bR (bw x e) (λv=>v.asBool (d e s) (f e s) (.bad 8)) (.bad 8))
  (λi _ g e s=>Out.rec (motive:=λ_=>Out) (λ_ _=>.bad 9) (λx e' s'=>Ex.rec (motive:=λ_=>Out) (.code .normal e' s') (.code .ret e' s') (λj=>gW (Nat.beq i j) (.code .normal e' s') (.code (.exit j) e' s')) x) (λw=>.bad w) (g e s))
  (λc g e s=>(g e s).cA (λe' s'=>ih (.oJ c e' s')))
  (λouts l e s=>mq ih (λe' s'=>.code .normal (ic outs e' e) s') l e s)
  (λouts main b e s=>NV ih outs main b e s)
  (λx ps gV body _ _ e s=>lG ih x ps gV body e s)
  (λh e s=>bR (qt s e h) (λp=>.code .normal p.1 p.2) (.bad 50))
  (λt bj n e s=>bR (uq s e t bj n) (λs'=>.code .normal e s') (.bad 51))
  (λkeep e s=>bR (canon keep e s) (λp=>.code .normal p.1 p.2) (.bad 52)) c
def bc(l:ai):Nat->En:=List.rec (motive:=λ_=>Nat->En) (λ_=>.nil) (λv _ ih i=>.cons i v (ih (Nat.succ i))) l
def oK(e:En):az->ai->En
 |p::q,v::r=>.cons p v (oK e q r)
 |_,_=>e
def dF(e:En)(s:HS):List Rs->Option ai
 |[]=>some []
 |.tmp n::r=>match look e n,dF e s r with|some v,some l=>some (v::l)|_,_=>none
 |.cell n b::r=>match look e n with
  |some (.ptr o k)=>(match s.load o k b,dF e s r with|some v,some l=>some (v::l)|_,_=>none)
  |some (.aw c)=>(match my (.aw c) b,dF e s r with|some v,some l=>some (v::l)|_,_=>none)
  |_=>none
def leave(F:HF)(e:En)(s:HS):Out:=match dF e s F.rs with|some [v]=>.val v s|some l=>.val (.cO l) s|none=>.bad 10
def s0:HS:={h:=.lf,nx:=.e,gr:=.lf,ty:=.lf}
def kh(F:HF)(ih:Task->Out)(args:ai):bS:=
 gW (Nat.beq (aM args) F.np) (match bO ih F.c (bc args 0) s0 with
  |.code (.exit _) _ _=>none
  |.code _ e s=>(match leave F e s with
   |.val v s'=>(match vw s' 16 v with|some (b,_)=>some b|none=>none)
   |_=>none)
  |_=>none) none
def vd(f:HV->Bool):ai->Bool
 |[]=>true
 |v::r=>f v&&vd f r
def vu(s:HS):Nat->HV->Bool
 |0,_=>false
 |n+1,v=>bif ff v then true else(match v with
  |.sl o b len c=>bif Nat.beq len 0 then true else(match s.bF o b (len*c)with|some l=>vd (vu s n) l|none=>false)
  |.agg l=>vd (vu s n) l
  |.cO l=>vd (vu s n) l
  |_=>false)
def gy(F:HF)(ih:Task->Out)(args:ai):Bool:=
 match bO ih F.c (bc args 0) s0 with
  |.code (.exit _) _ _=>false
  |.code _ e s=>(match leave F e s with
   |.val v s'=>vu s' 16 v
   |_=>false)
  |_=>false
def cv(F:HF)(ih:Task->Out)(args:ai)(s:HS):Out:=
  bif cI args then bR (kh F ih (bif dv args then args else oH args)) (λv=>.val v s) (.bad 40)else
    (match oI (vw s 16) args with
     |some (l,_)=>bR (kh F ih l) (λv=>bif fp v then .val v s else bif gy F ih l then .val v s else .bad 41) (.bad 42)
     |none=>.bad 43)
def dO(F:HF)(ih:Task->Out)(args:ai)(s:HS):Out:=
 gW (Nat.beq (aM args) F.np) (Out.rec (motive:=λ_=>Out) (λ_ _=>.bad 11) (λx e s'=>Ex.rec (motive:=λ_=>Out) (leave F e s') (leave F e s') (λ_=>.bad 12) x) (λw=>.bad w) (ev ih F.c (bc args 0) s)) (.bad 32)
def bG(P:Nat->Option HF)(ih:Task->Out)(f:Nat)(args:ai)(s:HS):Out:=
 bR (P f) (λF=>bif F.pu then cv F ih args s else dO F ih args s) (.bad 13)
structure jE where
 bt:Nat
 It:Nat
 dw:Nat
 str:Nat
 fmt:Nat
 ve:bL:=none
 Iu:az:=[]
def ur(L:jE)(args:ai)(s:HS):Out:=match args with
      |[.ptr o 0]=>(match aj s.ty o with
        |some (E,n)=>bif Nat.beq E L.bt&&Nat.beq n 2 then(match s.cell o 0 with
          |some .dE=>(match s.store o 0 [.ptr o 0]with|some s'=>.val .undef s'|none=>.bad 26)
          |some (.ptr p j)=>bif p.beq o&&Nat.beq j 0 then .val .undef s else .bad 27
          |_=>.bad 28)else .bad 30
        |none=>.bad 31)
      |_=>.bad 29
def mc(L:jE)(args:ai)(s:HS):Out:=match args with
      |[.ptr o 0]=>(match s.load o 1 none with
        |some .ah=>.val (.str []) s
        |some (.sl c 0 len _)=>(match aj s.ty c with
          |some (E,_)=>bif Nat.beq E L.It&&(Nat.blt 0 len&&Nat.ble len 4611686018427387904)then(match s.bF c 0 len with
            |some l=>(match bytesOf l with
              |some b=>(match aj s.h c with
                |some (.cells _ _ _ g)=>(match aj s.gr g with
                  |some d=>.val (.str b) {h:=fA s.h d,nx:=s.nx,gr:=s.gr,ty:=s.ty}
                  |none=>.bad 33)
                |_=>.bad 34)
              |none=>.bad 20)
            |none=>.bad 21)else .bad 35
          |none=>.bad 36)
        |_=>.bad 23)
      |_=>.bad 24
def wh(args:ai)(s:HS):Out:=match args with|[.int .i64 (.ofNat n),.int .i64 (.ofNat b)]=>bif Nat.blt n 9223372036854775808&&Nat.beq b 10 then .val (.str (dT 25 n)) s else .bad 25|[.int .i64 (.negSucc n),.int .i64 (.ofNat b)]=>bif Nat.blt n 9223372036854775808&&Nat.beq b 10 then .val (.str (45::dT 25 (Nat.succ n))) s else .bad 25|_=>.bad 25
def lN(args:ai)(s:HS):Out:=match args with|[]=>.val (.bool true) s|_=>.bad 60
def zi(f:Nat)(l:az):Bool:=List.rec (motive:=λ_=>Bool) false (λa _ r=>bif Nat.beq f a then true else r) l
def gz(L:jE)(f:Nat)(args:ai)(s:HS)(K:Out):Out:=bif zi f L.Iu then(match args with
      |[.psl []]=>.val (.psl []) s
      |_=>K)else K
def zI(L:jE)(f:Nat)(args:ai)(s:HS):(∀K,gz L f args s K=K)∨(zi f L.Iu=true/\args=[.psl []]/\∀K,gz L f args s K=.val (.psl []) s):=by
 unfold gz;cases zi f L.Iu with
 |false=>exact .inl λK=>rfl
 |true=>
  simp only[cond_true]
  split
  .exact .inr ⟨by simp,rfl,λK=>rfl⟩
  exact .inl λK=>rfl
def rF(L:jE)(f:Nat)(args:ai)(s:HS)(K:Out):Out:=
 bif Nat.beq f L.dw then ur L args s else bif Nat.beq f L.str then mc L args s else bif Nat.beq f L.fmt then wh args s else bR L.ve (λt=>bif Nat.beq f t then lN args s else gz L f args s K) (gz L f args s K)
def fK(l:Ky)(d:Nat)(b:Option HC)(s:HS):Out:=match aj s.h l with|some (.loop _ _ e f c body)=>.val (.bool (Nat.beq d 0)) (s.aJ l (.loop d b e f c body))|_=>.bad 16
def fB(ih:Task->Out)(l:Ky)(args:ai)(s:HS):Out:=match aj s.h l with
  |some (.loop _ _ e g d body)=>bif Nat.beq (aM args) (aM g)then(match ev ih d (oK e g args) s with
   |.code .normal k j=>(match aj j.h l with
    |some (.loop m n o f c b)=>bif Nat.beq m 0 then(match ev ih body k (j.aJ l (.loop 2 n o f c b))with
     |.code .normal _ s2=>fK l 0 none s2
     |.code .ret _ s2=>fK l 1 (some .ret) s2
     |.code (.exit i) _ s2=>fK l 1 (some (.exit i)) s2
     |_=>.bad 11)else .bad 17
    |_=>.bad 18)
   |_=>.bad 12)else .bad 19
  |_=>.bad 13
def step(L:jE)(P:Nat->Option HF)(ih:Task->Out)(t:Task):Out:=
 Task.rec (motive:=λ_=>Out) (λf args s=>rF L f args s (bG P ih f args s)) (λl args s=>fB ih l args s)
  (λc e s=>(ev ih c e s).cA (λe' s'=>ih (.loop c e' s')))
  (λc e s=>(bO ih c e s).cA (λe' s'=>ih (.oJ c e' s'))) t
def run(L:jE)(P:Nat->Option HF)(n:Nat):Task->Out:=Nat.rec (motive:=λ_=>Task->Out) (λ_=>.bad 99) (λ_ ih=>step L P ih) n
def isTrue(o:Out):Bool:=o.n4 (λv _=>v.asBool true false false) false
def Ky.toNat:Ky->Nat
 |.e=>0
 |.z k=>2*k.toNat+1
 |.o k=>2*k.toNat+2
def Ky.aS(k:Ky):k.succ.toNat=k.toNat+1:=by induction k with|e=>rfl|z k _=>rfl|o k b=>have:(Ky.o k).succ=.z k.succ:=rfl;rw[this];simp only[Ky.toNat,b];omega
def Ky.beq_iff(a:Ky):∀b:Ky,a.beq b=true↔a=b:=by
 induction a with
 |e=>intro b;cases b<;>simp[Ky.beq]
 |z a c=>intro b;cases b with|z b=>have:(Ky.z a).beq (.z b)=a.beq b:=rfl;rw[this,c];simp|_=>simp[Ky.beq]
 |o a c=>intro b;cases b with|o b=>have:(Ky.o a).beq (.o b)=a.beq b:=rfl;rw[this,c];simp|_=>simp[Ky.beq]
section Oz
variable{α:Type}
def wi(t:Tr α):aj t .e=tv t:=by cases t<;>rfl
def sR(t:Tr α)(k:Ky):aj t (.z k)=aj (tl t) k:=by cases t<;>rfl
def sS(t:Tr α)(k:Ky):aj t (.o k)=aj (tr t) k:=by cases t<;>rfl
def af(x:Option α)(k:Ky):∀(t:Tr α) (j:Ky),aj (av x k t) j=if j=k then x else aj t j:=by
 induction k with
 |e=>intro t j;have:av x .e t=.nd x (tl t) (tr t):=rfl;rw[this];cases j with|e=>simp[wi,tv]|z j=>rw[sR,sR];simp[tl]|o j=>rw[sS,sS];simp[tr]
 |z k b=>intro t j;have:av x (.z k) t=.nd (tv t) (av x k (tl t)) (tr t):=rfl;rw[this];cases j with|e=>rw[wi,wi];simp[tv]|z j=>rw[sR,sR];have:=b (tl t) j;simp only[tl]at this ⊢;rw[this];simp|o j=>rw[sS,sS];simp[tr]
 |o k b=>intro t j;have:av x (.o k) t=.nd (tv t) (tl t) (av x k (tr t)):=rfl;rw[this];cases j with|e=>rw[wi,wi];simp[tv]|z j=>rw[sR,sR];simp[tl]|o j=>rw[sS,sS];have:=b (tr t) j;simp only[tr]at this ⊢;rw[this];simp
def vx(k:Nat):fI (Tr.lf:Tr α) k=none:=rfl
def iX(v:Option α)(l r:Tr α)(k:Nat):fI (.nd v l r) k=if k=0 then v else if k%2=1 then fI l (k/2)else fI r ((k-1)/2):=by
 have h:fI (.nd v l r) k=Bool.rec (Bool.rec (fI r (Nat.div (Nat.pred k) 2)) (fI l (Nat.div k 2)) (Nat.beq (Nat.mod k 2) 1)) v (Nat.beq k 0):=rfl;rw[h];cases hk:Nat.beq k 0 with
 |true=>have:=n5 hk;simp[this]
 |false=>
  have b:k≠0:=by rintro rfl;simp at hk
  simp only[b,bD];cases hm:Nat.beq (Nat.mod k 2) 1 with|true=>have:=n5 hm;rw[au (by exact this)];rfl|false=>rw[ar (by intro h;have c:Nat.mod k 2=1:=h;rw[c]at hm;simp at hm)];rfl
def Hq(x:Option α):∀(n k:Nat),k<n->∀j,fI (nh x n k) j=if j=k then x else none:=by
 intro n
 induction n with
 |zero=>intro k h;omega
 |succ n ih=>
  intro k hk j;have h:nh x (n+1) k=Bool.rec (Bool.rec (.nd none .lf (nh x n (Nat.div (Nat.pred k) 2))) (.nd none (nh x n (Nat.div k 2)) .lf) (Nat.beq (Nat.mod k 2) 1)) (.nd x .lf .lf) (Nat.beq k 0):=rfl;rw[h];cases c:Nat.beq k 0 with
  |true=>have:=n5 c;subst this;simp only[iX,vx];split<;>simp_all
  |false=>
   have g:k≠0:=by rintro rfl;simp at c
   have i:Nat.div k 2=k/2:=rfl;have l:Nat.div (Nat.pred k) 2=(k-1)/2:=rfl;cases hm:Nat.beq (Nat.mod k 2) 1 with
   |true=>
    have f:k%2=1:=n5 hm;simp only[iX,vx,i];rw[ih (k/2) (by omega)];by_cases h0:j=0
    .simp only[h0,bp];rw[ar (by omega)]
    by_cases d:j%2=1
    .simp only[h0,d,bp,bD];by_cases b:j=k
     .rw[au (by rw[b]),au b]
     rw[ar (by omega),ar b]
    simp only[h0,d,bD];rw[ar (by omega)]
   |false=>
    have f:k%2≠1:=by intro h;have m:Nat.mod k 2=1:=h;rw[m]at hm;simp at hm
    simp only[iX,vx,l];rw[ih ((k-1)/2) (by omega)];by_cases h0:j=0
    .simp only[h0,bp];rw[ar (by omega)]
    by_cases d:j%2=1
    .simp only[h0,d,bp,bD];rw[ar (by omega)]
    simp only[h0,d,bD];by_cases b:j=k
    .rw[au (by rw[b]),au b]
    rw[ar (by omega),ar b]
def Hr(x:Option α)(t:Tr α):∀(k j:Nat),fI (jn x t k) j=if j=k then x else fI t j:=by
 induction t with
 |lf=>intro k j;exact Hq x (k+1) k (by omega) j
 |nd v l r f g=>
  intro k j;have h:jn x (.nd v l r) k=Bool.rec (Bool.rec (.nd v l (jn x r (Nat.div (Nat.pred k) 2))) (.nd v (jn x l (Nat.div k 2)) r) (Nat.beq (Nat.mod k 2) 1)) (.nd x l r) (Nat.beq k 0):=rfl;rw[h];have m:Nat.div k 2=k/2:=rfl;have n:Nat.div (Nat.pred k) 2=(k-1)/2:=rfl;cases c:Nat.beq k 0 with
  |true=>have:=n5 c;subst this;simp only[iX];split<;>simp_all
  |false=>
   have o:k≠0:=by rintro rfl;simp at c
   cases hm:Nat.beq (Nat.mod k 2) 1 with
   |true=>
    have i:k%2=1:=n5 hm;simp only[iX,m];rw[f (k/2)];by_cases h0:j=0
    .simp only[h0,bp];rw[ar (by omega)]
    by_cases d:j%2=1
    .simp only[h0,d,bp,bD];by_cases b:j=k
     .rw[au (by rw[b]),au b]
     rw[ar (by omega),ar b]
    simp only[h0,d,bD];rw[ar (by omega)]
   |false=>
    have i:k%2≠1:=by intro h;have p:Nat.mod k 2=1:=h;rw[p]at hm;simp at hm
    simp only[iX,n];rw[g ((k-1)/2)];by_cases h0:j=0
    .simp only[h0,bp];rw[ar (by omega)]
    by_cases d:j%2=1
    .simp only[h0,d,bp,bD];rw[ar (by omega)]
    simp only[h0,d,bD];by_cases b:j=k
    .rw[au (by rw[b]),au b]
    rw[ar (by omega),ar b]
end Oz
def bK{α:Type}(l:List α):aM l=l.length:=by induction l with|nil=>rfl|cons x l b=>have:aM (x::l)=(aM l).succ:=rfl;rw[this,b];rfl
def wj{α:Type}(l:List α):∀k,zE l k=l[k]?:=by
 induction l with
 |nil=>intro k;rfl
 |cons x l b=>intro k;cases k with|zero=>rfl|succ k=>have:zE (x::l) (k+1)=zE l k:=rfl;rw[this,b];simp
def fC(l:ai):∀(k:Nat) (t:Tr HV) (j:Nat),fI (dh l k t) j=if k<=j/\j<k+l.length then l[j-k]?else fI t j:=by
 induction l with
 |nil=>intro k t j;simp only[aC];rw[ar (by omega)];rfl
 |cons v l d=>
  intro k t j;have:dh (v::l) k t=dh l (k+1) (jn (some v) t k):=rfl;rw[this,d,Hr];simp only[aB];by_cases b:j=k
  .subst b;rw[ar (by omega),au rfl,au (by omega)];simp
  by_cases c:k+1<=j/\j<k+1+l.length
  .rw[au c,au (by omega),show j-k=(j-(k+1))+1 by omega];simp
  rw[ar c,ar b,ar (by omega)]
def Hs{t:Tr HV}:∀{n k:Nat} {l:ai},mr t n k=some l->l.length=n/\∀i,i<n->fI t (k+i)=l[i]?:=by
 intro n
 induction n with
 |zero=>intro k l h;have:mr t 0 k=some []:=rfl;rw[this]at h;cases h;simp
 |succ n ih=>
  intro k l h;have he:mr t (n+1) k=Option.rec none (λv=>Option.rec none (λl=>some (v::l)) (mr t n (k+1))) (fI t k):=rfl;rw[he]at h;cases c:fI t k with
  |none=>rw[c]at h;cases h
  |some v=>
   cases d:mr t n (k+1)with
   |none=>rw[c,d]at h;cases h
   |some m=>rw[c,d]at h;cases h;obtain⟨a,b⟩:=ih d;refine⟨by simp[a],λi hi=>?_⟩;cases i with|zero=>simpa using c|succ i=>have:=b i (by omega);rw[show k+(i+1)=k+1+i by omega,this];simp
def ei(n:Nat)(v:HV)(r:En)(k:Nat):look (.cons n v r) k=if n=k then some v else look r k:=by have h:look (.cons n v r) k=Bool.rec (look r k) (some v) (Nat.beq n k):=rfl;rw[h];cases hb:Nat.beq n k with|true=>rw[au (n5 hb)]|false=>rw[ar (by rintro rfl;simp at hb)]
def rG(e:En)(k:Nat)(x:HV)(j:Nat):look (e.oE k x) j=if j=k then some x else look e j:=by
 induction e with
 |nil=>
  have h:En.oE .nil k x=.cons k x .nil:=rfl;rw[h,ei];by_cases b:j=k
  .rw[au b,au b.symm]
  rw[ar b,ar (λe=>b e.symm)]
 |cons n v r ih=>
  have h:En.oE (.cons n v r) k x=Bool.rec (.cons n v (r.oE k x)) (.cons n x r) (Nat.beq n k):=rfl;rw[h];cases hb:Nat.beq n k with
  |true=>
   have:=n5 hb;subst this;simp only[ei];by_cases b:j=n
   .simp[b]
   have c:¬n=j:=λe=>b e.symm
   simp[b,c]
  |false=>
   have d:n≠k:=by rintro rfl;simp at hb
   simp only[ei,ih];by_cases b:j=k
   .subst b;rw[ar d,au rfl,au rfl]
   simp[b]
def oL(e:En)(d:bL)(v:HV)(j:Nat):look (e.put d v) j=if d=some j then some v else look e j:=by cases d with|none=>simp[En.put]|some n=>have:e.put (some n) v=.cons n v e:=rfl;rw[this,ei];simp
def rH(a b:Int):ni a b=true↔a=b:=by
 cases a with
 |ofNat x=>cases b with
  |ofNat y=>
   have:ni (.ofNat x) (.ofNat y)=Nat.beq x y:=rfl;rw[this];constructor
   .intro h;rw[n5 h]
   intro h;cases h;exact qJ x
  |negSucc y=>have:ni (.ofNat x) (.negSucc y)=false:=rfl;rw[this];simp
 |negSucc x=>cases b with|ofNat y=>have:ni (.negSucc x) (.ofNat y)=false:=rfl;rw[this];simp|negSucc y=>
   have:ni (.negSucc x) (.negSucc y)=Nat.beq x y:=rfl;rw[this];constructor
   .intro h;rw[n5 h]
   intro h;cases h;exact qJ x
def vy(a b:Int):ni a b=decide (a=b):=by
 by_cases h:a=b
 .rw[(rH a b).2 h];simp[h]
 cases c:ni a b with|true=>exact absurd ((rH a b).1 c) h|false=>simp[h]
def AP(a b:Int):j9 a b=decide (a<=b):=by
 cases a with
 |ofNat x=>cases b with
  |ofNat y=>
   have:j9 (.ofNat x) (.ofNat y)=Nat.ble x y:=rfl;rw[this];by_cases h:x<=y
   .rw[zJ h];simp[h]
   have:Nat.ble x y=false:=by cases c:Nat.ble x y with|true=>exact absurd (Ee c) h|false=>rfl
   rw[this];simp;omega
  |negSucc y=>have:j9 (.ofNat x) (.negSucc y)=false:=rfl;rw[this];simp;omega
 |negSucc x=>cases b with|ofNat y=>have:j9 (.negSucc x) (.ofNat y)=true:=rfl;rw[this];simp;omega|negSucc y=>
   have:j9 (.negSucc x) (.negSucc y)=Nat.ble y x:=rfl;rw[this];by_cases h:y<=x
   .rw[zJ h];simp;omega
   have:Nat.ble y x=false:=by cases c:Nat.ble y x with|true=>exact absurd (Ee c) h|false=>rfl
   rw[this];simp;omega
def oM:∀(a b:az),qo a b=true↔a=b:=by
 intro a
 induction a with
 |nil=>intro b;cases b<;>simp[qo]
 |cons x a c=>intro b;cases b with|nil=>simp[qo]|cons y b=>
   simp only[qo,aL,c,n6];constructor
   .rintro⟨h,rfl⟩;exact⟨n5 h,rfl⟩
   rintro⟨rfl,rfl⟩;exact⟨qJ x,rfl⟩
def Lk(a b:Int):wg a b=a+b:=by unfold wg;split<;>rfl
def Ll(a b:Int):Iz a b=a-b:=by
 unfold Iz
 split
 .rename_i x y;cases h:Nat.ble y x with|true=>have:=Ee h;simp only[cond_true];show(Int.ofNat (x-y))=_;simp;omega|false=>
   have:¬y<=x:=λc=>by rw[zJ c]at h;cases h
   simp only[cond_false];show Int.negSucc (y-(x+1))=_;simp;omega
 rfl
def eb(s:ByteArray):az:=s.data.toList.map UInt8.toNat
def AQ:HV->Value->Bool
 |.int k n,.int c d=>k==c&&n==d
 |.bool b,.bool f=>b==f
 |.str l,.string s=>eb s==l
 |.ah,.slice none 0 0=>true
 |.dE,.pointer none=>true
 |.gY,.nilFunc=>true
 |.fS,.map none=>true
 |.fU,.nilIface=>true
 |_,_=>false
def iY:ai->List Value->Bool
 |[],[]=>true
 |x::r,y::s=>AQ x y&&iY r s
 |_,_=>false
def cW:X->Operand->Bool
 |.t n,.tmp m=>n==m
 |.k (.fn g [] []),.func h=>g==h
 |.k v,.const u=>AQ v u
 |_,_=>false
def fL:List X->List Operand->Bool
 |[],[]=>true
 |x::r,y::s=>cW x y&&fL r s
 |_,_=>false
def qu:Option X->Option Operand->Bool
 |none,none=>true
 |some x,some y=>cW x y
 |_,_=>false
def dM(P:Program)(t:TypeId):Option Bool:=match P.underlying t with|some (.struct _)|some (.array _ _)=>some true|some _=>some false|none=>none
def dI(P:Program)(t:TypeId):bL:=(P.info? t).map (·.size)
def rJ(P:Program)(t:TypeId)(z:ai):Bool:=match(P.info? t).bind (·.zero)with|some v=>iY z v.cells.toList|none=>false
def oN(P:Program)(t:TypeId)(bI:Nat):Bool:=match P.info? t with|some i=>decide (bI*i.bytes<=140737488355328)&&decide (bI<=140737488355328)|none=>false
def T4(P:Program)(t:TypeId)(n:Nat):Bool:=match(P.info? t).bind (·.zero)with|some z=>z.cells.size==n|none=>false
def n7(P:Program)(t:TypeId):Option TypeId:=match P.underlying t with|some (.slice e)=>some e|_=>none
def sU(P:Program)(g:TypeId->Option az):List Field->Nat->Option az
 |[],_=>some []
 |f::r,b=>if f.name != "_" &&f.offset==b then(match g f.type with
   |some l=>if dI P f.type==some l.length then(match sU P g r (b+l.length)with|some m=>some (l++m)|none=>none)else none
   |none=>none)else none
def eY(P:Program):Nat->TypeId->Option az
 |0,_=>none
 |d+1,t=>match P.underlying t with|some (.int _)=>some [0]|some .bool=>some [1]|some .string=>some [2]|some (.struct b)=>if P.stoodInHeld t then none else sU P (eY P d) b.toList 0|_=>none
def eY.wk(P:Program)(d:Nat)(l:List Field)(bj:Nat):Option az:=sU P (eY P d) l bj
def nj(P:Program)(K:Kd)(t:TypeId):Bool:=eY P 8 t==some K.ks&&dM P t==some K.ag
def eK(P:Program)(c:List Value):Nat->List Field->List Pc->List (Nat×Operand)->Nat->Bool
 |_,[],[],[],_=>true
 |i,f::d,.z z::g,l,b=>f.offset==b&&dI P f.type==some z.length&&iY z ((c.drop b).take z.length)&&eK P c (i+1) d g l (b+z.length)
 |i,f::d,.x o n::g,(j,y)::l,b=>f.offset==b&&dI P f.type==some n&&i==j&&cW o y&&eK P c (i+1) d g l (b+n)
 |_,_,_,_,_=>false
def sV:List Pc->Nat
 |[]=>0
 |.z z::r=>z.length+sV r
 |.x _ n::r=>n+sV r
def ba(P:Program):lL->Op->Bool
 |.mv x,.move y=>cW x y
 |.mv x,.assign y=>cW x y
 |.pick c a b,.pick N a' b'=>cW c N&&cW a a'&&cW b b'
 |.alloc z,.alloc t=>rJ P t z
 |.alb t z,.alloc t'=>t==t'&&rJ P t z
 |.box x,.box _ y=>cW x y
 |.fbx x,.box _ y=>cW x y
 |.bsl d q,.buildSlice t n B=>(match n7 P t with|some E=>dI P E==some d&&decide (n*d<=16777216)&&((P.info? E).bind (·.zero)).isSome|none=>false)&&n==q.length&&B.toList.map (·.1)==List.range n&&fL q (B.toList.map (·.2))
 |.fbl d q,.buildSlice t n B=>(match n7 P t with|some E=>dI P E==some d&&decide (n*d<=16777216)&&((P.info? E).bind (·.zero)).isSome|none=>false)&&n==q.length&&B.toList.map (·.1)==List.range n&&fL q (B.toList.map (·.2))
 |.build B,.build t l=>(match P.underlying t with|some (.struct I)=>(match(P.info? t).bind (·.zero)with|some z=>eK P z.cells.toList 0 I.toList B l.toList 0&&decide (z.cells.size=sV B)|none=>false)|_=>false)
 |.ld x none,.load t y=>cW x y&&dM P t==some false
 |.ld x (some n),.load t y=>cW x y&&dM P t==some true&&dI P t==some n
 |.st n x v,.store t y u=>cW x y&&cW v u&&dI P t==some n
 |.fa x O,.fieldAddr t y i=>cW x y&&(match P.underlying t with|some (.struct I)=>(match I[i]?with|some f=>f.offset==O&&(match dI P f.type with|some n=>n != 0|none=>false)|none=>false)|_=>false)
 |.ia x i d,.indexAddr t y j=>cW x y&&cW i j&&(match n7 P t with|some E=>dI P E==some d|none=>false)
 |.idx x i,.index t y j=>cW x y&&cW i j&&(match P.underlying t with|some .string=>true|_=>false)
 |.len k x,.call c=>(match c.callee with|.builtin .len=>true|_=>false)&&(match c.args.toList,c.argTypes.toList with|[y],[t]=>cW x y&&(match k,P.underlying t with|0,some (.slice _)=>true|1,some .string=>true|2,some (.map _ _)=>true|_,_=>false)|_,_=>false)
 |.bin bl op x y,.binOp D t h p _=>op==D&&cW x h&&cW y p&&(match P.underlying t with|some .bool=>bl|some (.int _)|some .string=> !bl|_=>false)
 |.un op x,.unOp D _ y=>op==D&&cW x y
 |.ext x i,.extract y j=>cW x y&&i==j
 |.cnv k x,.convert s t y=>cW x y&&(match P.underlying s,P.underlying t with|some _,some (.int r)=>k==r|_,_=>false)
 |.nck x,.nilCheck y=>cW x y
 |.mm m x y,.call c=>(match c.callee with|.builtin .max=>m|.builtin .min=> !m|_=>false)&&fL [x,y] c.args.toList
 |.mkf g I J,.makeFunc (.func g') Q V=>g==g'&&fL I Q.toList&&fL J V.toList
 |.app d o W x y,.call c=>(match c.callee with|.builtin .append=>true|_=>false)&&fL [x,y] c.args.toList&&(match c.argTypes.toList with
   |[t,u]=>(match n7 P t with|some E=>dI P E==some d&&oN P E o&&T4 P E d&&(match W with|some F=>E==F|none=>true)|none=>false)&&(match P.underlying u with|some (.slice _)=>true|_=>false)
   |_=>false)
 |.aps o W x y,.call c=>(match c.callee with|.builtin .append=>true|_=>false)&&fL [x,y] c.args.toList&&(match c.argTypes.toList with
   |[t,u]=>(match n7 P t with|some E=>dI P E==some 1&&oN P E o&&T4 P E 1&&(match W with|some F=>E==F|none=>true)|none=>false)&&(match P.underlying u with|some .string=>true|_=>false)
   |_=>false)
 |.mks d o z l c,.makeSlice t l' N=>cW l l'&&cW c N&&(match n7 P t with|some E=>dI P E==some d&&oN P E o&&rJ P E z&&z.length==d&&decide (o<=9223372036854775807)|none=>false)
 |.mkm,.makeMap _ none=>true
 |.lkp K m k z ok,.lookup t A r X=>cW m A&&cW k r&&ok==X&&(match P.underlying t with|some (.map T E)=>nj P K T&&(match(P.info? E).bind (·.zero)with|some (.agg J)=>(match z with|.agg l=>iY l J.toList|_=>false)|some v=>AQ z v|none=>false)|_=>false)
 |.mup K m k v,.mapUpdate t A r L=>cW m A&&cW k r&&cW v L&&(match P.underlying t with|some (.map T _)=>nj P K T|_=>false)
 |.mup K m k v,.insert t A r L=>cW m A&&cW k r&&cW v L&&(match P.underlying t with|some (.map T _)=>nj P K T|_=>false)
 |.men K m k z,.mapEntry t A r=>cW m A&&cW k r&&(match P.underlying t with|some (.map T E)=>nj P K T&&(match(P.info? E).bind (·.zero)with|some (.agg J)=>(match z with|.agg l=>iY l J.toList|_=>false)|some v=>AQ z v|none=>false)|_=>false)
 |.mes m i v,.entryStore _ A i' L=>cW m A&&cW i i'&&cW v L
 |.eqs K neg x y,.binOp op t h p _=>cW x h&&cW y p&&(match op with|.eql=> !neg|.neq=>neg|_=>false)&&nj P K t&&K.ag&& !P.eqGuardType P.depth t
 |.niq k neg x,.binOp op t h p _=>(match op with|.eql=> !neg|.neq=>neg|_=>false)&&(match k,P.underlying t with
   |0,some (.slice _)=>(cW x h&&(match p with|.const (.slice none 0 0)=>true|_=>false))||(cW x p&&(match h with|.const (.slice none 0 0)=>true|_=>false))
   |1,some (.map _ _)=>(cW x h&&(match p with|.const (.map none)=>true|_=>false))||(cW x p&&(match h with|.const (.map none)=>true|_=>false))
   |2,some (.func _ _ _)=>(cW x h&&(match p with|.const .nilFunc=>true|_=>false))||(cW x p&&(match h with|.const .nilFunc=>true|_=>false))
   |3,some (.pointer _)=>(cW x h&&(match p with|.const (.pointer none)=>true|_=>false))||(cW x p&&(match h with|.const (.pointer none)=>true|_=>false))
   |_,_=>false)
 |.slc x Y Z mx d,.slice t h G H h1=>cW x h&&qu Y G&&qu Z H&&qu mx h1&&(match n7 P t with|some E=>dI P E==some d|none=>false)
 |.sls x Y Z,.slice t h G H none=>cW x h&&qu Y G&&qu Z H&&(match P.underlying t with|some .string=>true|_=>false)
 |.call f q,.call c=>(match c.callee with|.value (.func g)=>f==g|_=>false)&&fL q c.args.toList&&(match P.funcs[f]?with|some fn=>fn.body.isSome&&fn.name != "runtime.NumGoroutine" |none=>false)
 |.dyn x q,.call c=>(match c.callee with|.value y=>cW x y|_=>false)&&fL q c.args.toList
 |.cis x,.convert s t y=>cW x y&&(match P.underlying s,P.underlying t with|some (.int _),some .string=>true|_,_=>false)
 |.cpy d x y,.call c=>(match c.callee with|.builtin .copy=>true|_=>false)&&fL [x,y] c.args.toList&&(match c.argTypes.toList with
   |t::_=>(match n7 P t with|some E=>dI P E==some d|none=>false)
   |_=>false)
 |.bad,_=>true
 |.cap _,_=>true
 |_,_=>false
def Ef(mq:Array Oper):Option (Nat×Bool)->Option (Nat×Bool)->Bool
 |none,none=>true
 |some (t,b),some (j,c)=>b==c&&(match mq[j]?with|some o=>o.dst==some t|none=>false)
 |_,_=>false
def T5(b:Nat):bL->Bool
 |some d=>d<b
 |none=>true
def Lm(keep outs:az):bL->Bool
 |some d=>outs.contains d|| !keep.contains d
 |none=>true
def zj(P:Program)(b:Nat)(keep outs:az)(mq:Array Oper)(o:aR)(go:Oper):Bool:=
 o.d==go.dst&&T5 b go.dst&&Lm keep outs go.dst&&ba P o.op go.op&&Ef mq o.g go.guard
def rK(P:Program)(b:Nat)(keep outs:az)(mq:Array Oper):List aR->List Oper->Bool
 |[],[]=>true
 |o::r,go::s=>zj P b keep outs mq o go&&rK P b keep outs mq r s
 |_,_=>false
def Ht(l keep:az):Bool:=l.all keep.contains
structure Pl where
 b:Nat
 s:Nat
abbrev Bt:=Ky->Option Pl
def du(w:World)(b k:Nat):Option Value:=w.cell? ⟨b,k,none⟩
def iN{w:World}{b k:Nat}{cs:Array Value}{E:TypeId}{fr:Nat×Nat}(h:w.heap[b]?=some (.cells cs E fr)):du w b k=cs[k]?:=by simp[du,World.cell?,h]
def nk{w w':World}{b k:Nat}(h:w'.heap[b]?=w.heap[b]?):du w' b k=du w b k:=by simp[du,World.cell?,h]
def lt_of_block{w:World}{b:Nat}{o:Obj}(h:w.heap[b]?=some o):b<w.heap.size:=(rL.1 h).1
def rM{w:World}{b k:Nat}{v:Value}(h:du w b k=some v):b<w.heap.size:=by
 rcases jF b w.heap.size with c|d
 .exact c
 simp[du,World.cell?,Array.getElem?_eq_none d]at h
def IB(fr:Nat×Nat)(n:Nat):Prop:=fr=(0,0)∨n<=fr.1
def oO(w:World)(b:Nat)(E:TypeId)(n:Nat):Prop:=∃c d,w.heap[b]?=some (.cells c E d)/\c.size=n
def Has(w:World)(b n:Nat):Prop:=∃E,oO w b E n
def HV.one:HV->Bool
 |.agg _|.cO _|.undef=>false
 |_=>true
inductive HR(β:Bt)(N:aG)(w:World):HV->Value->Prop
 |int (k n):HR β N w (.int k n) (.int k n)
 |bool (b):HR β N w (.bool b) (.bool b)
 |str (s:ByteArray):HR β N w (.str (eb s)) (.string s)
 |ah:HR β N w .ah (.slice none 0 0)
 |dE:HR β N w .dE (.pointer none)
 |gY:HR β N w .gY .nilFunc
 |fS:HR β N w .fS (.map none)
 |fU:HR β N w .fU .nilIface
 |undef:HR β N w .undef Go.undef
 |ptr (o:Ky) (k:Nat) (pl:Pl) (h:β o=some pl) (hk:pl.s<=k):HR β N w (.ptr o k) (.pointer (some ⟨pl.b,k-pl.s,none⟩))
 |sl (o:Ky) (bj len sz cap n:Nat) (pl:Pl) (h:β o=some pl) (hs:pl.s<=bj) (hl:len<=cap) (hb:Has w pl.b n) (hc:bj-pl.s+cap*sz<=n):
   HR β N w (.sl o bj len sz) (.slice (some ⟨pl.b,bj-pl.s,none⟩) len cap)
 |pY (o:Ky) (bj sz:Nat) (b k:Nat):HR β N w (.sl o bj 0 sz) (.slice (some ⟨b,k,none⟩) 0 0)
 |mp (o:Ky) (pl:Pl) (h:β o=some pl):HR β N w (.mp o) (.map (some pl.b))
 |fn (f:FuncId) (fi ca:ai) (fs cps:Array Value) (h1:fs.size=fi.length) (h2:cps.size=ca.length)
   (h3:∀(i:Nat) (v:HV) (u:Value),fi[i]?=some v->fs[i]?=some u->HR β N w v u)
   (h4:∀(i:Nat) (v:HV) (u:Value),ca[i]?=some v->cps[i]?=some u->HR β N w v u):HR β N w (.fn f fi ca) (.func (.func f) fs cps)
 |iK (l:Ky) (pl:Pl) (h:β l=some pl):HR β N w (.iK l) (.func (.yield pl.b) #[] #[])
 |agg (l:ai) (cs:Array Value) (h0:∀v∈l,v.one=true) (h1:cs.size=l.length) (h2:∀(i:Nat) (v:HV) (u:Value),l[i]?=some v->cs[i]?=some u->HR β N w v u):HR β N w (.agg l) (.agg cs)
 |cO (l:ai) (cs:Array Value) (h1:cs.size=l.length) (h2:∀(i:Nat) (v:HV) (u:Value),l[i]?=some v->cs[i]?=some u->HR β N w v u):HR β N w (.cO l) (.tuple cs)
 |psl0 (A:Option Addr) (cap:Nat) (hn:A=none->cap=0):HR β N w (.psl []) (.slice A 0 cap)
 |psl (ak:aP) (b o cap sz:Nat) (g:Nat->Nat->Value) (hN:¬N b) (hlt:b<w.heap.size) (hcap:ak.length<=cap)
   (hsz:∀(i:Nat) (row:ai),ak[i]?=some row->row.length=sz) (h0:∀row∈ak,∀v∈row,v.one=true)
   (hc:∀i j,i<ak.length->j<sz->du w b (o+(i*sz+j))=some (g i j))
   (hv:∀(i:Nat) (row:ai) (j:Nat) (a:HV),ak[i]?=some row->row[j]?=some a->HR β N w a (g i j)):
   HR β N w (.psl ak) (.slice (some ⟨b,o,none⟩) ak.length cap)
 |aw (cells:ai) (b o:Nat) (g:Nat->Value) (h0:∀v∈cells,v.one=true) (hN:¬N b) (hlt:b<w.heap.size)
   (hc:∀j,j<cells.length->du w b (o+j)=some (g j))
   (hv:∀(j:Nat) (a:HV),cells[j]?=some a->HR β N w a (g j)):
   HR β N w (.aw cells) (.pointer (some ⟨b,o,none⟩))
structure cJ(N:aG)(w w':World):Prop where
 size:w.heap.size<=w'.heap.size
 same:∀b,b<w.heap.size->¬N b->w'.heap[b]?=w.heap[b]?
 has:∀b E n,oO w b E n->oO w' b E n
def cJ.refl(N:aG)(w:World):cJ N w w:=⟨aV _,λ_ _ _=>rfl,λ_ _ _ h=>h⟩
def cJ.cell{N:aG}{w w':World}{b k:Nat}{v:Value}(h:cJ N w w')(d:¬N b)(c:du w b k=some v):du w' b k=some v:=by rw[nk (h.same b (rM c) d)];exact c
def ie(c N:aG)(w:World):Prop:=∀b,b<w.heap.size->c b->N b
def ie.refl(N:aG)(w:World):ie N N w:=λ_ _ h=>h
def Bt.le(β b:Bt):Prop:=∀o pl,β o=some pl->b o=some pl
def Bt.le_refl(β:Bt):β.le β:=λ_ _ h=>h
def Bt.le_trans{a b c:Bt}(h:a.le b)(d:b.le c):a.le c:=λo pl x=>d o pl (h o pl x)
def HR.keep{β Q:Bt}{N T:aG}{w w':World}(B:β.le Q)(V:ie T N w)(q:cJ N w w'){v:HV}{u:Value}(h:HR β N w v u):HR Q T w' v u:=by induction h with|int k n=>exact .int k n|bool b=>exact .bool b|str s=>exact .str s|ah=>exact .ah|dE=>exact .dE|gY=>exact .gY|fS=>exact .fS|fU=>exact .fU|undef=>exact .undef|ptr o k pl h D=>exact .ptr o k pl (B _ _ h) D|sl o m len r cap n pl h W X Y t=>exact .sl o m len r cap n pl (B _ _ h) W X (let⟨E,Z⟩:=Y;⟨E,q.has _ _ _ Z⟩) t|pY o m r b k=>exact .pY o m r b k|mp o pl h=>exact .mp o pl (B _ _ h)|fn f fi ca fs F y h2 _ _ G H=>exact .fn f fi ca fs F y h2 G H|iK l pl h=>exact .iK l pl (B _ _ h)|agg l I h0 y _ p=>exact .agg l I h0 y p|cO l I y _ p=>exact .cO l I y p|psl0 A cap hn=>exact .psl0 A cap hn|psl J b o cap r g c d z L h0 t hv p=>exact .psl J b o cap r g (λx=>c (V b d x)) (dJ d q.size) z L h0 (λi j hi O=>q.cell c (t i j hi O)) p|aw cells b o g h0 c d t hv p=>exact .aw cells b o g h0 (λx=>c (V b d x)) (dJ d q.size) (λj O=>q.cell c (t j O)) p
def eQ(β:Bt)(N:aG)(w:World)(l:ai)(vs:List Value):Prop:=vs.length=l.length/\∀(j:Nat) (v:HV) (u:Value),l[j]?=some v->vs[j]?=some u->HR β N w v u
def eQ.keep{β b:Bt}{N c:aG}{w w':World}(d:β.le b)(f:ie c N w)(g:cJ N w w'){l:ai}{vs:List Value}(h:eQ β N w l vs):eQ b c w' l vs:=
 ⟨h.1,λj v u i k=>(h.2 j v u i k).keep d f g⟩
def eQ.nil{β:Bt}{N:aG}{w:World}:eQ β N w [] []:=⟨rfl,by simp⟩
def eQ.cons{β:Bt}{N:aG}{w:World}{v:HV}{u:Value}{l:ai}{f:List Value}(h:HR β N w v u)(g:eQ β N w l f):eQ β N w (v::l) (u::f):=by refine⟨by simp[g.1],λj a b c d=>?_⟩;cases j with|zero=>simp at c d;subst c;subst d;exact h|succ j=>exact g.2 j a b (by simpa using c) (by simpa using d)
def eQ.append{β:Bt}{N:aG}{w:World}{l l':ai}{vs b:List Value}(h:eQ β N w l vs)(g:eQ β N w l' b):eQ β N w (l++l') (vs++b):=by
 refine⟨by simp[h.1,g.1],λj p u d f=>?_⟩;rcases jF j l.length with c|c
 .rw[dD c]at d;rw[dD (by rw[h.1];exact c)]at f;exact h.2 j p u d f
 rw[iZ c]at d;rw[iZ (by rw[h.1];exact c),h.1]at f;exact g.2 _ p u d f
def eQ.split{β:Bt}{N:aG}{w:World}{v:HV}{l:ai}{vs:List Value}(h:eQ β N w (v::l) vs):∃u c,vs=u::c/\HR β N w v u/\eQ β N w l c:=by cases vs with|nil=>have:=h.1;simp at this|cons u c=>refine⟨u,c,rfl,h.2 0 v u rfl rfl,by have:=h.1;simpa using this,λj a b d f=>h.2 (j+1) a b (by simpa using d) (by simpa using f)⟩
def iO(s:HS)(β:Bt)(b:Nat):Prop:=∃o ob pl,aj s.h o=some ob/\β o=some pl/\pl.b=b
def Live(M:aG)(s:HS)(β:Bt)(b:Nat):Prop:=M b∨iO s β b
variable{M:aG}
def nm(β:Bt)(N:aG)(w:World)(keep:az)(e:En)(tm:Array Value):Prop:=∀t v,look e t=some v->t∈keep/\HR β N w v (tm.getD t Go.undef)
def nm.keep{β b:Bt}{N c:aG}{w w':World}{keep:az}{e:En}{tm:Array Value}(f:β.le b)(g:ie c N w)(i:cJ N w w')(h:nm β N w keep e tm):nm b c w' keep e tm:=
 λt v d=>⟨(h t v d).1,(h t v d).2.keep f g i⟩
def U3:Nat->LoopState
 |0=>.ready
 |2=>.busy
 |_=>.done
def Eh:Option HC->Option (Option Code)
 |none=>some none
 |some .ret=>some (some .ret)
 |some (.exit i)=>some (some (.exit i))
 |_=>none
structure eR where
 rel:Nat->az->HC->Code->Prop
 fx:Nat->Option Obj
inductive CA(C:eR)(β:Bt)(N:aG)(w:World)(pl:Pl):Ob->Prop
 |cells (t:Tr HV) (lo hi:Nat) (g:Ky) (cs:Array Value) (E:TypeId) (fr:Nat×Nat) (hs:pl.s<=lo) (hb:w.heap[pl.b]?=some (.cells cs E fr)) (hf:IB fr cs.size) (hn:hi-pl.s<=cs.size)
   (hc:∀k v,lo<=k->k<hi->fI t k=some v->v.one=true/\∃u,cs[k-pl.s]?=some u/\HR β N w v u):CA C β N w pl (.cells t lo hi g)
 |mp (es:List (HV×HV)) (K9:Array MapEntry) (hb:w.heap[pl.b]?=some (.map K9 es.length)) (hn:K9.size=es.length)
   (hc:∀(i:Nat) (k v:HV),es[i]?=some (k,v)->∃e,K9[i]?=some e/\HR β N w k e.key/\HR β N w v e.val/\e.born=i):CA C β N w pl (.mp es)
 |loop (st:Nat) (wc:Option HC) (tm:En) (ps:az) (gV body:HC) (r:Loop) (nt:Nat) (keep:az) (hb:w.heap[pl.b]?=some (.loop r)) (gw:r.state=U3 st) (hp:Eh wc=some r.pending)
   (htm:nm β N w keep tm r.tmps) (hnt:r.tmps.size=nt) (hps:r.params.toList=ps) (hk:∀p∈ps,p∈keep/\p<nt) (hnd:ps.Nodup) (ha:C.rel nt keep gV r.assign) (hbd:C.rel nt keep body r.body):CA C β N w pl (.loop st wc tm ps gV body)
def CA.keep{C:eR}{β L:Bt}{N O:aG}{w w':World}(m:β.le L)(n:ie O N w)(o:cJ N w w'){pl:Pl}(f:w'.heap[pl.b]?=w.heap[pl.b]?){ob:Ob}(h:CA C β N w pl ob):CA C L O w' pl ob:=by cases h with|cells t Q p g T E V W j X x y=>exact .cells t Q p g T E V W (f.trans j) X x λk v Y Z h3=>let⟨q,u,a,b⟩:=y k v Y Z h3;⟨q,u,a,b.keep m n o⟩|mp es z j x y=>exact .mp es z (f.trans j) x λi k v p=>let⟨e,a,b,c,d⟩:=y i k v p;⟨e,a,b.keep m n o,c.keep m n o,d⟩|loop st l tm ps A body r nt keep j B hp D F G H I ha J=>exact .loop st l tm ps A body r nt keep (f.trans j) B hp (D.keep m n o) F G H I ha J
def zk(w:World)(b:Nat)(E:TypeId)(n:Nat):Prop:=∃m,oO w b E m/\(n=0∨m=n)
structure bW(M:aG)(C:eR)(β:Bt)(s:HS)(w:World):Prop where
 lt:∀o pl,β o=some pl->o.toNat<s.nx.toNat/\pl.b<w.heap.size
 obj:∀o ob,aj s.h o=some ob->∃pl,β o=some pl/\CA C β (Live M s β) w pl ob
 apart:∀o o' ob jV pl pl',aj s.h o=some ob->aj s.h o'=some jV->β o=some pl->β o'=some pl'->o≠o'->pl.b=pl'.b->
  pl.s=pl'.s/\∃t lo hi g t' lo' hi',ob=.cells t lo hi g/\jV=.cells t' lo' hi' g
 qK:∀o t lo hi g,aj s.h o=some (.cells t lo hi g)->∃ms,aj s.gr g=some ms/\o∈ms
 vg:∀g ms,aj s.gr g=some ms->g.toNat<s.nx.toNat
 mlt:∀b,M b->b<w.heap.size
 sO:∀b,M b->¬iO s β b
 zl:∀o E n,aj s.ty o=some (E,n)->∃pl,β o=some pl/\zk w pl.b E n/\(n≠0->pl.s=0)
def zk.keep{N:aG}{w w':World}(c:cJ N w w'){b:Nat}{E:TypeId}{n:Nat}(h:zk w b E n):zk w' b E n:=let⟨m,d,f⟩:=h;⟨m,c.has _ _ _ d,f⟩
def Live.lt{C:eR}{β:Bt}{s:HS}{w:World}(h:bW M C β s w){b:Nat}(c:Live M s β b):b<w.heap.size:=by
 rcases c with d|⟨o,ob,pl,_,f,rfl⟩
 .exact h.mlt b d
 exact(h.lt o pl f).2
structure Ext(M:aG)(β:Bt)(s:HS)(w:World)(β':Bt)(s':HS)(w':World):Prop where
 le:β.le β'
 keeps:cJ (Live M s β) w w'
 less:ie (Live M s' β') (Live M s β) w
 os:w'.os=w.os
 tape:w'.tape=w.tape
 output:w'.output=w.output
 loops:∀(b:Nat) (r:Loop),w.heap[b]?=some (.loop r)->∃r',w'.heap[b]?=some (.loop r')
 nx:s.nx.toNat<=s'.nx.toNat
 oP:∀b,M b->w'.heap[b]?=w.heap[b]?
def Ext.refl(β:Bt)(s:HS)(w:World):Ext M β s w β s w:=⟨Bt.le_refl _,cJ.refl _ _,ie.refl _ _,rfl,rfl,rfl,λ_ r h=>⟨r,h⟩,aV _,λ_ _=>rfl⟩
def Ext.trans{β β' c:Bt}{s s' s'':HS}{w w' d:World}(h:Ext M β s w β' s' w')(k:Ext M β' s' w' c s'' d):Ext M β s w c s'' d where
 le:=Bt.le_trans h.le k.le
 keeps:=⟨fu h.keeps.size k.keeps.size,λb hb f=>(k.keeps.same b (dJ hb h.keeps.size) (λx=>f (h.less b hb x))).trans (h.keeps.same b hb f),λb E n g=>k.keeps.has b E n (h.keeps.has b E n g)⟩
 less:=λb hb x=>h.less b hb (k.less b (dJ hb h.keeps.size) x)
 os:=k.os.trans h.os
 tape:=k.tape.trans h.tape
 output:=k.output.trans h.output
 loops:=λb r i=>let⟨r',j⟩:=h.loops b r i;k.loops b r' j
 nx:=fu h.nx k.nx
 oP:=λb hm=>(k.oP b hm).trans (h.oP b hm)
def HR.ext{β b:Bt}{s s':HS}{w w':World}(h:Ext M β s w b s' w'){v:HV}{u:Value}(c:HR β (Live M s β) w v u):HR b (Live M s' b) w' v u:=c.keep h.le h.less h.keeps
def eQ.ext{β b:Bt}{s s':HS}{w w':World}(h:Ext M β s w b s' w'){v:ai}{u:List Value}(c:eQ β (Live M s β) w v u):eQ b (Live M s' b) w' v u:=c.keep h.le h.less h.keeps
def nm.ext{β b:Bt}{s s':HS}{w w':World}(h:Ext M β s w b s' w'){keep:az}{e:En}{tm:Array Value}(c:nm β (Live M s β) w keep e tm):nm b (Live M s' b) w' keep e tm:=c.keep h.le h.less h.keeps
def jG(C:eR)(N:aG)(w:World):Prop:=∀b o,C.fx b=some o->w.heap[b]?=some o/\¬N b
def jG.ext{C:eR}{β d:Bt}{s s':HS}{w w':World}(h:Ext M β s w d s' w')(i:jG C (Live M s β) w):jG C (Live M s' d) w':=λb o j=>by obtain⟨f,g⟩:=i b o j;have c:=lt_of_block f;exact⟨(h.keeps.same b c g).trans f,λk=>g (h.less b c k)⟩
def IC{w:World}{x:Obj}{b n:Nat}{E:TypeId}(h:oO w b E n):oO {w with heap:=w.heap.push x} b E n:=by obtain⟨d,f,c,g⟩:=h;refine⟨d,f,?_,g⟩;have:=lt_of_block c;show(w.heap.push x)[b]?=_;rw[ID,ar (by omega)];exact c
def gN(w:World)(x:Obj){b:Nat}(h:b<w.heap.size):({w with heap:=w.heap.push x}:World).heap[b]?=w.heap[b]?:=by show(w.heap.push x)[b]?=_;rw[ID,ar (by omega)]
def cJ.push(N:aG)(w:World)(x:Obj):cJ N w {w with heap:=w.heap.push x}:=
 ⟨by simp,λb c _=>gN w x c,λ_ _ _ h=>IC h⟩
def Ext.push{w:World}(hm:∀b,M b->b<w.heap.size)(β:Bt)(s:HS)(x:Obj):Ext M β s w β s {w with heap:=w.heap.push x} where
 le:=Bt.le_refl _
 keeps:=cJ.push _ _ _
 less:=ie.refl _ _
 os:=rfl
 tape:=rfl
 output:=rfl
 loops:=λb r c=>⟨r,by rw[gN w x (lt_of_block c)];exact c⟩
 nx:=aV _
 oP:=λb hb=>gN w x (hm b hb)
def bW.push{C:eR}{β:Bt}{s:HS}{w:World}(h:bW M C β s w)(x:Obj):bW M C β s {w with heap:=w.heap.push x} where
 lt:=λo pl ho=>⟨(h.lt o pl ho).1,by have:=(h.lt o pl ho).2;simp;omega⟩
 obj:=λo ob ho=>let⟨pl,c,d⟩:=h.obj o ob ho;⟨pl,c,d.keep (Bt.le_refl _) (ie.refl _ _) (cJ.push _ _ _) (gN w x (h.lt o pl c).2)⟩
 apart:=h.apart
 qK:=h.qK
 vg:=h.vg
 mlt:=λb hb=>by have:=h.mlt b hb;simp;omega
 sO:=h.sO
 zl:=λo E n ho=>let⟨pl,c,d,f⟩:=h.zl o E n ho;⟨pl,c,d.keep (cJ.push (λ_=>True) w x),f⟩
def bW.drawn{C:eR}{β:Bt}{s:HS}{w:World}(h:bW M C β s w){w':World}(c:w'.heap=w.heap):bW M C β s w':=by have i:cJ (Live M s β) w w':=⟨by rw[c];exact aV _,λ_ _ _=>by rw[c],λb E n ⟨j,k,d,f⟩=>⟨j,k,by rw[c];exact d,f⟩⟩;exact⟨λo pl g=>by rw[c];exact h.lt o pl g,λo ob g=>let⟨pl,d,f⟩:=h.obj o ob g;⟨pl,d,f.keep (Bt.le_refl _) (ie.refl _ _) i (by rw[c])⟩,h.apart,h.qK,h.vg,λb l=>by rw[c];exact h.mlt b l,h.sO,λo E n g=>let⟨pl,d,f,m⟩:=h.zl o E n g;⟨pl,d,f.keep i,m⟩⟩
def Ext.drawn{β:Bt}{s:HS}{w w':World}(c:w'.heap=w.heap)(d:w'.os=w.os)(f:w'.tape=w.tape)(g:w'.output=w.output):Ext M β s w β s w':=
 ⟨Bt.le_refl _,⟨by rw[c];exact aV _,λ_ _ _=>by rw[c],λb E n ⟨i,j,d,f⟩=>⟨i,j,by rw[c];exact d,f⟩⟩,ie.refl _ _,d,f,g,λ_ r h=>⟨r,by rw[c];exact h⟩,aV _,λ_ _=>by rw[c]⟩
def Bt.add(β:Bt)(o:Ky)(pl:Pl):Bt:=λk=>if k=o then some pl else β k
def Bt.jW{β:Bt}{o:Ky}{pl:Pl}(h:β o=none):β.le (β.add o pl):=λk p b=>by
 unfold Bt.add;split
 .rename_i e;subst e;rw[h]at b;cases b
 exact b
def bW.fresh{C:eR}{β:Bt}{s:HS}{w:World}(h:bW M C β s w):β s.nx=none:=by cases b:β s.nx with|none=>rfl|some pl=>exact absurd (h.lt _ _ b).1 (ec _)
def bW.dead{C:eR}{β:Bt}{s:HS}{w:World}(h:bW M C β s w):aj s.h s.nx=none:=by cases b:aj s.h s.nx with|none=>rfl|some ob=>obtain⟨pl,c,_⟩:=h.obj _ _ b;exact absurd (h.lt _ _ c).1 (ec _)
def bW.OI{C:eR}{β:Bt}{s:HS}{w:World}(h:bW M C β s w):aj s.gr s.nx=none:=by cases b:aj s.gr s.nx with|none=>rfl|some c=>exact absurd (h.vg _ _ b) (ec _)
def bW.IE{C:eR}{β:Bt}{s:HS}{w:World}(h:bW M C β s w){pl:Pl}{ty:Tr (Nat×Nat)}{j:Bt}(k:j=β.add s.nx pl)
  (f:ty=s.ty∨∃E n,ty=av (some (E,n)) s.nx s.ty/\zk w pl.b E n/\(n≠0->pl.s=0)):
  ∀o E n,aj ty o=some (E,n)->∃pl,j o=some pl/\zk w pl.b E n/\(n≠0->pl.s=0):=by
 subst k;intro o E n d;rcases f with rfl|⟨p,q,rfl,g,i⟩
 .obtain⟨c,g,i⟩:=h.zl o E n d;exact⟨c,Bt.jW h.fresh _ _ g,i⟩
 rw[af]at d;by_cases e:o=s.nx
 .rw[au e]at d;cases d;exact⟨pl,by simp[Bt.add,e],g,i⟩
 rw[ar e]at d;obtain⟨c,l,m⟩:=h.zl o E n d;exact⟨c,Bt.jW h.fresh _ _ l,m⟩
def bW.F9{C:eR}{β:Bt}{s:HS}{w:World}(h:bW M C β s w){b:Nat}(T:b<w.heap.size)(J:¬Live M s β b){ob:Ob}{gr:Tr cg}{ty:Tr (Nat×Nat)}(L:ty=s.ty∨∃E n,ty=av (some (E,n)) s.nx s.ty/\zk w b E n)
  (N:CA C (β.add s.nx ⟨b,0⟩) (λx=>x=b∨Live M s β x) w ⟨b,0⟩ ob)
  (V:∀o jV,aj s.h o=some jV->∃pl,β o=some pl/\CA C β (λx=>x=b∨Live M s β x) w pl jV)
  (m:(∃t r u,ob=.cells t r u s.nx/\gr=av (some [s.nx]) s.nx s.gr)∨((∀t r u g,ob≠ .cells t r u g)/\gr=s.gr)):
  bW M C (β.add s.nx ⟨b,0⟩) {h:=av (some ob) s.nx s.h,nx:=s.nx.succ,gr:=gr,ty:=ty} w:=by
 have k:=h.fresh;have hle:β.le (β.add s.nx ⟨b,0⟩):=Bt.jW k;have j:∀x,Live M {h:=av (some ob) s.nx s.h,nx:=s.nx.succ,gr:=gr,ty:=ty} (β.add s.nx ⟨b,0⟩) x->x=b∨Live M s β x:=by
  rintro x (H|⟨o,jV,pl,c,d,rfl⟩)
  .exact .inr (.inl H)
  simp only[af]at c;unfold Bt.add at d;by_cases f:o=s.nx
  .simp only[f,bp,bQ]at d;subst d;exact .inl rfl
  simp only[f,bD]at c d;exact .inr (.inr ⟨o,jV,pl,c,d,rfl⟩)
 refine⟨λo pl f=>?_,λo jV f=>?_,λo I z A B D c d v p F q=>?_,λo t r u g f=>?_,λg G l=>?_,h.mlt,?_,h.IE (pl:=⟨b,0⟩) rfl (L.imp id λ⟨E,n,c,d⟩=>⟨E,n,c,d,λ_=>rfl⟩)⟩
 .unfold Bt.add at f;rw[Ky.aS];by_cases i:o=s.nx
  .simp only[i,bp,bQ]at f;subst f;subst i;exact⟨by omega,T⟩
  simp only[i,bD]at f;have:=h.lt o pl f;omega
 .simp only[af]at f;by_cases i:o=s.nx
  .simp only[i,bp,bQ]at f;subst f;subst i;exact⟨⟨b,0⟩,by simp[Bt.add],N.keep (Bt.le_refl _) (λx _ O=>j x O) (cJ.refl _ _) rfl⟩
  simp only[i,bD]at f;obtain⟨pl,c,d⟩:=V o jV f;exact⟨pl,hle _ _ c,d.keep hle (λx _ O=>j x O) (cJ.refl _ _) rfl⟩
 .simp only[af]at c d;unfold Bt.add at v p;by_cases Q:o=s.nx
  .simp only[Q,bp,bQ]at c v;have y:I≠s.nx:=λy=>F (Q.trans y.symm)
   simp only[y,bD]at d p;subst v;exact absurd (.inr ⟨I,A,D,d,p,q.symm⟩) J
  simp only[Q,bD]at c v;by_cases y:I=s.nx
  .simp only[y,bp,bQ]at d p;subst p;exact absurd (.inr ⟨o,z,B,c,v,q⟩) J
  simp only[y,bD]at d p;exact h.apart o I z A B D c d v p F q
 .simp only[af]at f;by_cases i:o=s.nx
  .simp only[i,bp,bQ]at f;rcases m with⟨Y,W,X,c,rfl⟩|⟨c,_⟩
   .rw[c]at f;cases f;exact⟨[s.nx],by simp[af],by simp[i]⟩
   exact absurd f (c t r u g)
  simp only[i,bD]at f;obtain⟨G,c,d⟩:=h.qK o t r u g f;rcases m with⟨_,_,_,_,rfl⟩|⟨_,rfl⟩
  .refine⟨G,?_,d⟩;simp only[af];rw[ar (λe=>by subst e;rw[h.OI]at c;cases c)];exact c
  exact⟨G,c,d⟩
 .rw[Ky.aS];rcases m with⟨_,_,_,_,rfl⟩|⟨_,rfl⟩
  .simp only[af]at l;by_cases i:g=s.nx
   .subst i;omega
   simp only[i,bD]at l;have:=h.vg g G l;omega
  have:=h.vg g G l;omega
 rintro x H ⟨o,jV,pl,c,d,rfl⟩
 simp only[af]at c;unfold Bt.add at d;by_cases f:o=s.nx
 .simp only[f,bp,bQ]at d;subst d;exact J (.inl H)
 simp only[f,bD]at c d;exact h.sO _ H ⟨o,jV,pl,c,d,rfl⟩
def bW.newObj{C:eR}{β:Bt}{s:HS}{w:World}(h:bW M C β s w){x:Obj}{ob:Ob}{gr:Tr cg}{ty:Tr (Nat×Nat)}(j:ty=s.ty∨∃E n,ty=av (some (E,n)) s.nx s.ty/\zk {w with heap:=w.heap.push x} w.heap.size E n)
  (k:CA C (β.add s.nx ⟨w.heap.size,0⟩) (λb=>b=w.heap.size∨Live M s β b) {w with heap:=w.heap.push x} ⟨w.heap.size,0⟩ ob)
  (l:(∃t m p,ob=.cells t m p s.nx/\gr=av (some [s.nx]) s.nx s.gr)∨((∀t m p g,ob≠ .cells t m p g)/\gr=s.gr)):
  bW M C (β.add s.nx ⟨w.heap.size,0⟩) {h:=av (some ob) s.nx s.h,nx:=s.nx.succ,gr:=gr,ty:=ty} {w with heap:=w.heap.push x}/\
  Ext M β s w (β.add s.nx ⟨w.heap.size,0⟩) {h:=av (some ob) s.nx s.h,nx:=s.nx.succ,gr:=gr,ty:=ty} {w with heap:=w.heap.push x}:=by
 have r:¬Live M s β w.heap.size:=λu=>ec _ (Live.lt h u)
 refine⟨(h.push x).F9 (by simp) r j k (λo c i=>?_) l,?_⟩
 .obtain⟨pl,f,d⟩:=h.obj o c i;refine⟨pl,f,d.keep (Bt.le_refl _) (λb q v=>v.resolve_left (by omega)) (cJ.push _ _ _) (gN w x (h.lt o pl f).2)⟩
 refine⟨Bt.jW h.fresh,cJ.push _ _ _,?_,rfl,rfl,rfl,(Ext.push h.mlt β s x).loops,by rw[Ky.aS];omega,(Ext.push h.mlt β s x).oP⟩
 rintro b q (y|⟨o,c,pl,f,d,rfl⟩)
 .exact .inl y
 simp only[af]at f;unfold Bt.add at d;by_cases i:o=s.nx
 .simp only[i,bp,bQ]at d;subst d;exact absurd q (ec _)
 simp only[i,bD]at f d;exact .inr ⟨o,c,pl,f,d,rfl⟩
def bW.kill{C:eR}{β:Bt}{s:HS}{w:World}(h:bW M C β s w)(o:Ky):bW M C β {h:=av none o s.h,nx:=s.nx,gr:=s.gr,ty:=s.ty} w:=by
 have m:∀b,Live M {h:=av none o s.h,nx:=s.nx,gr:=s.gr,ty:=s.ty} β b->Live M s β b:=by
  rintro b (j|⟨i,ob,pl,c,d,rfl⟩)
  .exact .inl j
  simp only[af]at c
  split at c
  .cases c
  exact .inr ⟨i,ob,pl,c,d,rfl⟩
 refine⟨h.lt,λi ob f=>?_,λa b ob k pl l c d=>?_,λi t n p g f=>?_,h.vg,h.mlt,?_,h.zl⟩
 rotate_right
 .rintro b j ⟨i,ob,pl,c,d,rfl⟩
  simp only[af]at c
  split at c
  .cases c
  exact h.sO _ j ⟨i,ob,pl,c,d,rfl⟩
 .simp only[af]at f
  split at f
  .cases f
  obtain⟨pl,c,d⟩:=h.obj i ob f;exact⟨pl,c,d.keep (Bt.le_refl _) (λb _ q=>m b q) (cJ.refl _ _) rfl⟩
 .simp only[af]at c d
  split at c
  .cases c
  split at d
  .cases d
  exact h.apart a b ob k pl l c d
 simp only[af]at f
 split at f
 .cases f
 exact h.qK i t n p g f
def Ext.kill{β:Bt}{s:HS}{w:World}(o:Ky):Ext M β s w β {h:=av none o s.h,nx:=s.nx,gr:=s.gr,ty:=s.ty} w:=by
 refine⟨Bt.le_refl _,cJ.refl _ _,?_,rfl,rfl,rfl,λ_ r h=>⟨r,h⟩,aV _,λ_ _=>rfl⟩
 rintro b _ (d|⟨f,ob,pl,c,g,rfl⟩)
 .exact .inl d
 simp only[af]at c
 split at c
 .cases c
 exact .inr ⟨f,ob,pl,c,g,rfl⟩
@[simp]def IF{α β:Type}(f:α->β)(d:β):bR none f d=d:=rfl
@[simp]def dP{α β:Type}(a:α)(f:α->β)(d:β):bR (some a) f d=f a:=rfl
@[simp]def U4{β:Type}(x y:β):gW true x y=x:=rfl
@[simp]def T6{β:Type}(x y:β):gW false x y=y:=rfl
def jH{α:Type}{b:Bool}{x:Option α}{v:α}(h:gW b x none=some v):b=true/\x=some v:=by
 cases b with
 |true=>exact⟨rfl,h⟩
 |false=>cases h
def jI{α β:Type}{o:Option α}{f:α->Option β}{v:β}(h:bR o f none=some v):∃a,o=some a/\f a=some v:=by
 cases o with
 |none=>cases h
 |some a=>exact⟨a,rfl,h⟩
@[simp]def Ln(s:HS):rv s none=.bad:=rfl
@[simp]def AR(s:HS)(v:HV):rv s (some v)=.v v s:=rfl
def CB(n:Nat)(e:En):bw (.t n) e=look e n:=rfl
def NW(v:HV)(e:En):bw (.k v) e=some v:=rfl
def ej{a b:Nat}:Nat.ble a b=true↔a<=b:=⟨Ee,zJ⟩
def ck{a b:Nat}:Nat.blt a b=true↔a<b:=by unfold Nat.blt;rw[ej];rfl
def bf{a b:Nat}:Nat.beq a b=true↔a=b:=⟨n5,λh=>by subst h;exact qJ a⟩
def Ob.nq{α:Type}{b:Ob}{f:Tr HV->Nat->Nat->Ky->Option α}{v:α}(h:b.vt f none=some v):∃t c d g,b=.cells t c d g/\f t c d g=some v:=by
 cases b with
 |cells t c d g=>exact⟨t,c,d,g,rfl,h⟩
 |mp i=>cases h
 |loop=>cases h
def HS.Hu{s:HS}{o:Ky}{k:Nat}{v:HV}(h:s.cell o k=some v):∃t c d g,aj s.h o=some (.cells t c d g)/\c<=k/\k<d/\fI t k=some v:=by obtain⟨b,f,i⟩:=jI h;obtain⟨t,c,d,g,rfl,j⟩:=Ob.nq i;obtain⟨l,m⟩:=jH j;obtain⟨n,p⟩:=jH m;exact⟨t,c,d,g,f,ej.1 l,ck.1 n,p⟩
def HS.kB{s:HS}{o:Ky}{k n:Nat}{l:ai}(h:s.bF o k n=some l):∃t c d g,aj s.h o=some (.cells t c d g)/\c<=k/\k+n<=d/\l.length=n/\∀i,i<n->fI t (k+i)=l[i]?:=by obtain⟨b,f,j⟩:=jI h;obtain⟨t,c,d,g,rfl,m⟩:=Ob.nq j;obtain⟨p,q⟩:=jH m;obtain⟨r,u⟩:=jH q;obtain⟨v,x⟩:=Hs u;exact⟨t,c,d,g,f,ej.1 p,ej.1 r,v,x⟩
def jJ{α:Type}:∀(n:Nat) (l:List α),gX n l=l.take n
 |0,_=>by simp[gX]
 |_+1,[]=>by simp[gX]
 |n+1,x::r=>by simp[gX,jJ n r]
def mz{α:Type}:∀(n:Nat) (l:List α),iL n l=l.drop n
 |0,_=>by simp[iL]
 |_+1,[]=>by simp[iL]
 |n+1,x::r=>by simp[iL,mz n r]
section sound
variable{M:aG}{C:eR}{P:Program}{β:Bt}{s:HS}{w:World}{e:En}{a:Act}
def dN(β:Bt)(N:aG)(w:World)(e:En)(a:Act):Prop:=∀t v,look e t=some v->HR β N w v (a.tmps.getD t Go.undef)
def dN.ext{b:Bt}{s':HS}{w':World}(h:Ext M β s w b s' w')(c:dN β (Live M s β) w e a):dN b (Live M s' b) w' e a:=λt v d=>(c t v d).ext h
def nr{v:HV}{u:Value}(h:AQ v u=true)(β:Bt)(N:aG)(w:World):HR β N w v u:=by
 unfold AQ at h
 split at h
 .simp only[aL,bU]at h;obtain⟨rfl,rfl⟩:=h;exact .int _ _
 .simp only[bU]at h;subst h;exact .bool _
 .simp only[bU]at h;subst h;exact .str _
 .exact .ah
 .exact .dE
 .exact .gY
 .exact .fS
 .exact .fU
 cases h
def dK:∀{l:ai} {b:List Value} (_:iY l b=true) (β:Bt) (N:aG) (w:World),eQ β N w l b
 |[],[],_,_,_,_=>.nil
 |_::_,_::_,h,β,N,w=>by simp only[iY,aL]at h;exact .cons (nr h.1 β N w) (dK h.2 β N w)
 |[],_::_,h,_,_,_=>by simp[iY]at h
 |_::_,[],h,_,_,_=>by simp[iY]at h
def aH(i:dN β (Live M s β) w e a){x:X}{y:Operand}(b:cW x y=true){v:HV}(f:bw x e=some v):HR β (Live M s β) w v (a.eval y):=by
 cases x with
 |t n=>cases y<;>simp only[cW,df,bU]at b;subst b;exact i _ _ f
 |k c=>
  rw[NW]at f;cases f;unfold cW at b
  split at b
  .rename_i d;cases d
  .rename_i g h d;have:=bU.1 b;subst this;cases d;exact .fn _ [] [] #[] #[] rfl rfl (by simp) (by simp)
  .rename_i d;cases d;exact nr b _ _ _
  cases b
def pZ(x:X)(r:List X)(e:En):gx (x::r) e=(bw x e).bind λv=>(gx r e).bind λl=>some (v::l):=by
 have h:gx (x::r) e=Option.rec (motive:=λ_=>Option ai) none (λv=>Option.rec (motive:=λ_=>Option ai) none (λl=>some (v::l)) (gx r e)) (bw x e):=rfl;rw[h];cases bw x e with
 |none=>rfl
 |some v=>cases gx r e<;>rfl
def kW(d:dN β (Live M s β) w e a):∀{xs:List X} {ys:List Operand} (_:fL xs ys=true) {l:ai} (_:gx xs e=some l),eQ β (Live M s β) w l (ys.map a.eval):=by
 intro xs
 induction xs with
 |nil=>
  intro ys b l c;cases ys with
  |nil=>have:gx [] e=some []:=rfl;rw[this]at c;cases c;exact .nil
  |cons y r=>simp[fL]at b
 |cons x r f=>intro ys b l c;cases ys with|nil=>simp[fL]at b|cons y t=>simp only[fL,aL]at b;rw[pZ]at c;simp only[ag3,bQ]at c;obtain⟨v,g,m,h,rfl⟩:=c;exact .cons (aH d b.1 g) (f b.2 h)
def ov(M:aG)(C:eR)(P:Program)(β:Bt)(s:HS)(w:World)(a:Act)(go:Oper):cX->Prop
 |.v v s'=>∃u d g,((execOp a.eval go).run P w=.ok (.value u) d∨((execOp a.eval go).run P w=.ok .skip d/\u=Go.undef))/\bW M C g s' d/\Ext M β s w g s' d/\HR g (Live M s' g) d v u
 |.call f args=>∃c:List Value,(execOp a.eval go).run P w=.ok (.enter f c.toArray) w/\eQ β (Live M s β) w args c
 |.round l args=>∃(pl:Pl) (c:List Value),β l=some pl/\eQ β (Live M s β) w args c/\∀r:Loop,w.heap[pl.b]?=some (.loop r)->r.params.size=c.length->
   (execOp a.eval go).run P w=.ok (.round pl.b r.fn ((r.params.zip c.toArray).foldl (λtmps (t,x)=>tmps.setIfInBounds t x) r.tmps) r.assign r.body) w
 |.bad=>True
def ov.val{go:Oper}{v:HV}{u:Value}(b:bW M C β s w)(h:(execOp a.eval go).run P w=.ok (.value u) w)(c:HR β (Live M s β) w v u):ov M C P β s w a go (.v v s):=
 ⟨u,w,β,.inl h,b,Ext.refl _ _ _,c⟩
def HR.one{N:aG}{v:HV}{u:Value}(h:HR β N w v u)(b:v.one=true):u.oneCell'=true:=by cases h<;>first|rfl|(simp[HV.one]at b)
def HR.single{N:aG}{v:HV}{u:Value}(h:HR β N w v u)(b:v.one=true):u.cells= #[u]:=by cases h<;>first|rfl|(simp[HV.one]at b)
def zm{v:HV}{l:ai}(h:cellsOf v=some l):(v.one=true/\l=[v])∨v=.agg l:=by
 cases v<;>first
  |(have:some _=some l:=h;cases this;exact .inl ⟨rfl,rfl⟩)
  |(have:some _=some l:=h;cases this;exact .inr rfl)
  |cases h
def HR.cells{N:aG}{v:HV}{u:Value}(h:HR β N w v u){l:ai}(c:cellsOf v=some l):eQ β N w l u.cells.toList/\∀x∈l,x.one=true:=by
 rcases zm c with⟨b,rfl⟩|rfl
 .rw[h.single b];exact⟨.cons h .nil,by simpa using b⟩
 cases h with|agg _ i h0 b d=>exact⟨⟨by simpa[Value.cells]using b,λj x y f g=>d j x y f (by simpa[Value.cells]using g)⟩,h0⟩
def eQ.AS{N:aG}{l:ai}{c:List Value}(h:eQ β N w l c)(f:∀x∈l,x.one=true):∀u∈c,u.oneCell'=true:=by
 intro u g;obtain⟨i,d,rfl⟩:=oQ g;have b:i<l.length:=by rw[<-h.1];exact d
 exact(h.2 i l[i] c[i] (aX b) (aX d)).one (f _ (cb b))
def kO{t:TypeId}{q:Bool}(b:dM P t=some q):(isAgg t).run P w=.ok q w:=by
 unfold dM at b;unfold isAgg underlying;cases c:P.underlying t with
 |none=>simp[c]at b
 |some d=>simp only[c]at b;cases d<;>simp at b<;>subst b<;>simp[c]
def ga{t:TypeId}{n:Nat}(b:dI P t=some n):(sizeOf t).run P w=.ok n w:=by unfold dI at b;unfold sizeOf typeInfo;cases c:P.info? t with|none=>simp[c]at b|some d=>simp[c]at b;simp[c,b]
def iP{t E:TypeId}(b:n7 P t=some E):P.underlying t=some (.slice E):=by
 unfold n7 at b
 split at b
 .cases b;assumption
 cases b
def gA(b k j:Nat):Addr.add ⟨b,k,none⟩ j=⟨b,k+j,none⟩:=by
 unfold Addr.add
 split
 .rename_i h;subst h;rfl
 rfl
def run_loadCellsFrom(P:Program)(w:World)(b o:Nat):∀(n i:Nat) (c:Array Value) (g:Nat->Value),(∀j,j<n->du w b (o+(i+j))=some (g j))->
  (loadCellsFrom ⟨b,o,none⟩ i n c).run P w=.ok (c++Array.ofFn (n:=n) λj=>g j) w:=by
 intro n
 induction n with
 |zero=>intro i c g _;simp[loadCellsFrom]
 |succ n f=>
  intro i c g d;have h0:=d 0 (by omega);simp only[iB,du]at h0;simp only[loadCellsFrom,Sem.run_bind,run_load,gA,h0,Result.andThen_ok];rw[f (i+1) (c.push (g 0)) (λj=>g (j+1)) λj h=>by have:=d (j+1) (by omega);rw[show i+1+j=i+(j+1) by omega];exact this]
  congr 1
  apply sW;simp[List.ofFn_succ]
def run_loadCells(P:Program)(w:World)(b o n:Nat)(g:Nat->Value)(c:∀j,j<n->du w b (o+j)=some (g j)):(loadCells ⟨b,o,none⟩ n).run P w=.ok (Array.ofFn (n:=n) λj=>g j) w:=by
 have:=run_loadCellsFrom P w b o n 0 #[] g λj d=>by rw[bn];exact c j d
 simpa[loadCells]using this
def bW.bF(G:bW M C β s w){o:Ky}{pl:Pl}(q:β o=some pl){k n:Nat}{l:ai}(h:s.bF o k n=some l):
  pl.s<=k/\l.length=n/\(∀x∈l,x.one=true)/\∃g:Nat->Value,(∀j,j<n->du w pl.b (k-pl.s+j)=some (g j))/\∀j v,l[j]?=some v->HR β (Live M s β) w v (g j):=by
 obtain⟨t,V,p,W,H,X,Y,z,I⟩:=HS.kB h;obtain⟨J,A,L⟩:=G.obj _ _ H;rw[q]at A;cases A;cases L with
 |cells _ _ _ _ B E Z hs N hf hn O=>
  have c:∀i,i<n->∃v,l[i]?=some v/\v.one=true/\∃u,B[k-pl.s+i]?=some u/\HR β (Live M s β) w v u:=by
   intro i p;have m:i<l.length:=by omega
   refine⟨l[i],aX m,?_⟩;have D:=I i p;rw[aX m]at D;have:=O (k+i) l[i] (by omega) (by omega) D;rw[show k+i-pl.s=k-pl.s+i by omega]at this;exact this
  refine⟨by omega,z,λx Q=>?_,λj=>B.getD (k-pl.s+j) Go.undef,λj T=>?_,λj v F=>?_⟩
  .obtain⟨i,p,rfl⟩:=oQ Q;obtain⟨v,f,r,_⟩:=c i (by omega);rw[aX p]at f;cases f;exact r
  .obtain⟨v,f,r,u,d,_⟩:=c j T;rw[iN N,d];simp[fM,d]
  obtain⟨v',f,r,u,d,y⟩:=c j (by rw[<-z];exact(aU.1 F).1);rw[F]at f;cases f;simp only[fM,d,gB];exact y
def bW.cell(g:bW M C β s w){o:Ky}{pl:Pl}(c:β o=some pl){k:Nat}{v:HV}(h:s.cell o k=some v):
  pl.s<=k/\v.one=true/\∃u,du w pl.b (k-pl.s)=some u/\HR β (Live M s β) w v u:=by
 obtain⟨t,z,A,B,i,j,l,m⟩:=HS.Hu h;obtain⟨n,f,p⟩:=g.obj _ _ i;rw[c]at f;cases f;cases p with|cells _ _ _ _ D E F G q H I r=>obtain⟨x,u,y,d⟩:=r k v j l m;exact⟨by omega,x,u,by rw[iN q,y],d⟩
def U5(d:bW M C β s w)(f:dN β (Live M s β) w e a){go:Oper}{x:X}(c:ba P (.mv x) go.op=true):ov M C P β s w a go (TZ x e s):=by
 unfold TZ;cases g:bw x e with
 |none=>trivial
 |some v=>
  cases b:go.op<;>rw[b]at c<;>try cases c
  all_goals
   simp only[ba]at c;exact .val d (by simp[execOp,b]) (aH f c g)
def Lo(i:bW M C β s w)(g:dN β (Live M s β) w e a){go:Oper}{c x y:X}(f:ba P (.pick c x y) go.op=true):ov M C P β s w a go (lM c x y e s):=by
 cases d:go.op<;>rw[d]at f<;>try cases f
 rename_i l n o;simp only[ba,aL]at f;unfold lM;cases m:bw c e with
 |none=>trivial
 |some v=>
  have j:=aH g f.1.1 m
  try simp only[dP]
  generalize k:a.eval l=u at j;cases j with
  |bool b=>
   cases b with
   |true=>show ov M C P β s w a go (rv s (bw x e));cases h:bw x e with|none=>trivial|some v=>exact .val i (by simp[execOp,d,k,asBool]) (aH g f.1.2 h)
   |false=>show ov M C P β s w a go (rv s (bw y e));cases h:bw y e with|none=>trivial|some v=>exact .val i (by simp[execOp,d,k,asBool]) (aH g f.2 h)
  |_=>trivial
def HR.Ga{N:aG}{l:ai}{g:Nat->Value}{k:Nat}(h:k<=l.length)(h0:∀v∈l,v.one=true)(f:∀j v,l[j]?=some v->HR β N w v (g j)):HR β N w (.agg (l.take k)) (.agg (Array.ofFn (n:=k) λj=>g j)):=by
 refine .agg _ _ (λv b=>h0 v (ag1 b)) (by simp;omega) λi v u b c=>?_
 have d:i<k:=by have:=(aU.1 b).1;simp at this;omega
 simp only[Array.getElem?_ofFn,d,dite_true,bQ]at c;subst c;exact f i v (by rw[rN d]at b;exact b)
def ldT(P:Program)(t:TypeId):bL->Prop
 |none=>dM P t=some false
 |some k=>dM P t=some true/\dI P t=some k
def wm(y:bW M C β s w){t:TypeId}{n:bL}(f:ldT P t n){p:HV}{u:Value}(D:HR β (Live M s β) w p u){v:HV}
  (h:p.kS (λo k=>s.load o k n) (my p n)=some v):∃A,u=.pointer (some A)/\∃z,(loadVar t A).run P w=.ok z w/\HR β (Live M s β) w v z:=by
 cases D with
 |ptr o k pl i J=>
  have q:s.load o k n=some v:=h;refine⟨_,rfl,?_⟩;cases n with
  |none=>have d:s.cell o k=some v:=q;obtain⟨_,_,z,c,r⟩:=y.cell i d;exact⟨z,by simp only[du]at c;simp[loadVar,kO f,c],r⟩
  |some m=>have d:bR (s.bF o k m) (λl=>some (.agg l)) none=some v:=q;obtain⟨l,c,r⟩:=jI d;cases r;obtain⟨L,N,E,g,F,G⟩:=y.bF i c;refine⟨.agg (Array.ofFn (n:=m) λj=>g j),by simp[loadVar,kO f.1,ga f.2,run_loadCells P w _ _ _ g F],?_⟩;have:=HR.Ga (k:=m) (by omega) E G;rwa[fD (by omega)]at this
 |aw cells b o g h0 O H x B=>
  have q:my (.aw cells) n=some v:=h;refine⟨_,rfl,?_⟩;cases n with
  |none=>have d:zE cells 0=some v:=q;rw[wj]at d;have c:=x 0 (aU.1 d).1;simp only[iB,du]at c;exact⟨g 0,by simp[loadVar,kO f,c],B 0 v d⟩
  |some m=>
   have d:gW (Nat.ble m (aM cells)) (some (.agg (gX m cells))) none=some v:=q;obtain⟨c,r⟩:=jH d;cases r;rw[ej,bK]at c;have I:=run_loadCells P w b o m g λj Q=>x j (by omega)
   refine⟨.agg (Array.ofFn (n:=m) λj=>g j),by simp[loadVar,kO f.1,ga f.2,I],?_⟩;rw[jJ];exact HR.Ga c h0 B
 |_=>cases h
def CC(p:HV)(f:Ky->Nat->bS)(d:bS):p.kS (λo k=>rv s (f o k)) (rv s d)=rv s (p.kS f d):=by cases p<;>rfl
def OJ{x:X}:∀{n:bL} {op:Op} (_:ba P (.ld x n) op=true),∃t y,op=.load t y/\cW x y=true/\ldT P t n
 |none,.load t y,b=>by simp only[ba,aL,bU]at b;exact⟨_,_,rfl,b.1,b.2⟩
 |some k,.load t y,b=>by simp only[ba,aL,bU]at b;exact⟨_,_,rfl,b.1.1,b.1.2,b.2⟩
def U6(c:bW M C β s w)(d:dN β (Live M s β) w e a){go:Oper}{x:X}{n:bL}(f:ba P (.ld x n) go.op=true):ov M C P β s w a go (NR x n e s):=by
 obtain⟨t,y,b,g,h⟩:=OJ f;unfold NR;cases i:bw x e with
 |none=>trivial
 |some p=>have j:=aH d g i;show ov M C P β s w a go (p.kS (λo k=>rv s (s.load o k n)) (rv s (my p n)));rw[CC];cases l:p.kS (λo k=>s.load o k n) (my p n)with|none=>trivial|some v=>obtain⟨u,m,z,q,r⟩:=wm (P:=P) c h j l;exact .val c (by simp[execOp,b,m,Instr.loadAt,Instr.sureAddr,q]) r
def U7(B:bW M C β s w)(E:dN β (Live M s β) w e a){go:Oper}{x:X}{bj:Nat}(c:ba P (.fa x bj) go.op=true):ov M C P β s w a go (Is x bj e s):=by
 cases h:go.op<;>rw[h]at c<;>try cases c
 rename_i t y i;simp only[ba,aL]at c;obtain⟨F,c⟩:=c;have key:∀b k,a.eval y=.pointer (some ⟨b,k,none⟩)->(execOp a.eval go).run P w=.ok (.value (.pointer (some ⟨b,k+bj,none⟩))) w:=by
  intro b k d
  split at c
  .rename_i N m
   split at c
   .rename_i f G;simp only[aL,bU]at c;obtain⟨rfl,c⟩:=c
    split at c
    .rename_i n H;have q:n≠0:=by simpa using c
     simp[execOp,h,d,Instr.fieldAt,underlying,m,G,Instr.sureAddr,fieldPlace,ga H,q,gA]
    cases c
   cases c
  cases c
 unfold Is;cases I:bw x e with
 |none=>trivial
 |some p=>
  have d:=aH E F I
  try simp only[dP]
  generalize D:a.eval y=u at d;cases d with
  |ptr o k pl r O=>refine .val (v:=.ptr o (k+bj)) B (key _ _ D) ?_;rw[show k-pl.s+bj=k+bj-pl.s by omega];exact .ptr o (k+bj) pl r (by omega)
  |aw cells b o g h0 J z A d=>
   show ov M C P β s w a go (rv s (gW (Nat.ble bj (aM cells)) (some (.aw (iL bj cells))) none));cases L:Nat.ble bj (aM cells)with
   |false=>trivial
   |true=>
    rw[ej,bK]at L;refine .val (v:=.aw (iL bj cells)) B (key _ _ D) ?_;rw[mz];refine .aw _ _ _ (λj=>g (bj+j)) (λv d=>h0 v (OK d)) J z (λj l=>?_) λj v l=>?_
    .rw[Ej]at l;rw[OL];exact A _ (by omega)
    rw[kX]at l;exact d _ _ l
  |_=>trivial
def U8(I:bW M C β s w)(he:dN β (Live M s β) w e a){go:Oper}{x i:X}{sz:Nat}(hc:ba P (.ia x i sz) go.op=true):ov M C P β s w a go (Ck x i sz e s):=by
 cases h:go.op<;>rw[h]at hc<;>try cases hc
 rename_i t y j;simp only[ba,aL]at hc;obtain⟨⟨hx,hi⟩,hc⟩:=hc
 split at hc
 case h_2=>cases hc
 rename_i E hE;have hs:=bU.1 hc;have hE:=iP hE;have key:∀b k len cap f (n:Nat),a.eval y=.slice (some ⟨b,k,none⟩) len cap->a.eval j=.int f (.ofNat n)->n<len->(execOp a.eval go).run P w=.ok (.value (.pointer (some ⟨b,k+n*sz,none⟩))) w:=by
  intro b k len cap f n hv B D;have hlt:(Int.ofNat n)<(len:Int):=by simpa using D
  have h0:(0:Int)<=Int.ofNat n:=by simp
  simp only[execOp,h,hv,B];simp[Instr.indexAt,asIntOf,underlying,hE,D,ga hs,gA]
 unfold Ck;cases D:bw x e with
 |none=>trivial
 |some p=>
  have hv:=aH he hx D
  try simp only[dP]
  generalize J:a.eval y=u at hv;have l:∀(o:Ky) (bj len D4:Nat),ov M C P β s w a go (HV.OC (.sl o bj len D4) (λo bj len D4=>bR (bw i e) (λq=>q.asInt (λ_ z=>Int.rec (motive:=λ_=>cX) (λn=>gW (Nat.blt n len) (gW (Nat.beq sz D4) (.v (.ptr o (Nat.add bj (Nat.mul n sz))) s) .bad) .bad) (λ_=>.bad) z) .bad) .bad) (rv s (T1 (.sl o bj len D4) (bw i e) sz)))↔
    ov M C P β s w a go (bR (bw i e) (λq=>q.asInt (λ_ z=>Int.rec (motive:=λ_=>cX) (λn=>gW (Nat.blt n len) (gW (Nat.beq sz D4) (.v (.ptr o (Nat.add bj (Nat.mul n sz))) s) .bad) .bad) (λ_=>.bad) z) .bad) .bad):=λ_ _ _ _=>Iff.rfl
  cases hv with
  |sl o bj len D4 cap n pl F N hl hb O=>
   refine(l _ _ _ _).2 ?_;cases m:bw i e with
   |none=>trivial
   |some q=>
    have A:=aH he hi m
    try simp only[dP]
    generalize d:a.eval j=Q at A;cases A with
    |int f z=>
     cases z with
     |negSucc z=>trivial
     |ofNat z=>
      show ov M C P β s w a go (gW (Nat.blt z len) (gW (Nat.beq sz D4) (.v (.ptr o (bj+z*sz)) s) .bad) .bad);cases c:Nat.blt z len with
      |false=>trivial
      |true=>cases h4:Nat.beq sz D4 with|false=>trivial|true=>rw[ck]at c;refine .val (v:=.ptr o (bj+z*sz)) I (key _ _ _ _ _ _ J d c) ?_;rw[show bj-pl.s+z*sz=bj+z*sz-pl.s by omega];exact .ptr o _ pl F (by omega)
    |_=>trivial
  |pY o bj D4 b k=>
   refine(l _ _ _ _).2 ?_;cases m:bw i e with
   |none=>trivial
   |some q=>
    try simp only[dP]
    cases q with
    |int f z=>
     cases z with
     |negSucc z=>trivial
     |ofNat z=>show ov M C P β s w a go (gW (Nat.blt z 0) (gW (Nat.beq sz D4) (.v (.ptr o (bj+z*sz)) s) .bad) .bad);cases c:Nat.blt z 0 with|false=>trivial|true=>rw[ck]at c;omega
    |_=>trivial
  |psl0=>
   show ov M C P β s w a go (rv s (T1 (.psl []) (bw i e) sz));cases m:bw i e with
   |none=>trivial
   |some q=>
    cases q with
    |int f z=>cases z<;>trivial
    |_=>trivial
  |psl ak b o cap D4 g T hlt hcap hsz h0 G hv=>
   show ov M C P β s w a go (rv s (T1 (.psl ak) (bw i e) sz));cases m:bw i e with
   |none=>trivial
   |some q=>
    have A:=aH he hi m;generalize d:a.eval j=Q at A;cases A with
    |int f z=>
     cases z with
     |negSucc z=>trivial
     |ofNat z=>
      show ov M C P β s w a go (rv s (match zE ak z with|some r=>gW (Nat.beq (aM r) sz) (some (.aw r)) none|none=>none));rw[wj];cases c:ak[z]?with
      |none=>trivial
      |some row=>
       simp only[];cases h4:Nat.beq (aM row) sz with
       |false=>trivial
       |true=>
        rw[bf,bK]at h4;have L:=(aU.1 c).1;have h5:=hsz z row c;refine .val (v:=.aw row) I (key _ _ _ _ _ _ J d L) ?_;have:sz=D4:=by omega
        subst this;refine .aw row b _ (λH=>g z H) (h0 row (cE c)) T hlt (λH B=>?_) λH v B=>hv _ _ _ _ c B
        rw[OL];exact G _ _ L (by omega)
    |_=>trivial
  |_=>trivial
end sound
def zK{s s':ByteArray}(h:s.toList=s'.toList):s=s':=by rw[ByteArray.toList_eq,ByteArray.toList_eq]at h;cases s;cases s';simp only[ByteArray.mk.injEq];exact OM.1 h
def CD{s s':ByteArray}(h:eb s=eb s'):s=s':=by apply zK;rw[ByteArray.toList_eq,ByteArray.toList_eq];exact(IG (λa b c=>IH.1 c)).1 h
def gC(s:ByteArray):(eb s).length=s.size:=by unfold eb;rw[bz,Array.length_toList];rfl
def CE(s s':ByteArray):eb (s++s')=eb s++eb s':=by unfold eb;rw[ByteArray.data_append,Array.toList_append,eU]
def CG:∀a b:List UInt8,uo (a.map UInt8.toNat) (b.map UInt8.toNat)=Op.bytesLess a b
 |[],[]=>rfl
 |[],_::_=>rfl
 |_::_,[]=>rfl
 |a::x,b::y=>by
  simp only[bX,uo,Op.bytesLess];rw[CG x y];have d:Nat.blt a.toNat b.toNat=decide (a<b):=by
   by_cases h:a<b
   .rw[ck.2 (zL.1 h)];simp[h]
   cases c:Nat.blt a.toNat b.toNat with|true=>exact absurd (zL.2 (ck.1 c)) h|false=>simp[h]
  have f:Nat.beq a.toNat b.toNat=(a==b):=by
   by_cases h:a=b
   .subst h;simp
   cases c:Nat.beq a.toNat b.toNat with|true=>exact absurd (IH.1 (bf.1 c)) h|false=>simp[h]
  rw[d,f];by_cases h:a<b<;>simp[h]
def Ek(s s':ByteArray):uo (eb s) (eb s')=Op.bytesLess s.toList s'.toList:=by unfold eb;rw[CG,ByteArray.toList_eq,ByteArray.toList_eq]
def sX(s s':ByteArray):qo (eb s) (eb s')=(s.toList==s'.toList):=by
 by_cases h:s=s'
 .subst h;rw[(oM _ _).2 rfl];simp
 cases b:qo (eb s) (eb s')with|true=>exact absurd (CD ((oM _ _).1 b)) h|false=>symm;simp only[beq_eq_false_iff_ne,ne_eq];exact λe=>h (zK e)
def vh(a b:List UInt8):(!Op.bytesLess b a)=(Op.bytesLess a b||a==b):=by
 induction a generalizing b with
 |nil=>cases b<;>simp[Op.bytesLess]
 |cons x a i=>
  cases b with
  |nil=>simp[Op.bytesLess]
  |cons y b=>
   simp only[Op.bytesLess];rcases wo x.toNat y.toNat with h|h|h
   .have d:x<y:=zL.2 h;have f:¬y<x:=λc=>by have:=zL.1 c;omega
    have j:¬y=x:=λc=>by subst c;omega
    have g:¬x=y:=λc=>by subst c;omega
    simp[d,f,j]
   .have:=IH.1 h;subst this;have d:¬x<x:=λc=>by have:=zL.1 c;omega
    have:=i b;simp only[d,kY,wq,El,j7,List.cons_beq_cons];exact this
   have d:y<x:=zL.2 h;have f:¬x<y:=λc=>by have:=zL.1 c;omega
   have g:¬x=y:=λc=>by subst c;omega
   simp[d,f,g]
def wrap64(n:Int)(f: -9223372036854775808<=n)(g:n<9223372036854775808):IntKind.i64.wrap n=n:=by
 have b:((2:Int)^IntKind.i64.bits)=18446744073709551616:=rfl;have c:((2:Int)^(IntKind.i64.bits-1))=9223372036854775808:=rfl;have d:IntKind.i64.signed=true:=rfl;unfold IntKind.wrap;simp only[b,c,d,j7,bY]
 split<;>omega
def II(m:Nat)(h:m<9223372036854775808):IntKind.i64.wrap (Int.ofNat m)=Int.ofNat m:=by rw[ns];exact wrap64 _ (by omega) (by omega)
def IJ(m:Nat)(h:m<9223372036854775808):IntKind.i64.wrap (Int.negSucc m)=Int.negSucc m:=wrap64 _ (by rw[ON];omega) (by rw[ON];omega)
def zM{q:Bool}{a b:Int}(h:q=true->a=b):(bif q then a else b)=b:=by cases q with|false=>rfl|true=>exact h rfl
def rO(k:IntKind)(n:Int):bT k n=k.wrap n:=by
 unfold bT
 split
 .exact zM λb=>(II _ (ck.1 b)).symm
 .exact zM λb=>(IJ _ (ck.1 b)).symm
 rfl
def IK(k:IntKind)(d:jo k=true)(m b:Nat)(h:m<9223372036854775808)(o:b<9223372036854775808):
  k.wrap ((BitVec.ofInt k.bits (Int.ofNat m)&&& BitVec.ofInt k.bits (Int.ofNat b)).toNat:Int)=Int.ofNat (Nat.land m b):=by
 have c:k.bits=64:=by cases k<;>simp[jo]at d<;>rfl
 have p:m&&& b<=m:=Nat.and_le_left;have f:(BitVec.ofInt k.bits (Int.ofNat m)&&& BitVec.ofInt k.bits (Int.ofNat b)).toNat=m&&& b:=by rw[c];rw[BitVec.toNat_and,ns,ns,BitVec.ofInt_natCast,BitVec.ofInt_natCast,BitVec.toNat_ofNat,BitVec.toNat_ofNat,Em (by omega),Em (by omega)]
 rw[f];have g:Nat.land m b=m&&& b:=rfl;rw[g,ns];have i:((2:Int)^k.bits)=18446744073709551616:=by rw[c];rfl
 have j:((2:Int)^(k.bits-1))=9223372036854775808:=by rw[c];rfl
 unfold IntKind.wrap;simp only[i,j];have l:(((m&&& b:Nat):Int)%18446744073709551616)=((m&&& b:Nat):Int):=by omega
 rw[l]
 split
 .rename_i n;simp only[aL,bY]at n;omega
 rfl
def OO(a b:Int):decide (a<b)= !decide (b<=a):=by by_cases h:b<=a<;>simp[h]<;>omega
def jK:Obj->Bool
 |.cells .. =>false
 |_=>true
def eL{P:Program}{w:World}{r:Nat}{o:Obj}(h:w.heap[r]?=some o)(b:jK o=true):(getObj r).run P w=.ok o w:=by unfold getObj;simp only[Sem.run,h];cases o<;>first|rfl|(simp[jK]at b)
section sound
variable{M:aG}{C:eR}{P:Program}{β:Bt}{s:HS}{w:World}{e:En}{a:Act}
def OP(k:bW M C β s w)(he:dN β (Live M s β) w e a){go:Oper}{x i:X}(hc:ba P (.idx x i) go.op=true):ov M C P β s w a go (hIdx x i e s):=by
 cases f:go.op<;>rw[f]at hc<;>try cases hc
 rename_i t l m;simp only[ba,aL]at hc;obtain⟨⟨hx,hi⟩,hc⟩:=hc
 split at hc
 case h_2=>cases hc
 rename_i ht;unfold hIdx;cases o:bw x e with
 |none=>trivial
 |some p=>
  have hv:=aH he hx o;generalize r:a.eval l=u at hv;cases hv with
  |str b=>
   show ov M C P β s w a go (bR (bw i e) (λq=>q.asInt (λ_ z=>Int.rec (motive:=λ_=>cX) (λn=>bR (zE (eb b) n) (λb=>.v (.int .u8 (.ofNat b)) s) .bad) (λ_=>.bad) z) .bad) .bad);cases y:bw i e with
   |none=>trivial
   |some q=>
    have j:=aH he hi y;generalize g:a.eval m=B at j;cases j with
    |int D z=>
     cases z with
     |negSucc z=>trivial
     |ofNat z=>
      show ov M C P β s w a go (bR (zE (eb b) z) (λb=>.v (.int .u8 (.ofNat b)) s) .bad);rw[wj];cases d:(eb b)[z]?with
      |none=>trivial
      |some c=>
       have hlt:z<b.size:=by rw[<-gC];exact(aU.1 d).1
       have A:b[z]?=some b[z]:=getElem?_pos b z hlt;have h:c=b[z].toNat:=by
        unfold eb at d;rw[fV]at d;have hl:z<b.data.toList.length:=by simpa using hlt
        rw[aX hl]at d;simp only[me,bQ]at d;rw[<-d];rfl
       subst h;refine .val (v:=.int .u8 (.ofNat b[z].toNat)) k ?_ (.int _ _);simp[execOp,f,r,g,Instr.index,asIntOf,underlying,ht,A]
    |_=>trivial
  |_=>trivial
def OQ(l:bW M C β s w)(N:dN β (Live M s β) w e a){go:Oper}{k:Nat}{x:X}(i:ba P (.len k x) go.op=true):ov M C P β s w a go (Cr k x e s):=by
 cases j:go.op<;>rw[j]at i<;>try cases i
 rename_i I;simp only[ba,aL]at i;obtain⟨J,i⟩:=i
 split at J
 case h_2=>cases J
 rename_i d
 split at i
 case h_2=>cases i
 rename_i y t O Q;simp only[aL]at i;obtain⟨T,i⟩:=i;have c:I.args= #[y]:=by rw[<-Array.toList_inj];exact O
 have f:I.argTypes= #[t]:=by rw[<-Array.toList_inj];exact Q
 unfold Cr;cases V:bw x e with
 |none=>trivial
 |some p=>
  have m:=aH N T V;show ov M C P β s w a go (bR (Lj k s p) (λn=>.v (.int .i64 (.ofNat n)) s) .bad);generalize B:a.eval y=u at m
  split at i
  .rename_i E q;have key:∀A n cap,u=.slice A n cap->(execOp a.eval go).run P w=.ok (.value (.int .i64 n)) w:=by intro A n cap m;simp[execOp,j,resolve,d,c,f,invoke,builtin,Builtin.len_,underlying,q,B,m,goInt]
   cases m with|ah=>exact .val (v:=.int .i64 (.ofNat 0)) l (key _ _ _ rfl) (.int _ _)|sl o W len Y cap n pl r hs hl z D=>exact .val (v:=.int .i64 (.ofNat len)) l (key _ _ _ rfl) (.int _ _)|pY=>exact .val (v:=.int .i64 (.ofNat 0)) l (key _ _ _ rfl) (.int _ _)|psl0=>exact .val (v:=.int .i64 (.ofNat 0)) l (key _ _ _ rfl) (.int _ _)|psl F b o cap Y g=>refine .val (v:=.int .i64 (.ofNat (aM F))) l (key _ _ _ rfl) ?_;rw[bK];exact .int _ _|_=>trivial
  .rename_i q;cases m with
   |str b=>
    refine .val (v:=.int .i64 (.ofNat (aM (eb b)))) (u:=.int .i64 b.size) l ?_ ?_
    .simp[execOp,j,resolve,d,c,f,invoke,builtin,Builtin.len_,underlying,q,B,goInt]
    rw[bK,gC];exact .int _ _
   |_=>trivial
  .rename_i K E q;cases m with
   |fS=>exact .val (v:=.int .i64 (.ofNat 0)) (u:=.int .i64 0) l (by simp[execOp,j,resolve,d,c,f,invoke,builtin,Builtin.len_,underlying,q,B,goInt]) (.int _ _)
   |mp o pl r=>
    show ov M C P β s w a go (bR (match aj s.h o with|some (.mp G)=>some (aM G)|_=>none) (λn=>.v (.int .i64 (.ofNat n)) s) .bad);cases Z:aj s.h o with
    |none=>trivial
    |some ob=>
     obtain⟨h5,L,h4⟩:=l.obj _ _ Z;rw[r]at L;cases L;cases h4 with
     |mp G H z hn D=>
      refine .val (v:=.int .i64 (.ofNat (aM G))) (u:=.int .i64 H.size) l ?_ ?_
      .simp[execOp,j,resolve,d,c,f,invoke,builtin,Builtin.len_,underlying,q,B,goInt,eL z rfl]
      rw[bK,hn];exact .int _ _
     |_=>trivial
   |_=>trivial
  cases i
def Lp{l:Bool}{op:BinOp}{t:TypeId}{p q r:HV}{u v:Value}{x y:Operand}{N:aG}(h:Ha l op p q=some r)(I:HR β N w p u)(o:HR β N w q v)
  (G:(match P.underlying t with|some .bool=>l|some (.int _)|some .string=> !l|_=>false)=true):
  ∃z,(do eqGuard op t x y u v;binOp op t u v:Sem Value).run P w=.ok z w/\HR β N w r z:=by
 cases I with
 |int k m=>
  cases o with
  |int A d=>
   have f:(eqGuard op t x y (.int k m) (.int A d)).run P w=.ok () w:=by unfold eqGuard;cases op<;>rfl
   by_cases i:op=.shr∨op=.shl
   .have H:∀k:IntKind,jo k=true->k.bits=64:=by intro k n;cases k<;>simp[jo]at n<;>rfl
    cases m with
    |negSucc m=>rcases i with rfl|rfl<;>cases h
    |ofNat m=>
     cases d with
     |negSucc d=>rcases i with rfl|rfl<;>cases h
     |ofNat d=>
      rcases i with rfl|rfl
      .have c:(bif Nat.blt d 64&&jo k then some (HV.int k (.ofNat (Nat.shiftRight m d)))else none)=some r:=h;cases g:(Nat.blt d 64&&jo k)with
       |false=>rw[g]at c;cases c
       |true=>
        rw[g]at c;cases c;simp only[aL,ck]at g;refine⟨_,?_,HR.int _ _⟩;simp only[Sem.run_bind,f,Result.andThen_ok];have B:min (Int.ofNat d).toNat k.bits=d:=by rw[H k g.2];simp;omega
        have D:(Int.ofNat m).fdiv (2^d)=Int.ofNat (Nat.shiftRight m d):=by have E:Nat.shiftRight m d=m/2^d:=Nat.shiftRight_eq_div_pow m d;rw[E,ns,Int.fdiv_eq_ediv_of_nonneg _ (by exact_mod_cast fN _)];simp
        have F:¬(Int.ofNat d<0):=by simp
        simp only[binOp,Op.shift,ar F,B,D,Sem.run_pure]
      have c:(bif Nat.blt d 64&&jo k then some (HV.int k (bT k (.ofNat (Nat.shiftLeft m d))))else none)=some r:=h;cases g:(Nat.blt d 64&&jo k)with
      |false=>rw[g]at c;cases c
      |true=>
       rw[g]at c;cases c;simp only[aL,ck]at g;refine⟨_,?_,HR.int _ _⟩;simp only[Sem.run_bind,f,Result.andThen_ok];have B:min (Int.ofNat d).toNat k.bits=d:=by rw[H k g.2];simp;omega
       have D:(Int.ofNat m)*(2^d)=Int.ofNat (Nat.shiftLeft m d):=by have E:Nat.shiftLeft m d=m*2^d:=Nat.shiftLeft_eq m d;rw[E];simp
       have F:¬(Int.ofNat d<0):=by simp
       simp only[binOp,Op.shift,ar F,B,D,Sem.run_pure,rO]
   have c:(bif decide (k=A)then OD op k m d else none)=some r:=by cases op<;>first|exact h|(exact absurd (.inl rfl) i)|(exact absurd (.inr rfl) i)
   by_cases n:k=A
   case neg=>simp[n]at c
   subst n;simp only[eV,cond_true]at c;by_cases hand:op=.and
   .subst hand;cases m with
    |negSucc m=>cases c
    |ofNat m=>
     cases d with
     |negSucc d=>cases c
     |ofNat d=>
      have c:(bif Nat.blt m 9223372036854775808&&Nat.blt d 9223372036854775808&&jo k then some (HV.int k (.ofNat (Nat.land m d)))else none)=some r:=c;cases g:(Nat.blt m 9223372036854775808&&Nat.blt d 9223372036854775808&&jo k)with
      |false=>rw[g]at c;cases c
      |true=>rw[g]at c;cases c;simp only[aL,ck]at g;obtain⟨⟨J,L⟩,O⟩:=g;refine⟨_,?_,HR.int _ _⟩;simp only[Sem.run_bind,f,Result.andThen_ok];have key:k.wrap ((BitVec.ofInt k.bits (Int.ofNat m)&&& BitVec.ofInt k.bits (Int.ofNat d)).toNat:Int)=Int.ofNat (Nat.land m d):=IK k O m d J L;simp only[binOp,Op.intBits,ne_eq,not_true_eq_false,bD,key,Sem.run_pure]
   cases op<;>simp only[OD,bQ,reduceCtorEq,Lk,Ll,rO,vy,AP]at c
   case and=>exact absurd rfl hand
   case add=>subst c;refine⟨_,?_,HR.int _ _⟩;simp only[Sem.run_bind,f,Result.andThen_ok];simp[binOp,Op.intArith]
   case sub=>subst c;refine⟨_,?_,HR.int _ _⟩;simp only[Sem.run_bind,f,Result.andThen_ok];simp[binOp,Op.intArith]
   case mul=>subst c;refine⟨_,?_,HR.int _ _⟩;simp only[Sem.run_bind,f,Result.andThen_ok];simp[binOp,Op.intArith]
   case quo=>
    by_cases h0:d=0
    .simp[h0]at c
    simp only[h0,kY,cond_false,bQ]at c;subst c;refine⟨_,?_,HR.int _ _⟩;simp only[Sem.run_bind,f,Result.andThen_ok];simp[binOp,Op.intDiv,h0]
   case rem=>
    by_cases h0:d=0
    .simp[h0]at c
    simp only[h0,kY,cond_false,bQ]at c;subst c;refine⟨_,?_,HR.int _ _⟩;simp only[Sem.run_bind,f,Result.andThen_ok];simp[binOp,Op.intDiv,h0]
   all_goals
    subst c;refine⟨_,?_,HR.bool _⟩;simp only[Sem.run_bind,f,Result.andThen_ok];simp[binOp,Op.intCmp,bne,OO]
    try rfl
  |_=>cases h
 |bool b=>
  cases o with
  |bool j=>
   have f:(eqGuard op t x y (.bool b) (.bool j)).run P w=.ok () w:=by unfold eqGuard;cases op<;>rfl
   have c:(bif l then OE op b j else none)=some r:=h;cases l with
   |false=>cases c
   |true=>
    simp only[cond_true]at c;have Q:P.underlying t=some .bool:=by split at G<;>first|assumption|cases G
    cases op<;>simp only[OE,bQ,reduceCtorEq]at c<;>subst c
    all_goals (refine⟨.bool _,?_,HR.bool _⟩;simp only[Sem.run_bind,f,Result.andThen_ok];simp[binOp,run_equal_bool,Q,bne];done)
  |_=>cases h
 |str b=>
  cases o with
  |str j=>
   have f:(eqGuard op t x y (.string b) (.string j)).run P w=.ok () w:=by unfold eqGuard;cases op<;>rfl
   have c:OF op (eb b) (eb j)=some r:=h;cases op<;>simp only[OF,bQ,reduceCtorEq,sX,Ek]at c
   case add=>
    obtain⟨hle,c⟩:=jH c;simp only[bQ]at c;subst c;rw[bK,bK,gC,gC,ej]at hle;have hle:b.size+j.size<=9223372036854775807:=hle;refine⟨.string (b++j),?_,by rw[<-CE];exact HR.str _⟩;simp only[Sem.run_bind,f,Result.andThen_ok];have T:¬(((b.size+j.size:Nat):Int)>IntKind.i64.max):=by have:IntKind.i64.max=9223372036854775807:=rfl;rw[this];omega
    simp only[binOp,Op.stringOp];rw[ar T];rfl
   all_goals
    subst c;refine⟨.bool _,?_,HR.bool _⟩;simp only[Sem.run_bind,f,Result.andThen_ok];simp only[binOp,Op.stringOp,<-vh,Bool.not_not];rfl
  |_=>cases h
 |_=>cases h
def U9(f:bW M C β s w)(i:dN β (Live M s β) w e a){go:Oper}{op:UnOp}{x:X}(d:ba P (.un op x) go.op=true):ov M C P β s w a go (T2 op x e s):=by
 cases c:go.op<;>rw[c]at d<;>try cases d
 rename_i j t l;simp only[ba,aL,bU]at d;obtain⟨rfl,m⟩:=d;unfold T2;cases o:bw x e with
 |none=>trivial
 |some p=>
  have g:=aH i m o;generalize h:a.eval l=u at g;cases g with
  |bool b=>cases op with|not=>exact .val (v:=.bool !b) f (by simp[execOp,c,h,Op.unary]) (.bool _)|_=>trivial
  |int k n=>cases op with|neg=>exact .val (v:=.int k (bT k (0-n))) (u:=.int k (k.wrap (0-n))) f (by simp[execOp,c,h,Op.unary,Op.intArith]) (by rw[rO];exact .int _ _)|_=>trivial
  |_=>trivial
def OR(k:bW M C β s w)(m:dN β (Live M s β) w e a){go:Oper}{x:X}{i:Nat}(c:ba P (.ext x i) go.op=true):ov M C P β s w a go (uX x i e s):=by
 cases b:go.op<;>rw[b]at c<;>try cases c
 rename_i n j;simp only[ba,aL,bU]at c;obtain⟨o,rfl⟩:=c;unfold uX;cases q:bw x e with
 |none=>trivial
 |some p=>
  have d:=aH m o q;generalize r:a.eval n=u at d;cases d with
  |cO l f t y=>
   show ov M C P β s w a go (rv s (zE l i));rw[wj];cases g:l[i]?with
   |none=>trivial
   |some v=>
    have h:i<f.size:=by rw[t];exact(aU.1 g).1
    exact .val k (by simp[execOp,b,r,Instr.extract,fW h]) (y i v f[i] g (fW h))
  |_=>trivial
def OS(g:bW M C β s w)(h:dN β (Live M s β) w e a){go:Oper}{k:IntKind}{x:X}(b:ba P (.cnv k x) go.op=true):ov M C P β s w a go (uY k x e s):=by
 cases c:go.op<;>rw[c]at b<;>try cases b
 rename_i t y i;simp only[ba,aL]at b;obtain⟨j,b⟩:=b
 split at b
 case h_2=>cases b
 rename_i d z l m;have o:=bU.1 b;subst o;unfold uY;cases q:bw x e with
 |none=>trivial
 |some p=>have f:=aH h j q;generalize r:a.eval i=u at f;cases f with|int A n=>refine .val (v:=.int k (bT k n)) (u:=.int k (k.wrap n)) g ?_ (by rw[rO];exact .int _ _);simp[execOp,c,r,convert,underlying,l,m,Conv.intToInt]|_=>trivial
def OT(i:bW M C β s w)(l:dN β (Live M s β) w e a){go:Oper}{x:X}(f:ba P (.nck x) go.op=true):ov M C P β s w a go (uZ x e s):=by
 cases c:go.op<;>rw[c]at f<;>try cases f
 rename_i m;simp only[ba]at f;unfold uZ;cases n:bw x e with
 |none=>trivial
 |some p=>have h:=aH l f n;generalize j:a.eval m=u at h;have d:=h;cases h with|ptr o k pl q r=>exact .val (v:=.ptr o k) i (by simp[execOp,c,j]) d|aw cells b o g=>exact .val (v:=.aw cells) i (by simp[execOp,c,j]) d|_=>trivial
def p0{x y:X}{l:Array Operand}(h:fL [x,y] l.toList=true):∃c d,l= #[c,d]/\cW x c=true/\cW y d=true:=by
 cases b:l.toList with
 |nil=>simp[b,fL]at h
 |cons c r=>
  cases r with
  |nil=>simp[b,fL]at h
  |cons d r=>cases r with|cons z r=>simp[b,fL]at h|nil=>simp only[b,fL,aL]at h;exact⟨c,d,by rw[<-Array.toList_inj];exact b,h.1,h.2.1⟩
def Va(l:bW M C β s w)(o:dN β (Live M s β) w e a){go:Oper}{m:Bool}{x y:X}(f:ba P (.mm m x y) go.op=true):ov M C P β s w a go (T3 m x y e s):=by
 cases d:go.op<;>rw[d]at f<;>try cases f
 rename_i I;simp only[ba,aL]at f;obtain⟨j,f⟩:=f;obtain⟨A,B,r,D,E⟩:=p0 f;unfold T3;cases F:bw x e with
 |none=>trivial
 |some p=>
  cases G:bw y e with
  |none=>cases p<;>trivial
  |some q=>
   have t:=aH o D F;have g:=aH o E G;generalize z:a.eval A=u at t;generalize i:a.eval B=J at g;cases t with
   |int k n=>
    cases g with
    |int L b=>
     split at j
     .rename_i c;subst j;refine .val (v:=.int k (bif j9 n b then b else n)) (u:=.int k (if b>n then b else n)) l ?_ ?_
      .simp[execOp,d,resolve,c,r,invoke,builtin,Builtin.max_,z,i,Builtin.max2]
      rw[AP];have:(if b>n then b else n)=(bif decide (n<=b)then b else n):=by
       by_cases h:n<=b
       .simp only[h,eV,cond_true];split<;>omega
       simp only[h,kY,cond_false];rw[ar (by omega)]
      rw[this];exact .int _ _
     .rename_i c;have H:m=false:=by simpa using j
      subst H;refine .val (v:=.int k (bif j9 n b then n else b)) (u:=.int k (if b<n then b else n)) l ?_ ?_
      .simp[execOp,d,resolve,c,r,invoke,builtin,Builtin.min_,z,i,Builtin.min2]
      rw[AP];have:(if b<n then b else n)=(bif decide (n<=b)then n else b):=by
       by_cases h:n<=b
       .simp only[h,eV,cond_true];rw[ar (by omega)]
       simp only[h,kY,cond_false];rw[au (by omega)]
      rw[this];exact .int _ _
     cases j
    |_=>trivial
   |_=>trivial
def OU(q:bW M C β s w)(n:dN β (Live M s β) w e a){go:Oper}{g:Nat}{f cs:List X}(d:ba P (.mkf g f cs) go.op=true):ov M C P β s w a go (uW g f cs e s):=by
 cases b:go.op<;>rw[b]at d<;>try cases d
 rename_i fn h j;cases fn<;>simp only[ba,aL,bU,df]at d;obtain⟨⟨rfl,r⟩,t⟩:=d;unfold uW;cases x:gx f e with
 |none=>trivial
 |some l=>
  cases y:gx cs e with
  |none=>trivial
  |some m=>
   have o:=kW n r x;have p:=kW n t y;refine .val (v:=.fn g l m) (u:=.func (.func g) (h.map a.eval) (j.map a.eval)) q (by simp[execOp,b,Instr.makeFunc]) ?_;refine .fn g l m _ _ (by have:=o.1;simpa using this) (by have:=p.1;simpa using this) (λi v u k c=>?_) λi v u k c=>?_
   .exact o.2 i v u k (by rw[<-Array.getElem?_toList]at c;simpa using c)
   exact p.2 i v u k (by rw[<-Array.getElem?_toList]at c;simpa using c)
def kC(b:bW M C β s w):¬Live M s β w.heap.size:=λh=>ec _ (Live.lt b h)
def uu(w:World)(E:TypeId)(cs:Array Value)(j:Nat):du {w with heap:=w.heap.push (.cells cs E)} w.heap.size j=cs[j]?:=by apply iN (E:=E) (fr:=(0,0));simp
def OV(c:bW M C β s w)(k:dN β (Live M s β) w e a){go:Oper}{x:X}(d:ba P (.fbx x) go.op=true):ov M C P β s w a go (uT x e s):=by
 cases b:go.op<;>rw[b]at d<;>try cases d
 rename_i E y;simp only[ba]at d;unfold uT;cases m:bw x e with
 |none=>trivial
 |some p=>
  have n:=aH k d m;show ov M C P β s w a go (bR (cellsOf p) (λl=>.v (.aw l) s) .bad);cases o:cellsOf p with
  |none=>trivial
  |some l=>
   obtain⟨h,q⟩:=n.cells o;have i:(a.eval y).cells.size=l.length:=by simpa using h.1
   refine⟨.pointer (some ⟨w.heap.size,0,none⟩),{w with heap:=w.heap.push (.cells (a.eval y).cells E)},β,.inl ?_,c.push _,Ext.push c.mlt β s _,?_⟩
   .simp[execOp,b,Instr.box,newVar,Go.newRow]
   refine .aw l _ 0 (λj=>(a.eval y).cells.getD j Go.undef) q (kC c) (by simp) (λj f=>?_) λj v f=>?_
   .rw[bn,uu,fW (by omega)];simp[Array.getD,i,f]
   have g:=(aU.1 f).1;refine(h.2 j v _ f ?_).ext (Ext.push c.mlt β s _);rw[mA,fW (by omega)];simp[Array.getD,i,g]
def nu(g:dN β (Live M s β) w e a){d n:Nat}:∀{o:Option X} {o':Option Operand} (_:qu o o'=true) (_:fw e d o=some n),(o'.map a.eval=none/\n=d)∨∃k,o'.map a.eval=some (.int k (.ofNat n))
 |none,none,_,h=>by cases h;exact .inl ⟨rfl,rfl⟩
 |some x,some y,b,h=>by
  simp only[qu]at b;simp only[fw]at h;cases c:bw x e with
  |none=>rw[c]at h;cases h
  |some v=>
   rw[c]at h;have f:=aH g b c;generalize i:a.eval y=u at f;cases f with
   |int k z=>
    cases z with
    |ofNat z=>cases h;exact .inr ⟨k,by simp[i]⟩
    |negSucc z=>cases h
   |_=>cases h
 |none,some _,b,_=>by simp[qu]at b
 |some _,none,b,_=>by simp[qu]at b
def CH{t E:TypeId}(g:P.underlying t=some (.slice E)){sz:Nat}(i:dI P E=some sz){A:Option Addr}{len cap:Nat}{b c:Option Value}{l h:Nat}
  (d:(b=none/\l=0)∨∃k,b=some (.int k (.ofNat l)))(f:(c=none/\h=len)∨∃k,c=some (.int k (.ofNat h)))(o:l<=h)(p:h<=cap):
  (Instr.sliceAt t (.slice A len cap) b c none).run P w=.ok (.slice (if cap=l then A else A.map (·.add (l*sz))) (h-l) (cap-l)) w:=by
 have j:(Instr.sliceAt t (.slice A len cap) b c none).run P w=(Instr.slice t (.slice A len cap) b c none).run P w:=by simp[Instr.sliceAt,run_underlying g]
 rw[j];have m:∀k (code:BoundsCode),(Instr.sliceBound (.int k (.ofNat h)) cap code).run P w=.ok h w:=λk code=>run_sliceBound (P:=P) w k (.ofNat h) cap code (by simp) (by simp;omega)
 have n:∀k (code:BoundsCode),(Instr.sliceBound (.int k (.ofNat l)) h code).run P w=.ok l w:=λk code=>run_sliceBound (P:=P) w k (.ofNat l) h code (by simp) (by simp;omega)
 rcases d with⟨rfl,rfl⟩|⟨q,rfl⟩<;>rcases f with⟨rfl,rfl⟩|⟨r,rfl⟩<;>
  simp only[Instr.slice,Sem.run_bind,run_underlying g,Result.andThen_ok,Instr.sliceBounds,Sem.run_pure,m,n,ga i,IL,df,bD,bp]
def HR.CI{N:aG}{ak:aP}{A:Option Addr}{len cap:Nat}(h:HR β N w (.psl ak) (.slice A len cap)){sz l d:Nat}(G:l<=d)(y:d<=ak.length)
  (t:∀row∈ak,row.length=sz):HR β N w (.psl ((ak.drop l).take (d-l))) (.slice (if cap=l then A else A.map (·.add (l*sz))) (d-l) (cap-l)):=by
 cases h with
 |psl0 _ _ r=>
  simp only[aC]at y;have:l=0:=by omega
  subst this;have:d=0:=by omega
  subst this;simp only[List.drop_nil,List.take_nil,kZ,Nat.sub_zero];refine .psl0 _ _ (λn=>?_)
  split at n
  .exact r n
  cases A with|none=>exact r rfl|some H=>simp at n
 |psl _ b o _ c g z u x k h0 B D=>
  have hlen:((ak.drop l).take (d-l)).length=d-l:=by simp;omega
  by_cases E:d-l=0
  .have r:(ak.drop l).take (d-l)=[]:=by apply ja;omega
   rw[r,E];refine .psl0 _ _ (λn=>?_)
   split at n<;>simp at n
  have F:c=sz:=by have I:=k 0 ak[0] (aX (by omega));have J:=t ak[0] (cb (by omega));omega
  subst F;rw[ar (by omega)];simp only[me,gA];have m:∀i,i<d-l->((ak.drop l).take (d-l))[i]?=ak[l+i]?:=λi f=>by rw[rN f,kX]
  have:=HR.psl (β:=β) (N:=N) (w:=w) ((ak.drop l).take (d-l)) b (o+l*c) (cap-l) c (λi j=>g (l+i) j) z u (by omega) (λi row f=>?_) (λrow p=>h0 row (OK (ag1 p))) (λi j f v=>?_) λi row j q f v=>?_
  .rw[hlen]at this;exact this
  .rw[m i (by rw[<-hlen];exact(aU.1 f).1)]at f;exact k _ _ f
  .rw[hlen]at f;have:=B (l+i) j (by omega) v;rw[oR]at this;rw[show o+l*c+(i*c+j)=o+(l*c+i*c+j) by omega];exact this
  rw[m i (by rw[<-hlen];exact(aU.1 f).1)]at f;exact D _ _ _ _ f v
def iD{sz:Nat}:∀{l:aP},dk sz l=true->∀row∈l,row.length=sz
 |[],_=>by simp
 |r::l,h=>by
  simp only[dk,aL]at h;intro row b;rcases bk.1 b with rfl|b
  .rw[<-bK];exact bf.1 h.1
  exact iD h.2 row b
def OW(D:bW M C β s w)(Q:dN β (Live M s β) w e a){go:Oper}{x:X}{T V mx:Option X}{sz:Nat}(N:ba P (.slc x T V mx sz) go.op=true):ov M C P β s w a go (Ct x T V mx sz e s):=by
 cases F:go.op<;>rw[F]at N<;>try cases N
 rename_i t x' ha hd G;simp only[ba,aL]at N;obtain⟨⟨⟨⟨hx,W⟩,Y⟩,H⟩,Z⟩:=N
 split at Z
 case h_2=>cases Z
 rename_i E h4;have ht:=iP h4;have hs:=bU.1 Z;unfold Ct;cases h1:bw x e with
 |none=>trivial
 |some p=>
  have B:=aH Q hx h1;generalize hu:a.eval x'=u at B;have run:∀{A len cap l h},mx=none->u=.slice A len cap->fw e 0 T=some l->fw e len V=some h->l<=h->h<=cap->
    (execOp a.eval go).run P w=.ok (.value (.slice (if cap=l then A else A.map (·.add (l*sz))) (h-l) (cap-l))) w:=by
   intro A len cap l h hm h5 d z I k4;have J:G=none:=by cases G with|none=>rfl|some y=>rw[hm]at H;simp[qu]at H
   subst J;have:=CH (P:=P) (w:=w) ht hs (A:=A) (len:=len) (cap:=cap) (nu Q W d) (nu Q Y z) I k4;simp only[execOp,F,hu,h5,OX];simp[this]
  cases B with
  |ah=>
   simp only[]
   split
   .rename_i O m q;refine .val (v:=.ah) D (run rfl rfl m q (aV _) (aV _)) ?_;simp only[bp,kZ];exact .ah
   trivial
  |sl o f len i cap n pl h6 hf hl hb hg=>
   simp only[]
   split
   .rename_i O l h m q;cases j:(Nat.ble l h&&Nat.ble h len&&Nat.beq sz i)with|false=>trivial|true=>
     simp only[aL,ej,bf]at j;obtain⟨⟨d,z⟩,rfl⟩:=j;refine .val (v:=.sl o (f+l*sz) (h-l) sz) D (run rfl rfl m q d (by omega)) ?_;by_cases r:cap=l
     .rw[au r];have e1:h-l=0:=by omega
      have e2:cap-l=0:=by omega
      rw[e1,e2];exact .pY _ _ _ _ _
     rw[ar r];simp only[me,gA];rw[show f-pl.s+l*sz=f+l*sz-pl.s by omega];refine .sl o _ _ sz _ n pl h6 (by omega) (by omega) hb ?_;have:(cap-l)*sz+l*sz=cap*sz:=by rw[<-Nat.add_mul];congr 1;omega
     omega
   trivial
  |pY o f i b k=>
   simp only[]
   split
   .rename_i O l h m q;cases j:(Nat.ble l h&&Nat.ble h 0&&Nat.beq sz i)with|false=>trivial|true=>
     simp only[aL,ej,bf]at j;obtain⟨⟨d,z⟩,rfl⟩:=j;refine .val (v:=.sl o (f+l*sz) (h-l) sz) D (run rfl rfl m q d (by omega)) ?_;have e1:l=0:=by omega
     have e2:h=0:=by omega
     subst e1;subst e2;simp only[bp,kZ];exact .pY _ _ _ _ _
   trivial
  |psl0 A cap hn=>
   have B:HR β (Live M s β) w (.psl []) (.slice A 0 cap):=.psl0 A cap hn;simp only[]
   split
   .rename_i O l h m q;cases j:(Nat.ble l h&&Nat.ble h (aM ([]:aP))&&dk sz [])with|false=>trivial|true=>simp only[aL,ej,bK]at j;obtain⟨⟨d,z⟩,I⟩:=j;refine .val (v:=.psl (gX (h-l) (iL l []))) D (run rfl rfl m q d (by simp at z;omega)) ?_;rw[jJ,mz];exact B.CI d z (iD I)
   trivial
  |psl c b o cap i g hN h7 L h8 h0 r h9=>
   have B:HR β (Live M s β) w (.psl c) (.slice (some ⟨b,o,none⟩) c.length cap):=.psl c b o cap i g hN h7 L h8 h0 r h9;simp only[];rw[bK]
   split
   .rename_i O l h m q;cases j:(Nat.ble l h&&Nat.ble h c.length&&dk sz c)with|false=>trivial|true=>simp only[aL,ej]at j;obtain⟨⟨d,z⟩,I⟩:=j;refine .val (v:=.psl (gX (h-l) (iL l c))) D (run rfl rfl m q d (by omega)) ?_;rw[jJ,mz];exact B.CI d z (iD I)
   trivial
  |_=>trivial
def AT(b:ByteArray)(l h:Nat):eb (b.extract l h)=mw (eb b) l h:=by unfold eb mw;rw[jJ,ByteArray.data_extract,OY,OZ,Eo,List.map_drop]
def O0(F:bW M C β s w)(m:dN β (Live M s β) w e a){go:Oper}{x:X}{z A:Option X}(i:ba P (.sls x z A) go.op=true):ov M C P β s w a go (Cu x z A e s):=by
 cases j:go.op<;>rw[j]at i<;>try cases i
 rename_i t G c d n;cases n with
 |some y=>simp[ba]at i
 |none=>
 simp only[ba,aL]at i;obtain⟨⟨⟨H,o⟩,q⟩,B⟩:=i
 split at B
 case h_2=>cases B
 rename_i D;unfold Cu;cases I:bw x e with
 |none=>trivial
 |some p=>
  have r:=aH m H I;generalize J:a.eval G=u at r;cases r with
  |str b=>
   simp only[];rw[bK,gC]
   split
   .rename_i l h L N;cases E:(Nat.ble l h&&Nat.ble h b.size)with|false=>trivial|true=>
     simp only[aL,ej]at E;obtain⟨O,Q⟩:=E;refine .val (v:=.str (mw (eb b) l h)) (u:=.string (b.extract l h)) F ?_ (by rw[<-AT];exact .str _);have T:∀k (code:BoundsCode),(Instr.sliceBound (.int k (.ofNat h)) b.size code).run P w=.ok h w:=λk code=>run_sliceBound (P:=P) w k (.ofNat h) b.size code (by simp) (by simp;omega)
     have V:∀k (code:BoundsCode),(Instr.sliceBound (.int k (.ofNat l)) h code).run P w=.ok l w:=λk code=>run_sliceBound (P:=P) w k (.ofNat l) h code (by simp) (by simp;omega)
     have W:(Instr.sliceAt t (.string b) (c.map a.eval) (d.map a.eval) none).run P w=.ok (.string (b.extract l h)) w:=by
      have Y:(Instr.sliceAt t (.string b) (c.map a.eval) (d.map a.eval) none).run P w=(Instr.slice t (.string b) (c.map a.eval) (d.map a.eval) none).run P w:=by simp[Instr.sliceAt,run_underlying D]
      rw[Y];have f:=nu m o L;have g:=nu m q N;generalize c.map a.eval=Z at f ⊢;generalize d.map a.eval=r at g ⊢;rcases f with⟨rfl,rfl⟩|⟨O,rfl⟩<;>rcases g with⟨rfl,rfl⟩|⟨Q,rfl⟩<;>
       simp only[Instr.slice,Sem.run_bind,run_underlying D,Result.andThen_ok,Instr.sliceBounds,Sem.run_pure,T,V,IL,df,bD,bp]
     simp only[execOp,j,J,OX];simp[W]
   trivial
  |_=>trivial
def IM(n:Nat)(h:n<256):eb ⟨#[UInt8.ofNat n]⟩=[n]:=by simp[eb];omega
def IN(n m:Nat)(h:n<256)(b:m<256):eb ⟨#[UInt8.ofNat n,UInt8.ofNat m]⟩=[n,m]:=by simp[eb];omega
def Lq(z:Nat)(h:z<128):Utf8.encode (Int.ofNat z)=⟨#[UInt8.ofNat z]⟩:=by
 show Utf8.encode (z:Int)=_;have b:Utf8.valid (z:Int)=true:=by simp[Utf8.valid];omega
 unfold Utf8.encode;simp only[b,bp,gD];rw[au (by omega)]
def Lr(z:Nat)(h:128<=z)(c:z<2048):Utf8.encode (Int.ofNat z)=⟨#[UInt8.ofNat (192+z/64),UInt8.ofNat (128+z%64)]⟩:=by
 show Utf8.encode (z:Int)=_;have b:Utf8.valid (z:Int)=true:=by simp[Utf8.valid];omega
 unfold Utf8.encode;simp only[b,bp,gD];rw[ar (by omega),au (by omega)]
def O2(g:bW M C β s w)(l:dN β (Live M s β) w e a){go:Oper}{x:X}(c:ba P (.cis x) go.op=true):ov M C P β s w a go (Cv x e s):=by
 cases d:go.op<;>rw[d]at c<;>try cases c
 rename_i A B y;simp only[ba,aL]at c;obtain⟨m,c⟩:=c
 split at c
 case h_2=>cases c
 rename_i D n o;unfold Cv;cases q:bw x e with
 |none=>trivial
 |some p=>
  have i:=aH l m q;generalize r:a.eval y=u at i;cases i with
  |int k z=>
   cases z with
   |negSucc z=>trivial
   |ofNat z=>
    have b:(execOp a.eval go).run P w=.ok (.value (.string (Utf8.encode (.ofNat z)))) w:=by simp[execOp,d,r,convert,underlying,n,o,Conv.intToString]
    simp only[];cases f:Nat.blt z 128 with
    |true=>rw[ck]at f;refine .val (v:=.str [z]) g b ?_;rw[Lq z f,<-IM z (by omega)];exact .str _
    |false=>
     simp only[cond_false];have t:¬z<128:=λh=>by rw[ck.2 h]at f;cases f
     cases j:Nat.blt z 2048 with|true=>rw[ck]at j;refine .val (v:=.str [192+z/64,128+z%64]) g b ?_;rw[Lr z (by omega) j,<-IN (192+z/64) (128+z%64) (by omega) (by omega)];exact .str _|false=>trivial
  |_=>trivial
def mf{N:aG}:∀{l:ai} {f:List Value} {b:az} (_:eQ β N w l f) (_:bytesOf l=some b),
  ∃g:bb,f=g.map (Value.int .u8)/\eb (g.foldl (λr n=>r.push (UInt8.ofNat n.toNat)) ByteArray.empty)=b:=by
 have gen:∀{l:ai} {f:List Value} {b:az} (_:eQ β N w l f) (_:bytesOf l=some b),∃g:bb,f=g.map (Value.int .u8)/\
   ∀d:ByteArray,eb (g.foldl (λr n=>r.push (UInt8.ofNat n.toNat)) d)=eb d++b:=by
  intro l
  induction l with
  |nil=>intro f b h c;cases c;have:=h.1;cases f with|nil=>exact⟨[],rfl,λd=>by simp⟩|cons=>simp at this
  |cons v l p=>
   intro f b h c;obtain⟨u,f,rfl,j,k⟩:=h.split;unfold bytesOf at c
   split at c
   .rename_i m;cases m
   .rename_i n r m;cases m;cases i:Nat.blt n 256 with
    |false=>rw[i]at c;cases c
    |true=>
     rw[i]at c;have i:=ck.1 i;simp only[cond_true]at c
     split at c
     .rename_i t o;cases c;cases j;obtain⟨g,rfl,q⟩:=p k o;refine⟨.ofNat n::g,rfl,λd=>?_⟩;simp only[nw];rw[q];have:eb (d.push (UInt8.ofNat (Int.ofNat n).toNat))=eb d++[n]:=by simp only[eb,ByteArray.data_push,Array.toList_push,eU,bX,lO];simp;omega
      rw[this];simp
     cases c
   cases c
 intro l f b h c;obtain⟨g,j,k⟩:=gen h c;exact⟨g,j,by rw[k];simp[eb]⟩
def IP{N:aG}{v:HV}{u:Value}{q:Bool}(h:HR β N w v u)(b:nY 0 v=some q):∃A l c,u=.slice A l c/\q=A.isNone:=by
 cases h with
 |ah=>cases b;exact⟨_,_,_,rfl,rfl⟩
 |sl=>cases b;exact⟨_,_,_,rfl,rfl⟩
 |pY=>cases b;exact⟨_,_,_,rfl,rfl⟩
 |psl d=>cases d with
  |nil=>cases b
  |cons x l=>cases b;exact⟨_,_,_,rfl,rfl⟩
 |_=>cases b
def IQ{N:aG}{v:HV}{u:Value}{q:Bool}(h:HR β N w v u)(b:nY 1 v=some q):∃A,u=.map A/\q=A.isNone:=by
 cases h with
 |fS=>cases b;exact⟨_,rfl,rfl⟩
 |mp=>cases b;exact⟨_,rfl,rfl⟩
 |_=>cases b
def IS{N:aG}{v:HV}{u:Value}{q:Bool}(h:HR β N w v u)(c:nY 2 v=some q):(u=.nilFunc/\q=true)∨∃f a b,u=.func f a b/\q=false:=by
 cases h with
 |gY=>cases c;exact .inl ⟨rfl,rfl⟩
 |fn=>cases c;exact .inr ⟨_,_,_,rfl,rfl⟩
 |iK=>cases c;exact .inr ⟨_,_,_,rfl,rfl⟩
 |_=>cases c
def IT{N:aG}{v:HV}{u:Value}{q:Bool}(h:HR β N w v u)(b:nY 3 v=some q):∃A,u=.pointer A/\q=A.isNone:=by
 cases h with
 |dE=>cases b;exact⟨_,rfl,rfl⟩
 |ptr=>cases b;exact⟨_,rfl,rfl⟩
 |aw=>cases b;exact⟨_,rfl,rfl⟩
 |_=>cases b
def Gb(P:Program)(k:Nat)(t:TypeId)(n:Value):Prop:=(k=0/\(∃E,P.underlying t=some (.slice E))/\n=.slice none 0 0)∨(k=1/\(∃K E,P.underlying t=some (.map K E))/\n=.map none)∨
      (k=2/\(∃A B c,P.underlying t=some (.func A B c))/\n=.nilFunc)∨(k=3/\(∃E,P.underlying t=some (.pointer E))/\n=.pointer none)
def CJ{N:aG}{v:HV}{u:Value}{k:Nat}{q:Bool}(h:HR β N w v u)(i:nY k v=some q){t:TypeId}{n:Value}(j:Gb P k t n)(d:Nat):
  (Op.equalIn (d+1) t u n).run P w=.ok q w/\(Op.equalIn (d+1) t n u).run P w=.ok q w:=by
 rcases j with⟨rfl,⟨E,g⟩,rfl⟩|⟨rfl,⟨K,E,g⟩,rfl⟩|⟨rfl,⟨A,B,c,g⟩,rfl⟩|⟨rfl,⟨E,g⟩,rfl⟩
 .obtain⟨A,l,c,rfl,rfl⟩:=IP h i;constructor<;>cases A<;>simp only[Op.equalIn,Sem.run_bind,run_underlying g,Result.andThen_ok]<;>rfl
 .obtain⟨A,rfl,rfl⟩:=IQ h i;constructor<;>cases A<;>simp only[Op.equalIn,Sem.run_bind,run_underlying g,Result.andThen_ok]<;>rfl
 .rcases IS h i with⟨rfl,rfl⟩|⟨f,a,b,rfl,rfl⟩<;>constructor<;>simp only[Op.equalIn,Sem.run_bind,run_underlying g,Result.andThen_ok]<;>rfl
 obtain⟨A,rfl,rfl⟩:=IT h i;constructor<;>cases A<;>simp only[Op.equalIn,Sem.run_bind,run_underlying g,Result.andThen_ok]<;>rfl
def T8:Value->Bool
 |.slice .. |.map _|.func .. |.nilFunc|.pointer _=>true
 |_=>false
def Hw{N:aG}{v:HV}{u:Value}{k:Nat}{q:Bool}(h:HR β N w v u)(d:nY k v=some q){t:TypeId}{n:Value}(i:Gb P k t n):T8 u=true/\T8 n=true:=by
 rcases i with⟨rfl,⟨E,g⟩,rfl⟩|⟨rfl,⟨K,E,g⟩,rfl⟩|⟨rfl,⟨A,B,c,g⟩,rfl⟩|⟨rfl,⟨E,g⟩,rfl⟩
 .obtain⟨A,l,c,rfl,rfl⟩:=IP h d;exact⟨rfl,rfl⟩
 .obtain⟨A,rfl,rfl⟩:=IQ h d;exact⟨rfl,rfl⟩
 .rcases IS h d with⟨rfl,rfl⟩|⟨f,a,b,rfl,rfl⟩<;>exact⟨rfl,rfl⟩
 obtain⟨A,rfl,rfl⟩:=IT h d;exact⟨rfl,rfl⟩
def zO{x y:Value}(h:T8 x=true)(op:BinOp)(t:TypeId)(p q:Operand):(eqGuard op t p q x y).run P w=.ok () w:=by
 unfold eqGuard;cases dA:(!(op matches .eql|.neq))with
 |true=>rfl
 |false=>simp only[df,bD];cases x<;>first|rfl|(simp[T8]at h)
def vz{x y:Value}(h:T8 x=true)(t:TypeId):binOp .eql t x y=(do pure (.bool (<-Op.equal t x y)):Sem Value)/\binOp .neq t x y=(do pure (.bool (!(<-Op.equal t x y))):Sem Value):=by cases x<;>first|exact⟨rfl,rfl⟩|(simp[T8]at h)
def CK{N:aG}{v:HV}{u:Value}{k:Nat}{q:Bool}(h:HR β N w v u)(g:nY k v=some q){t:TypeId}{n:Value}(i:Gb P k t n):(∀op x y,(eqGuard op t x y u n).run P w=.ok () w/\(eqGuard op t x y n u).run P w=.ok () w)/\
      (binOp .eql t u n).run P w=.ok (.bool q) w/\(binOp .eql t n u).run P w=.ok (.bool q) w/\(binOp .neq t u n).run P w=.ok (.bool !q) w/\(binOp .neq t n u).run P w=.ok (.bool !q) w:=by
  obtain⟨d,f⟩:=Hw h g i;obtain⟨b,c⟩:=CJ h g i 9999;have b:(Op.equal t u n).run P w=.ok q w:=b;have c:(Op.equal t n u).run P w=.ok q w:=c;refine⟨λop x y=>⟨zO d op t x y,zO f op t x y⟩,?_,?_,?_,?_⟩
  . rw[(vz d t).1];simp[b]
  . rw[(vz f t).1];simp[c]
  . rw[(vz d t).2];simp[b]
  rw[(vz f t).2];simp[c]
def O4(z:bW M C β s w)(r:dN β (Live M s β) w e a){go:Oper}{k:Nat}{neg:Bool}{x:X}(c:ba P (.niq k neg x) go.op=true):ov M C P β s w a go (u9 k neg x e s):=by
 cases i:go.op<;>rw[i]at c<;>try cases c
 rename_i op t g h I;simp only[ba,aL]at c;obtain⟨dA,c⟩:=c;unfold u9;cases y:bw x e with
 |none=>trivial
 |some p=>
  show ov M C P β s w a go (bR (nY k p) (λq=>.v (.bool (q != neg)) s) .bad);cases A:nY k p with
  |none=>trivial
  |some q=>
   have fin:∀(u n:Value),HR β (Live M s β) w p u->Gb P k t n->(a.eval g=u/\a.eval h=n∨a.eval g=n/\a.eval h=u)->ov M C P β s w a go (.v (.bool (q != neg)) s):=by
    intro u n B D j;obtain⟨m,E,F,G,H⟩:=CK B A D;refine .val (u:=.bool (q != neg)) z ?_ (.bool _);simp only[execOp,i]
    split at dA
    .have b:neg=false:=by simpa using dA
     subst b;rcases j with⟨d,f⟩|⟨d,f⟩
     .simp[d,f,(m .eql g h).1,E]
     simp[d,f,(m .eql g h).2,F]
    .have b:neg=true:=dA;subst b;rcases j with⟨d,f⟩|⟨d,f⟩
     .simp[d,f,(m .neq g h).1,G]
     simp[d,f,(m .neq g h).2,H]
    cases dA
   split at c
   case h_5=>cases c
   all_goals
    simp only[n9,aL]at c;rcases c with⟨o,l⟩|⟨o,l⟩
    .split at l
     .refine fin _ _ (aH r o y) ?_ (.inl ⟨rfl,rfl⟩)
      first
       |exact .inl ⟨rfl,⟨_,by assumption⟩,rfl⟩
       |exact .inr (.inl ⟨rfl,⟨_,_,by assumption⟩,rfl⟩)
       |exact .inr (.inr (.inl ⟨rfl,⟨_,_,_,by assumption⟩,rfl⟩))
       |exact .inr (.inr (.inr ⟨rfl,⟨_,by assumption⟩,rfl⟩))
     cases l
    split at l
    .refine fin _ _ (aH r o y) ?_ (.inr ⟨rfl,rfl⟩)
     first
      |exact .inl ⟨rfl,⟨_,by assumption⟩,rfl⟩
      |exact .inr (.inl ⟨rfl,⟨_,_,by assumption⟩,rfl⟩)
      |exact .inr (.inr (.inl ⟨rfl,⟨_,_,_,by assumption⟩,rfl⟩))
      |exact .inr (.inr (.inr ⟨rfl,⟨_,by assumption⟩,rfl⟩))
    cases l
def eQ.extract{N:aG}{l:ai}{cs:Array Value}(h:eQ β N w l cs.toList)(i n:Nat):eQ β N w ((l.drop i).take n) (cs.extract i (i+n)).toList:=by
 have d:(cs.extract i (i+n)).toList=(cs.toList.drop i).take n:=by rw[OY,OZ];congr 1;omega
 rw[d];refine⟨by simp only[od,Ej];rw[h.1],λj v u b c=>?_⟩;have f:j<n:=by have:=(aU.1 b).1;simp at this;omega
 rw[rN f,kX]at b c;exact h.2 _ v u b c
def wu:∀(b c d f:ai),b.length=c.length->sQ (b++d) (c++f)=(match sQ b c with|some true=>sQ d f|some false=>some false|none=>none)
 |[],[],_,_,_=>rfl
 |x::b,y::c,d,f,h=>by
  simp only[bo,sQ];cases g:x.zf y with
  |none=>rfl
  |some q=>cases q with|true=>exact wu b c d f (by simpa using h)|false=>rfl
 |[],_::_,_,_,h=>by simp at h
 |_::_,[],_,_,h=>by simp at h
def lP:∀{b:az} {l:ai},dt b l=true->l.length=b.length
 |[],[],_=>rfl
 |k::b,v::l,h=>by simp only[dt,aL]at h;simp[lP h.2]
 |[],_::_,h=>by simp[dt]at h
 |_::_,[],h=>by simp[dt]at h
def lQ:∀{c b:az} {l:ai},dt (c++b) l=true->dt c (l.take c.length)=true/\dt b (l.drop c.length)=true
 |[],_,l,h=>by simpa[dt]using h
 |k::c,b,v::l,h=>by simp only[bo,dt,aL]at h;obtain⟨d,f⟩:=lQ h.2;simp only[aB,List.take_succ_cons,List.drop_succ_cons,dt,aL];exact⟨⟨h.1,d⟩,f⟩
 |_::_,_,[],h=>by simp[dt]at h
def zP(P:Program)(t:TypeId)(x:Value):Prop:=(dM P t=some true/\∃b,x=.agg b)∨(dM P t=some false/\x.cells= #[x])
def qL{N:aG}{t:TypeId}{c:az}(k:dI P t=some c.length){l:ai}{cs:Array Value}(h:eQ β N w l cs.toList){bj:Nat}(m:∀v∈l,v.one=true)(o:bj+c.length<=l.length)(n:∃q,dM P t=some q/\(q=false->c.length=1)):
  ∃x,(part t cs bj).run P w=.ok x w/\zP P t x/\eQ β N w ((l.drop bj).take c.length) x.cells.toList:=by
 obtain⟨q,f,g⟩:=n;cases q with
 |true=>refine⟨.agg (cs.extract bj (bj+c.length)),?_,.inl ⟨f,_,rfl⟩,h.extract bj c.length⟩;simp[part,kO f,ga k]
 |false=>
  have g:=g rfl;have d:bj<cs.size:=by have:=h.1;simp at this;omega
  have b:bj<l.length:=by omega
  have i:=h.2 bj l[bj] cs[bj] (aX b) (by simp[d]);have j:=m l[bj] (cb b);refine⟨cs[bj],by simp[part,kO f,fW d],.inr ⟨f,i.single j⟩,?_⟩;rw[i.single j,g];have:(l.drop bj).take 1=[l[bj]]:=by rw[uv b];rfl
  rw[this];exact .cons i .nil
def sZ{d:Nat}{t:TypeId}{b:az}(h:eY P d t=some b):∃q,dM P t=some q/\(q=false->b.length=1):=by
 cases d with
 |zero=>simp[eY]at h
 |succ d=>
  unfold eY at h;unfold dM
  split at h<;>rename_i c<;>first
   |(rw[c];cases h;exact⟨false,rfl,λ_=>rfl⟩)
   |(rw[c];exact⟨true,rfl,λf=>by cases f⟩)
   |cases h
def EqAt(β:Bt)(N:aG)(P:Program)(w:World)(D:Nat)(t:TypeId)(b:az):Prop:=∀(x y:Value) (l m:ai) (q:Bool),zP P t x->zP P t y->eQ β N w l x.cells.toList->eQ β N w m y.cells.toList->
 dt b l=true->dt b m=true->sQ l m=some q->(Op.equalIn D t x y).run P w=.ok q w
def rP{b:az}{l:ai}(h:dt b l=true):∀v∈l,v.one=true:=by
 induction b generalizing l with
 |nil=>cases l with|nil=>simp|cons=>simp[dt]at h
 |cons k b f=>cases l with|nil=>simp|cons v l=>
   simp only[dt,aL]at h;intro x c;rcases bk.1 c with rfl|c
   .have d:=h.1;unfold ag2 at d
    split at d<;>first|rfl|cases d
   exact f h.2 x c
def Hx{N:aG}(d D:Nat)(ih:∀(t:TypeId) (c:az),eY P d t=some c->EqAt β N P w D t c):∀(k:List Field) (bj:Nat) (c:az),eY.wk P d k bj=some c->
  ∀(xs ys:Array Value) (l m:ai) (q:Bool),eQ β N w l xs.toList->eQ β N w m ys.toList->bj+c.length=l.length->l.length=m.length->(∀v∈l,v.one=true)->(∀v∈m,v.one=true)->
   dt c (l.drop bj)=true->dt c (m.drop bj)=true->sQ (l.drop bj) (m.drop bj)=some q->(Op.eqFields D xs ys k).run P w=.ok q w:=by
 intro k
 induction k with
 |nil=>intro bj c b xs ys l m q o p n H r u I J g;simp only[eY.wk,sU,bQ]at b;subst b;have z:l.drop bj=[]:=O5 (by simp at n;omega);have A:m.drop bj=[]:=O5 (by simp at n;omega);rw[z,A]at g;cases g;rfl
 |cons f k B=>
  intro bj c b xs ys l m q o p n H r u I J g;simp only[eY.wk,sU]at b
  split at b
  case isFalse=>cases b
  rename_i E;simp only[aL,wv,ne_eq,bU]at E
  split at b
  case h_2=>cases b
  rename_i j i
  split at b
  case isFalse=>cases b
  rename_i h;have h:=bU.1 h
  split at b
  case h_2=>cases b
  rename_i T F;simp only[bQ]at b;subst b;rw[bZ]at n;obtain⟨V,L⟩:=lQ I;obtain⟨W,O⟩:=lQ J;rw[IU]at L O;obtain⟨x,X,Y,Z⟩:=qL h o (bj:=bj) r (by omega) (sZ i);obtain⟨y,p4,p5,p6⟩:=qL h p (bj:=bj) u (by omega) (sZ i);have z:l.drop bj=(l.drop bj).take j.length++l.drop (bj+j.length):=by rw[<-List.drop_drop,Ep]
  have A:m.drop bj=(m.drop bj).take j.length++m.drop (bj+j.length):=by rw[<-List.drop_drop,Ep]
  rw[z,A,wu _ _ _ _ (by simp;omega)]at g;cases G:sQ ((l.drop bj).take j.length) ((m.drop bj).take j.length)with
  |none=>rw[G]at g;cases g
  |some Q=>
   have:=ih _ _ i x y _ _ Q Y p5 Z p6 V W G;simp only[Op.eqFields];rw[au E.1];simp only[E.2,Sem.run_bind,X,p4,this,Result.andThen_ok];rw[G]at g;cases Q with
   |false=>cases g;simp
   |true=>simp only[mB,df,bD];exact B _ T F xs ys l m q o p (by omega) H r u L O g
def zQ{N:aG}:∀(d j:Nat) (t:TypeId) (p:az),eY P d t=some p->EqAt β N P w (d+j) t p:=by
 intro d
 induction d with
 |zero=>intro j t p h;simp[eY]at h
 |succ d Y=>
  intro j t p h x y l m q O Q F G tl o r;rw[show d+1+j=(d+j)+1 by omega];have f:∀k,p=[k]->dM P t=some false->∃v i,l=[v]/\m=[i]/\ag2 k v=true/\ag2 k i=true/\HR β N w v x/\HR β N w i y/\v.zf i=some q:=by
   intro k E g;subst E;have H:x.cells= #[x]:=by
    rcases O with⟨b,_⟩|⟨_,b⟩
    .rw[g]at b;cases b
    exact b
   have I:y.cells= #[y]:=by
    rcases Q with⟨b,_⟩|⟨_,b⟩
    .rw[g]at b;cases b
    exact b
   rw[H]at F;rw[I]at G;cases l with
   |nil=>simp[dt]at tl
   |cons v l=>
    cases l with
    |cons Z l=>simp[dt]at tl
    |nil=>
     cases m with
     |nil=>simp[dt]at o
     |cons i m=>
      cases m with
      |cons Z m=>simp[dt]at o
      |nil=>
       simp only[dt,jL]at tl o;refine⟨v,i,rfl,rfl,tl,o,F.2 0 v x rfl rfl,G.2 0 i y rfl rfl,?_⟩;simp only[sQ]at r
       split at r
       .rename_i h0;cases r;exact h0
       .rename_i h0;cases r;exact h0
       cases r
  unfold eY at h
  split at h
  .rename_i k c;simp only[bQ]at h;subst h;obtain⟨v,i,rfl,rfl,u,z,A,B,n⟩:=f 0 rfl (by simp[dM,c]);cases A<;>simp only[ag2,df]at u;cases B<;>simp only[ag2,df]at z;rename_i T n1 k2 n2;simp only[HV.zf]at n;by_cases E:T=k2
   .subst E;simp only[eV,cond_true,vy,bQ]at n;subst n;rw[run_equalIn_int (P:=P) w (d+j) t T k n1 n2 c];rfl
   simp[E]at n
  .rename_i c;simp only[bQ]at h;subst h;obtain⟨v,i,rfl,rfl,u,z,A,B,n⟩:=f 1 rfl (by simp[dM,c]);cases A<;>simp only[ag2,df]at u;cases B<;>simp only[ag2,df]at z;simp only[HV.zf,bQ]at n;subst n;exact run_equalIn_bool (P:=P) w (d+j) t _ _ c
  .rename_i c;simp only[bQ]at h;subst h;obtain⟨v,i,rfl,rfl,u,z,A,B,n⟩:=f 2 rfl (by simp[dM,c]);cases A<;>simp only[ag2,df]at u;cases B<;>simp only[ag2,df]at z;simp only[HV.zf,bQ,sX]at n;subst n;exact run_equalIn_string (P:=P) w (d+j) t _ _ c
  .rename_i V c
   split at h
   .cases h
   rename_i J;have g:dM P t=some true:=by simp[dM,c]
   obtain⟨W,rfl⟩:∃L,x=.agg L:=by
    rcases O with⟨_,b⟩|⟨b,_⟩
    .exact b
    rw[g]at b;cases b
   obtain⟨X,rfl⟩:∃L,y=.agg L:=by
    rcases Q with⟨_,b⟩|⟨b,_⟩
    .exact b
    rw[g]at b;cases b
   have D:P.fieldsOf t=V:=by simp[Program.fieldsOf,c]
   rw[run_equalIn_struct (P:=P) w (d+j) t W X (by rw[D];exact c) (by simpa using J),D];have l1:=lP tl;have l2:=lP o;exact Hx d (d+j) (Y j) V.toList 0 p h W X l m q F G (by omega) (by omega) (rP tl) (rP o) tl o r
  cases h
def IV{N:aG}{v d:HV}{x y:Value}(h:v.zf d=some true)(b:HR β N w v x)(c:HR β N w d y):x=y:=by
 unfold HV.zf at h
 split at h
 .rename_i k n g m;by_cases f:k=g
  .subst f;simp only[eV,cond_true,vy,bQ,bY]at h;subst h;cases b;cases c;rfl
  simp[f]at h
 .simp only[bQ,bU]at h;subst h;cases b;cases c;rfl
 .rename_i l i;simp only[bQ]at h;have:=(oM _ _).1 h;subst this;cases b;generalize j:eb _=i at*;cases c;rw[CD j]
 cases h
def CL{N:aG}:∀{l m:ai} {xs ys:List Value},sQ l m=some true->eQ β N w l xs->eQ β N w m ys->xs=ys:=by
 intro l
 induction l with
 |nil=>
  intro m xs ys h b c;cases m with
  |nil=>have d:=b.1;have f:=c.1;simp at d f;rw[d,f]
  |cons=>cases h
 |cons v l g=>
  intro m xs ys h b c;cases m with
  |nil=>cases h
  |cons q m=>
   obtain⟨x,i,rfl,j,k⟩:=b.split;obtain⟨y,n,rfl,o,p⟩:=c.split;simp only[sQ]at h
   split at h
   .rename_i h0;rw[IV h0 j o,g h k p]
   .cases h
   cases h
def Hy(K:Kd)(v:HV):ai:=bif K.ag then(match v with|.agg l=>l|_=>[])else [v]
def AU{b:az}{k:HV}(h:pX ⟨true,b⟩ k=true):∃l,k=.agg l/\dt b l=true:=by
 cases k with
 |agg l=>exact⟨l,rfl,h⟩
 |_=>cases h
def iQ{N:aG}{K:Kd}{T:TypeId}(d:nj P K T=true){k:HV}{u:Value}(b:pX K k=true)(h:HR β N w k u):
  zP P T u/\eQ β N w (Hy K k) u.cells.toList/\dt K.ks (Hy K k)=true:=by
 obtain⟨f,ks⟩:=K;simp only[nj,aL,bU]at d;cases f with
 |true=>obtain⟨l,rfl,g⟩:=AU b;cases h with|agg _ o h0 c i=>exact⟨.inl ⟨d.2,_,rfl⟩,⟨by simpa[Hy,Value.cells]using c,λj x y m n=>i j x y m (by simpa[Value.cells]using n)⟩,g⟩
 |false=>have b:dt ks [k]=true:=b;have c:=h.single (rP b k (by simp));refine⟨.inr ⟨d.2,c⟩,?_,b⟩;rw[c];exact .cons h .nil
def rQ{K:Kd}{x y:HV}{q:Bool}(h:pW K x y=some q):pX K x=true/\pX K y=true/\sQ (Hy K x) (Hy K y)=some q:=by
 obtain⟨d,c⟩:=K;cases d with
 |true=>
  cases x with
  |agg l=>
   cases y with
   |agg m=>
    have h:(bif dt c l&&dt c m then sQ l m else none)=some q:=h;cases b:(dt c l&&dt c m)with
    |false=>rw[b]at h;cases h
    |true=>rw[b]at h;simp only[aL]at b;exact⟨b.1,b.2,h⟩
   |_=>cases h
  |_=>cases h
 |false=>
  have h:(bif dt c [x]&&dt c [y]then x.zf y else none)=some q:=h;cases b:(dt c [x]&&dt c [y])with
  |false=>rw[b]at h;cases h
  |true=>rw[b]at h;simp only[aL]at b;refine⟨b.1,b.2,?_⟩;have f:x.zf y=some q:=h;show sQ [x] [y]=some q;simp only[sQ,f];cases q<;>rfl
def Er(β:Bt)(N:aG)(w:World)(es:List (HV×HV))(l:List MapEntry):Prop:=l.length=es.length/\∀(i:Nat) (p:HV×HV) (x:MapEntry),es[i]?=some p->l[i]?=some x->HR β N w p.1 x.key/\HR β N w p.2 x.val
def Er.split{N:aG}{p:HV×HV}{es:List (HV×HV)}{l:List MapEntry}(h:Er β N w (p::es) l):∃x l',l=x::l'/\HR β N w p.1 x.key/\HR β N w p.2 x.val/\Er β N w es l':=by cases l with|nil=>have:=h.1;simp at this|cons x l'=>refine⟨x,l',rfl,(h.2 0 p x rfl rfl).1,(h.2 0 p x rfl rfl).2,by have:=h.1;simpa using this,λi q y b c=>h.2 (i+1) q y (by simpa using b) (by simpa using c)⟩
def p8(β:Bt)(N:aG)(w:World)(u:Value)(l:List MapEntry)(b:Nat):Nat×Option HV->Option (Nat×Value)->Prop
 |(j,some v),o=>∃x:MapEntry,b<=j/\l[j-b]?=some x/\o=some (j,x.val)/\HR β N w v x.val/\x.key=u
 |(n,none),o=>o=none/\n=b+l.length
def p8.cons{N:aG}{u:Value}{x:MapEntry}{l:List MapEntry}{b:Nat}{r:Nat×Option HV}{o:Option (Nat×Value)}(h:p8 β N w u l (b+1) r o):p8 β N w u (x::l) b r o:=by obtain⟨j,v⟩:=r;cases v with|none=>exact⟨h.1,by have:=h.2;simp;omega⟩|some v=>obtain⟨y,i,c,d,f,g⟩:=h;refine⟨y,by omega,?_,d,f,g⟩;rw[show j-b=(j-(b+1))+1 by omega];exact c
def ahk{N:aG}{K:Kd}{T:TypeId}(c:nj P K T=true)(o:K.ag=false){D:TypeDesc}(r:P.underlying T=some D){v j:HV}{x y:Value}{q:Bool}(h:pW K v j=some q)(m:HR β N w v x)(n:HR β N w j y):
  Instr.sameNow D x y=some q:=by
 obtain⟨ag,t⟩:=K;cases o;obtain⟨u,z,b⟩:=rQ h;have g:dt t [v]=true:=(iQ c u m).2.2;have i:dt t [j]=true:=(iQ c z n).2.2;clear u z;have h0:v.zf j=some q:=by
  have b:sQ [v] [j]=some q:=b;simp only[sQ]at b
  split at b
  .rename_i p;cases b;exact p
  .rename_i p;cases b;exact p
  cases b
 simp only[nj,aL,bU]at c;have d:=c.1;rw[show 8=7+1 from rfl]at d;unfold eY at d;rw[r]at d
 split at d
 .rename_i k f;cases f;cases d;simp only[dt,jL]at g i;clear h b c;cases m<;>simp only[ag2,df]at g;cases n<;>simp only[ag2,df]at i;rename_i A B E F;simp only[HV.zf]at h0;by_cases l:A=E
  .subst l;simp only[eV,cond_true,vy,bQ]at h0;subst h0;simp only[Instr.sameNow,bp];by_cases G:B=F<;>simp[G]
  simp[l]at h0
 .rename_i f;cases f;cases d;clear h b c;simp only[dt,jL]at g i;cases m<;>simp only[ag2,df]at g;cases n<;>simp only[ag2,df]at i;simp only[HV.zf,bQ]at h0;subst h0;rfl
 .rename_i f;cases f;cases d;clear h b c;simp only[dt,jL]at g i;cases m<;>simp only[ag2,df]at g;cases n<;>simp only[ag2,df]at i;simp only[HV.zf,bQ,sX]at h0;subst h0;simp only[Instr.sameNow,beq_toListBytes]
 .rename_i H f;cases f;have:=c.2;simp[dM,r]at this
 cases d
def Gc{N:aG}{K:Kd}{v f:HV}{x y:Value}(h:pW K v f=some true)(b:HR β N w v x)(c:HR β N w f y):x=y:=by
 obtain⟨i,u⟩:=K;obtain⟨k,n,d⟩:=rQ h;cases i with
 |false=>have d:sQ [v] [f]=some true:=d;have:=CL d (.cons b .nil) (.cons c .nil);simpa using this
 |true=>
  obtain⟨l,rfl,_⟩:=AU k;obtain⟨m,rfl,_⟩:=AU n;cases b with
  |agg _ o z p q=>cases c with|agg _ g A r t=>have d:sQ l m=some true:=d;have:=CL d (xs:=o.toList) (ys:=g.toList) ⟨by simpa using p,λj x y b c=>q j x y b (by simpa using c)⟩ ⟨by simpa using r,λj x y b c=>t j x y b (by simpa using c)⟩;rw[OM.1 this]
def jz{N:aG}{K:Kd}{T:TypeId}(g:nj P K T=true){k:HV}{u:Value}(d:HR β N w k u){es:List (HV×HV)}{l:List MapEntry}(b:Er β N w es l){r:Nat×Option HV}(h:dZ K es k 0=some r):
  ∃o,(Instr.findKey T u l).run P w=.ok o w/\p8 β N w u l 0 r o:=by
 have c:dM P T=some K.ag:=by simp only[nj,aL,bU]at g;exact g.2
 obtain⟨D,j⟩:∃D,P.underlying T=some D:=by
  unfold dM at c;cases m:P.underlying T with
  |none=>rw[m]at c;cases c
  |some D=>exact⟨D,rfl⟩
 cases n:K.ag with
 |false=>
  have gen:∀(es:List (HV×HV)) (l:List MapEntry) (i:Nat) (r:Nat×Option HV),Er β N w es l->dZ K es k i=some r->∃o,Instr.findNow D u l i=some o/\p8 β N w u l i r o:=by
   intro es
   induction es with
   |nil=>
    intro l i r b h;have:=b.1;cases l with
    |nil=>cases h;exact⟨none,rfl,rfl,rfl⟩
    |cons=>simp at this
   |cons p es G=>
    intro l i r b h;obtain⟨x,v,rfl,t,H,I⟩:=b.split;obtain⟨O,Q⟩:=p;simp only[dZ]at h
    split at h
    .rename_i f;cases h;refine⟨some (i,x.val),?_,x,aV _,by simp,rfl,H,(Gc f d t).symm⟩;simp only[Instr.findNow,ahk g n j f d t]
    .rename_i f;obtain⟨o,J,L⟩:=G v (i+1) r I h;refine⟨o,?_,L.cons⟩;simp only[Instr.findNow,ahk g n j f d t];exact J
    cases h
  obtain⟨o,B,E⟩:=gen es l 0 r b h;refine⟨o,?_,E⟩;unfold Instr.findKey;simp only[Sem.run_bind,run_underlying j,Result.andThen_ok,B,Sem.run_pure]
 |true=>
  have y:∃F,D=.struct F:=by
   simp only[nj,aL,bU]at g;have z:=g.1;rw[show 8=7+1 from rfl]at z;unfold eY at z;rw[j]at z;rw[n]at c
   split at z
   .rename_i m;cases m;simp[dM,j]at c
   .rename_i m;cases m;simp[dM,j]at c
   .rename_i m;cases m;simp[dM,j]at c
   .rename_i F m;cases m;exact⟨_,rfl⟩
   cases z
  obtain⟨F,rfl⟩:=y;have gen:∀(es:List (HV×HV)) (l:List MapEntry) (i:Nat) (r:Nat×Option HV),Er β N w es l->dZ K es k i=some r->∃o,(Instr.findAsking T u l i).run P w=.ok o w/\p8 β N w u l i r o:=by
   intro es
   induction es with
   |nil=>
    intro l i r b h;have:=b.1;cases l with
    |nil=>cases h;exact⟨none,rfl,rfl,rfl⟩
    |cons=>simp at this
   |cons p es G=>
    intro l i r b h;obtain⟨x,v,rfl,t,H,I⟩:=b.split;obtain⟨O,Q⟩:=p;simp only[dZ]at h;have A:∀q,pW K k O=some q->(Op.equal T u x.key).run P w=.ok q w:=by intro q f;obtain⟨V,W,X⟩:=rQ f;obtain⟨Y,Z,d3⟩:=iQ g V d;obtain⟨e1,e2,e3⟩:=iQ g W t;simp only[nj,aL,bU]at g;exact zQ 8 9992 T K.ks g.1 u x.key _ _ q Y e1 Z e2 d3 e3 X
    split at h
    .rename_i f;cases h;refine⟨some (i,x.val),?_,x,aV _,by simp,rfl,H,(Gc f d t).symm⟩;simp only[Instr.findAsking,Sem.run_bind,A _ f,Result.andThen_ok,bp,Sem.run_pure]
    .rename_i f;obtain⟨o,J,L⟩:=G v (i+1) r I h;refine⟨o,?_,L.cons⟩;simp only[Instr.findAsking,Sem.run_bind,A _ f,Result.andThen_ok,df,bD];exact J
    cases h
  obtain⟨o,B,E⟩:=gen es l 0 r b h;unfold Instr.findKey;cases l with|nil=>refine⟨o,?_,E⟩;simp only[Sem.run_bind,run_underlying j,Result.andThen_ok,Instr.findNow,Sem.run_pure];simpa[Instr.findAsking]using B|cons x v=>refine⟨o,?_,E⟩;simp only[Sem.run_bind,run_underlying j,Result.andThen_ok];have:Instr.findNow (.struct F) u (x::v) 0=none:=rfl;rw[this];exact B
end sound
def ny(o:Ky)(a b:Nat)(h:Tr Ob):∀(ms:cg),
  (∀x,aj (bN h o a b ms).1 x=aj h x∨(aj (bN h o a b ms).1 x=none/\x≠o))/\
  (∀x∈ms,∀t f i g,aj (bN h o a b ms).1 x=some (.cells t f i g)->x∈(bN h o a b ms).2/\(x≠o->¬(f<b/\a<i)))/\
  (∀x∈(bN h o a b ms).2,x∈ms)
 |[]=>⟨λx=>.inl rfl,by simp,by simp[bN]⟩
 |m::r=>by
  obtain⟨k,n,p⟩:=ny o a b h r;generalize G:bN h o a b r=q at k n p;obtain⟨H,l⟩:=q;simp only[bN,G];cases v:m.beq o with
  |true=>
   have j:=(Ky.beq_iff m o).1 v;simp only[cond_true];refine⟨k,λx c t f i g d=>?_,λx c=>?_⟩
   .rcases bk.1 c with rfl|c
    .exact⟨by simp,λy=>absurd j y⟩
    obtain⟨z,A⟩:=n x c t f i g d;exact⟨by simp[z],A⟩
   rcases bk.1 c with rfl|c
   .simp
   simp[p x c]
  |false=>
   have j:m≠o:=λe=>by rw[(Ky.beq_iff m o).2 e]at v;cases v
   simp only[cond_false]
   split
   .rename_i I B D J E;cases u:(Nat.blt B b&&Nat.blt a D)with
    |true=>
     simp only[cond_true];refine⟨λx=>?_,λx c t f i g d=>?_,λx c=>by simp[p x c]⟩
     .simp only[af];by_cases e:x=m
      .simp only[e,bp];exact .inr ⟨trivial,j⟩
      simp only[e,bD];exact k x
     simp only[af]at d;by_cases e:x=m
     .simp[e]at d
     simp only[e,bD]at d;rcases bk.1 c with rfl|c
     .exact absurd rfl e
     exact n x c t f i g d
    |false=>
     simp only[cond_false];refine⟨k,λx c t f i g d=>?_,λx c=>?_⟩
     .rcases bk.1 c with rfl|c
      .refine⟨by simp,λ_ F=>?_⟩;rw[E]at d;cases d;rw[ck.2 F.1,ck.2 F.2]at u;cases u
      obtain⟨z,A⟩:=n x c t f i g d;exact⟨by simp[z],A⟩
     rcases bk.1 c with rfl|c
     .simp
     simp[p x c]
   rename_i E;refine⟨k,λx c t f i g d=>?_,λx c=>by simp[p x c]⟩;rcases bk.1 c with rfl|c
   .exact absurd d (E t f i g)
   exact n x c t f i g d
def qM:∀(n:Nat) (ms:cg) (h:Tr Ob),
  (∀x,aj (eS h n ms).1 x=aj h x∨aj (eS h n ms).1 x=none)/\
  (∀x∈ms,∀ob,aj (eS h n ms).1 x=some ob->x∈(eS h n ms).2)/\(∀x∈(eS h n ms).2,x∈ms)
 |0,[],h=>⟨λx=>.inl rfl,by simp,by simp[eS]⟩
 |_+1,[],h=>⟨λx=>.inl rfl,by simp,by simp[eS]⟩
 |0,m::r,h=>by
  obtain⟨f,g,i⟩:=qM 0 r (av none m h);simp only[eS];refine⟨λx=>?_,λx b ob c=>?_,λx b=>by simp[i x b]⟩
  .rcases f x with d|d
   .rw[d,af];split
    .exact .inr rfl
    exact .inl rfl
   exact .inr d
  rcases bk.1 b with rfl|b
  .rcases f x with d|d
   .rw[d,af,au rfl]at c;cases c
   rw[d]at c;cases c
  exact g x b ob c
 |n+1,m::r,h=>by
  obtain⟨f,g,i⟩:=qM n r h;generalize j:eS h n r=q at f g i;obtain⟨k,l⟩:=q;simp only[eS,j];refine⟨f,λx b ob c=>?_,λx b=>?_⟩
  .rcases bk.1 b with rfl|b
   .simp
   simp[g x b ob c]
  rcases bk.1 b with rfl|b
  .simp
  simp[i x b]
section sound
variable{M:aG}{C:eR}{P:Program}{β:Bt}{s:HS}{w:World}{e:En}{a:Act}
def bW.sub(h:bW M C β s w){j:Tr Ob}{f:Tr cg}(r:∀x,aj j x=aj s.h x∨aj j x=none)
  (u:∀o t v y g,aj j o=some (.cells t v y g)->∃ms,aj f g=some ms/\o∈ms)(l:∀g ms,aj f g=some ms->g.toNat<s.nx.toNat):bW M C β {h:=j,nx:=s.nx,gr:=f,ty:=s.ty} w:=by
 have c:∀{x ob},aj j x=some ob->aj s.h x=some ob:=λ{x ob} k=>by
  rcases r x with d|d
  .rw[<-d];exact k
  rw[d]at k;cases k
 have z:∀b,Live M {h:=j,nx:=s.nx,gr:=f,ty:=s.ty} β b->Live M s β b:=by
  rintro b (m|⟨n,ob,pl,d,i,rfl⟩)
  .exact .inl m
  exact .inr ⟨n,ob,pl,c d,i,rfl⟩
 refine⟨h.lt,λo ob A=>?_,λa b ob p pl q d i=>h.apart a b ob p pl q (c d) (c i),u,l,h.mlt,λb m ⟨n,ob,pl,d,i,B⟩=>h.sO b m ⟨n,ob,pl,c d,i,B⟩,h.zl⟩;obtain⟨pl,d,i⟩:=h.obj o ob (c A);exact⟨pl,d,i.keep (Bt.le_refl _) (λb _ k=>z b k) (cJ.refl _ _) rfl⟩
def Ext.sub{c:Tr Ob}{d:Tr cg}(j:∀x,aj c x=aj s.h x∨aj c x=none):Ext M β s w β {h:=c,nx:=s.nx,gr:=d,ty:=s.ty} w:=by
 refine⟨Bt.le_refl _,cJ.refl _ _,?_,rfl,rfl,rfl,λ_ r h=>⟨r,h⟩,aV _,λ_ _=>rfl⟩
 rintro b _ (k|⟨i,ob,pl,f,l,rfl⟩)
 .exact .inl k
 refine .inr ⟨i,ob,pl,?_,l,rfl⟩;rcases j i with g|g
 .rw[<-g];exact f
 rw[g]at f;cases f
def bW.oE(h:bW M C β s w){w':World}{o:Ky}{ob jV:Ob}{pl:Pl}(x:aj s.h o=some ob)(z:β o=some pl)
  (h5:w'.heap.size=w.heap.size)(u:∀b,b≠pl.b->w'.heap[b]?=w.heap[b]?)(Q:∀b E n,oO w b E n->oO w' b E n)(h6:w'.os=w.os)(h7:w'.tape=w.tape)(h8:w'.output=w.output)
  (h9:∀(r:Loop),w.heap[pl.b]?=some (.loop r)->∃r',w'.heap[pl.b]?=some (.loop r'))
  (hd:cJ (Live M s β) w w'->CA C β (Live M s β) w' pl jV)
  (T:∀o' y f,o'≠o->aj s.h o'=some y->β o'=some f->f.b=pl.b->cJ (Live M s β) w w'->CA C β (Live M s β) w' f y)
  (j:(∃t p q g t' A B,ob=.cells t p q g/\jV=.cells t' A B g)∨((∀t p q g,ob≠ .cells t p q g)/\∀t p q g,jV≠ .cells t p q g)):
  bW M C β (s.aJ o jV) w'/\Ext M β s w β (s.aJ o jV) w':=by
 have V:∀b,iO (s.aJ o jV) β b↔iO s β b:=by
  intro b;constructor
  .rintro⟨o',d,i,c,k,rfl⟩
   have c:aj (av (some jV) o s.h) o'=some d:=c;rw[af]at c;by_cases e:o'=o
   .subst e;exact⟨o',ob,i,x,k,rfl⟩
   rw[ar e]at c;exact⟨o',d,i,c,k,rfl⟩
  rintro⟨o',d,i,c,k,rfl⟩
  by_cases e:o'=o
  .subst e;exact⟨o',jV,i,by show aj (av (some jV) o' s.h) o'=_;rw[af,au rfl],k,rfl⟩
  exact⟨o',d,i,by show aj (av (some jV) o s.h) o'=_;rw[af,ar e];exact c,k,rfl⟩
 have Y:∀b,Live M (s.aJ o jV) β b↔Live M s β b:=λb=>or_congr Iff.rfl (V b)
 have D:Live M s β pl.b:=.inr ⟨o,ob,pl,x,z,rfl⟩;have W:cJ (Live M s β) w w':=⟨by omega,λb _ hN=>u b λe=>hN (by rw[e];exact D),Q⟩;refine⟨⟨λo' f hp=>?_,λo' d c=>?_,λa b d F i G c k H h4 v I=>?_,λo' t p q g c=>?_,h.vg,λb X=>by rw[h5];exact h.mlt b X,λb X ha=>h.sO b X ((V b).1 ha),λo E n x=>let⟨pl,c,k,H⟩:=h.zl o E n x;⟨pl,c,k.keep W,H⟩⟩,Bt.le_refl _,W,λb _ l=>(Y b).1 l,h6,h7,h8,λb r hr=>?_,aV _,λb X=>u b λe=>h.sO b X ⟨o,ob,pl,x,z,e.symm⟩⟩
 .have:=h.lt o' f hp;exact⟨this.1,by omega⟩
 .have c:aj (av (some jV) o s.h) o'=some d:=c;rw[af]at c;by_cases e:o'=o
  .rw[au e]at c;cases c;subst e;exact⟨pl,z,(hd W).keep (Bt.le_refl _) (λb _ l=>(Y b).1 l) (cJ.refl _ _) rfl⟩
  rw[ar e]at c;obtain⟨f,k,H⟩:=h.obj o' d c;refine⟨f,k,?_⟩;by_cases l:f.b=pl.b
  .exact(T o' d f e c k l W).keep (Bt.le_refl _) (λb _ l=>(Y b).1 l) (cJ.refl _ _) rfl
  exact H.keep (Bt.le_refl _) (λb _ l=>(Y b).1 l) W (u _ l)
 .have O:aj (av (some jV) o s.h) a=some d:=c;have J:aj (av (some jV) o s.h) b=some F:=k;clear c k;rw[af]at O J;by_cases Z:a=o
  .have L:b≠o:=λL=>v (Z.trans L.symm)
   rw[au Z]at O;cases O;rw[ar L]at J;subst Z;obtain⟨q1,t,p,q,g,t',A,B,q2,q3⟩:=h.apart a b ob F i G x J H h4 v I;refine⟨q1,?_⟩;rcases j with⟨u1,u2,u3,u4,u5,u6,u7,m,N⟩|⟨m,_⟩
   .rw[q2]at m;cases m;exact⟨_,_,_,_,_,_,_,N,q3⟩
   exact absurd q2 (m _ _ _ _)
  rw[ar Z]at O;by_cases L:b=o
  .rw[au L]at J;cases J;subst L;obtain⟨q1,t,p,q,g,t',A,B,q2,q3⟩:=h.apart a b d ob i G O x H h4 v I;refine⟨q1,?_⟩;rcases j with⟨u1,u2,u3,u4,u5,u6,u7,m,N⟩|⟨m,_⟩
   .rw[q3]at m;cases m;exact⟨_,_,_,_,_,_,_,q2,N⟩
   exact absurd q3 (m _ _ _ _)
  rw[ar L]at J;exact h.apart a b d F i G O J H h4 v I
 .have c:aj (av (some jV) o s.h) o'=some (.cells t p q g):=c;rw[af]at c;by_cases e:o'=o
  .rw[au e]at c;cases c;subst e;rcases j with⟨u1,u2,u3,u4,u5,u6,u7,m,N⟩|⟨_,N⟩
   .cases N;exact h.qK o' _ _ _ _ (m▸x)
   exact absurd rfl (N _ _ _ _)
  rw[ar e]at c;exact h.qK o' t p q g c
 by_cases l:b=pl.b
 .subst l;exact h9 r hr
 exact⟨r,by rw[u b l];exact hr⟩
def nz(cs:Array Value)(k:Nat):List Value->Array Value
 |[]=>cs
 |v::r=>nz (cs.setIfInBounds k v) (k+1) r
def fe:∀(vs:List Value) (cs:Array Value) (k:Nat),(nz cs k vs).size=cs.size
 |[],_,_=>rfl
 |v::r,cs,k=>by simp only[nz];rw[fe r];simp
def rR:∀(vs:List Value) (cs:Array Value) (k j:Nat),k+vs.length<=cs.size->(nz cs k vs)[j]?=if k<=j/\j<k+vs.length then vs[j-k]?else cs[j]?
 |[],cs,k,j,_=>by simp only[nz,aC];rw[ar (by omega)]
 |v::r,cs,k,j,h=>by
  simp only[aB]at h;simp only[nz,aB];rw[rR r _ (k+1) j (by simp;omega)];by_cases b:k+1<=j/\j<k+1+r.length
  .rw[au b,au (by omega),show j-k=(j-(k+1))+1 by omega];rfl
  rw[ar b];by_cases c:j=k
  .subst c;rw[au (by omega),wy (by omega)];simp
  rw[ar (by omega),oS (by omega)]
def jb(b o:Nat)(E:TypeId)(fr:Nat×Nat):∀(vs:List Value) (i:Nat) (w:World) (cs:Array Value),w.heap[b]?=some (.cells cs E fr)->IB fr cs.size->o+i+vs.length<=cs.size->(∀v∈vs,v.oneCell'=true)->
  (storeCells ⟨b,o,none⟩ vs i).run P w=.ok () {w with heap:=w.heap.setIfInBounds b (.cells (nz cs (o+i) vs) E fr)}
 |[],i,w,cs,d,_,_,_=>by
  simp only[storeCells,Sem.run_pure,nz]
  congr 1
  have c:=lt_of_block d;have:w.heap.setIfInBounds b (.cells cs E fr)=w.heap:=by
   apply AV;intro j;by_cases g:j=b
   .subst g;rw[wy c,d]
   rw[oS (λe=>g e.symm)]
  rw[this]
 |v::r,i,w,cs,d,k,q,p=>by
  simp only[aB]at q;have c:=lt_of_block d;have t:=p v (by simp);have f:w.cell? ⟨b,o+i,none⟩=some (cs[o+i]'(by omega)):=by simp[World.cell?,d,fW (show o+i<cs.size by omega)]
  have l:w.frozen? ⟨b,o+i,none⟩=false:=by
   simp only[World.frozen?,d];rcases k with rfl|k
   .simp
   simp;omega
  have h:w.setCell ⟨b,o+i,none⟩ v={w with heap:=w.heap.setIfInBounds b (.cells (cs.setIfInBounds (o+i) v) E fr)}:=by
   simp only[World.setCell,IL,df,bD]
   congr 1
   apply AV;intro j;rw[ta];by_cases g:b=j
   .subst g;rw[au rfl,d,wy c];rfl
   rw[ar g,oS g]
  have m:(store (Addr.add ⟨b,o,none⟩ i) v).run P w=.ok () {w with heap:=w.heap.setIfInBounds b (.cells (cs.setIfInBounds (o+i) v) E fr)}:=by
   rw[gA,<-h];unfold store;cases v<;>first
    |(simp[Value.oneCell']at t;done)
    |simp[Sem.run,f,l]
  have n:({w with heap:=w.heap.setIfInBounds b (.cells (cs.setIfInBounds (o+i) v) E fr)}:World).heap[b]?=some (.cells (cs.setIfInBounds (o+i) v) E fr):=by show(w.heap.setIfInBounds b _)[b]?=_;rw[wy c]
  have:=jb b o E fr r (i+1) _ (cs.setIfInBounds (o+i) v) n (by simpa using k) (by simp;omega) (λx u=>p x (by simp[u]));simp only[storeCells,Sem.run_bind,m,Result.andThen_ok,this,nz];rw[show o+i+1=o+(i+1) by omega];simp
def dG(w:World)(b:Nat)(o:Obj):World:={w with heap:=w.heap.setIfInBounds b o}
def fE{w:World}{b:Nat}{o o':Obj}(h:w.heap[b]?=some o):(dG w b o').heap[b]?=some o':=by show(w.heap.setIfInBounds b o')[b]?=_;rw[wy (lt_of_block h)]
def bP(w:World){b c:Nat}(o:Obj)(h:c≠b):(dG w b o).heap[c]?=w.heap[c]?:=by show(w.heap.setIfInBounds b o)[c]?=_;rw[oS (λe=>h e.symm)]
def rS{w:World}{b:Nat}{cs d:Array Value}{E:TypeId}{fr Ls:Nat×Nat}(h:w.heap[b]?=some (.cells cs E fr))(k:d.size=cs.size)(x:Nat)(F:TypeId)(n:Nat)(i:oO w x F n):oO (dG w b (.cells d E Ls)) x F n:=by
 obtain⟨c,f,g,j⟩:=i;by_cases e:x=b
 .subst e;rw[h]at g;cases g;exact⟨d,Ls,fE h,by omega⟩
 exact⟨c,f,by rw[bP w _ e];exact g,j⟩
def jq{w:World}{b:Nat}{o o':Obj}(h:w.heap[b]?=some o)(g:jK o=true)(x:Nat)(F:TypeId)(n:Nat)(i:oO w x F n):oO (dG w b o') x F n:=by
 obtain⟨c,d,f,j⟩:=i;by_cases e:x=b
 .subst e;rw[h]at f;cases f;cases g
 exact⟨c,d,by rw[bP w _ e];exact f,j⟩
def bW.write(h:bW M C β s w){o:Ky}{pl:Pl}(y:β o=some pl){t:Tr HV}{D A:Nat}{g:Ky}(T:aj s.h o=some (.cells t D A g)){k:Nat}{l:ai}{vs:List Value}(h1:D<=k)(h2:k+l.length<=A)
  (V:eQ β (Live M s β) w l vs)(p:∀x∈l,x.one=true)
  (W:∀o' c t' F G g',o'≠o->aj s.h o'=some (.cells t' F G g')->β o'=some c->c.b=pl.b->g'=g->¬(F<k+l.length/\k<G)):
  pl.s<=k/\∃w',(storeCells ⟨pl.b,k-pl.s,none⟩ vs).run P w=.ok () w'/\bW M C β (s.aJ o (.cells (dh l k t) D A g)) w'/\Ext M β s w β (s.aJ o (.cells (dh l k t) D A g)) w':=by
 obtain⟨c,h3,h4⟩:=h.obj _ _ T;rw[y]at h3;cases h3;cases h4 with
 |cells _ _ _ _ H E O hs B X hn hc=>
  have hlen:=V.1;have d:k-pl.s+vs.length<=H.size:=by
   by_cases hz:l.length=0
   .by_cases hp:k<=A<;>omega
   omega
  have q:=rR vs H (k-pl.s);have I:=jb (P:=P) pl.b (k-pl.s) E O vs 0 w H B X (by simpa using d) (V.AS p);refine⟨by omega,dG w pl.b (.cells (nz H (k-pl.s) vs) E O),by simpa[dG]using I,?_⟩;refine h.oE T y (by simp[dG]) (λb j=>bP w _ j) (rS B (fe vs H _)) rfl rfl rfl (λr J=>by rw[B]at J;cases J) (λQ=>?_) (λo' L c N z f m Q=>?_) (.inl ⟨_,_,_,_,_,_,_,rfl,rfl⟩)
  .refine .cells _ D A g _ E O hs (fE B) (by rw[fe];exact X) (by rw[fe];exact hn) λi v Y Z n=>?_
   rw[fC]at n;rw[q (i-pl.s) d];by_cases J:k<=i/\i<k+l.length
   .rw[au J]at n;rw[au (by omega)];have hj:=(aU.1 n).1;refine⟨p v (cE n),vs[i-k]'(by omega),?_,(V.2 _ v _ n (aX (by omega))).keep (Bt.le_refl _) (ie.refl _ _) Q⟩;rw[show i-pl.s-(k-pl.s)=i-k by omega];exact aX (by omega)
   rw[ar J]at n;rw[ar (by omega)];obtain⟨b1,u,b2,b3⟩:=hc i v Y Z n;exact⟨b1,u,b2,b3.keep (Bt.le_refl _) (ie.refl _ _) Q⟩
  obtain⟨e1,t1,hq,ht,g1,t2,h7,h8,e2,e3⟩:=h.apart o o' _ L pl c T z y f N.symm m.symm;cases e2;subst e3;obtain⟨hg,h5,h6⟩:=h.obj _ _ z;rw[f]at h5;cases h5;have hx:=W o' c _ _ _ _ N z f m rfl;cases h6 with
  |cells _ _ _ _ hy E' k0 h9 j k1 ha hd=>
   rw[m,B]at j;cases j;refine .cells t2 h7 h8 g _ E O h9 (by rw[m];exact fE B) (by rw[fe];exact X) (by rw[fe];exact ha) λi v Y Z n=>?_
   obtain⟨b1,u,b2,b3⟩:=hd i v Y Z n;refine⟨b1,u,?_,b3.keep (Bt.le_refl _) (ie.refl _ _) Q⟩;rw[q (i-c.s) d,ar (by omega)];exact b2
def HS.wz{s s':HS}{o:Ky}{k:Nat}{l:ai}(h:s.store o k l=some s'):
  ∃t c d g ms,aj s.h o=some (.cells t c d g)/\c<=k/\k+l.length<=d/\aj s.gr g=some ms/\s.kT o k l t c d g ms=some s':=by
 obtain⟨b,i,j⟩:=jI h;obtain⟨t,c,d,g,rfl,m⟩:=Ob.nq j;obtain⟨n,p⟩:=jH m;obtain⟨q,r⟩:=jH p;obtain⟨ms,u,v⟩:=jI r;have f:=ej.1 q;rw[bK]at f;exact⟨t,c,d,g,ms,i,ej.1 n,f,u,v⟩
def Hz(s:HS)(o:Ky)(k:Nat)(l:ai)(t:Tr HV)(b c:Nat)(g:Ky)(ms:cg):
  s.kT o k l t b c g ms=some {h:=av (some (.cells (dh l k t) b c g)) o s.h,nx:=s.nx,gr:=s.gr,ty:=s.ty}/\(∃m,ms=[m])∨
  s.kT o k l t b c g ms=some {h:=av (some (.cells (dh l k t) b c g)) o (bN s.h o k (k+aM l) ms).1,nx:=s.nx,gr:=av (some (bN s.h o k (k+aM l) ms).2) g s.gr,ty:=s.ty}:=by
 match ms with|[m]=>exact .inl ⟨rfl,m,rfl⟩|[]=>exact .inr rfl|m::d::r=>exact .inr rfl
def jM(h:bW M C β s w){o:Ky}{pl:Pl}(z:β o=some pl){k:Nat}{l:ai}{vs:List Value}(X:eQ β (Live M s β) w l vs)(i:∀x∈l,x.one=true){s':HS}(L:s.store o k l=some s'):
  pl.s<=k/\∃w',(storeCells ⟨pl.b,k-pl.s,none⟩ vs).run P w=.ok () w'/\bW M C β s' w'/\Ext M β s w β s' w':=by
 obtain⟨t,Y,Z,g,N,O,h2,h3,A,h5⟩:=HS.wz L;obtain⟨f,h6,h7⟩:=h.qK _ _ _ _ _ O;rw[A]at h6;cases h6;rcases Hz s o k l t Y Z g N with⟨B,m,e2⟩|B
 .rw[h5]at B;cases B;have hm:m=o:=by rw[e2]at h7;exact(cr.1 h7).symm
  have:=h.write (P:=P) z O h2 h3 X i (λo' Q t' D E F n p _ _ T=>by
   subst T;obtain⟨f,j,v⟩:=h.qK _ _ _ _ _ p;rw[A]at j;cases j;rw[e2]at v;exact absurd (by simpa[hm]using v) n)
  exact this
 rw[h5]at B;cases B;obtain⟨I,J,k3⟩:=ny o k (k+aM l) s.h N;generalize hq:bN s.h o k (k+aM l) N=q at I J k3 ⊢;obtain⟨y,V⟩:=q;simp only at I J k3 ⊢;have c:∀x,aj y x=aj s.h x∨aj y x=none:=λx=>(I x).imp id And.left
 have p:aj y o=some (.cells t Y Z g):=by
  rcases I o with e|⟨_,e⟩
  .rw[e];exact O
  exact absurd rfl e
 have r:∀{x ob},aj y x=some ob->aj s.h x=some ob:=λ{x ob} d=>by
  rcases c x with e|e
  .rw[<-e];exact d
  rw[e]at d;cases d
 have W:bW M C β {h:=y,nx:=s.nx,gr:=av (some V) g s.gr,ty:=s.ty} w:=h.sub c (λx t' D E F d=>by
  simp only[af];by_cases G:F=g
  .subst G;rw[au rfl];obtain⟨f,j,v⟩:=h.qK _ _ _ _ _ (r d);rw[A]at j;cases j;exact⟨V,rfl,(J x v _ _ _ _ d).1⟩
  .rw[ar G];exact h.qK _ _ _ _ _ (r d)) (λF f u=>by
  simp only[af]at u;by_cases G:F=g
  .subst G;exact h.vg _ _ A
  rw[ar G]at u;exact h.vg _ _ u)
 have H:Ext M β s w β {h:=y,nx:=s.nx,gr:=av (some V) g s.gr,ty:=s.ty} w:=Ext.sub c;obtain⟨c1,w',c2,c3,c4⟩:=W.write (P:=P) z p h2 h3 (X.ext H) i (λx Q t' D E F n d _ _ T=>by
  subst T;obtain⟨f,j,v⟩:=h.qK _ _ _ _ _ (r d);rw[A]at j;cases j;have:=(J x v _ _ _ _ d).2 n;rwa[bK]at this)
 exact⟨c1,w',c2,c3,H.trans c4⟩
def Vb(r:bW M C β s w)(i:dN β (Live M s β) w e a){go:Oper}{n:Nat}{x v:X}(c:ba P (.st n x v) go.op=true):ov M C P β s w a go (T0 n x v e s):=by
 cases b:go.op<;>rw[b]at c<;>try cases c
 rename_i t y u;simp only[ba,aL,bU]at c;obtain⟨⟨z,A⟩,B⟩:=c;unfold T0;cases D:bw x e with
 |none=>trivial
 |some p=>
  have j:=aH i z D;generalize E:a.eval y=up at j;cases j with
  |ptr o k pl d Q=>
   show ov M C P β s w a go (bR (bw v e) (λv=>bR (cellsOf v) (λl=>gW (Nat.beq (aM l) n) (bR (s.store o k l) (λs'=>.v .undef s') .bad) .bad) .bad) .bad);cases F:bw v e with
   |none=>trivial
   |some q=>
    have G:=aH i A F;show ov M C P β s w a go (bR (cellsOf q) (λl=>gW (Nat.beq (aM l) n) (bR (s.store o k l) (λs'=>.v .undef s') .bad) .bad) .bad);cases H:cellsOf q with
    |none=>trivial
    |some l=>
     show ov M C P β s w a go (gW (Nat.beq (aM l) n) (bR (s.store o k l) (λs'=>.v .undef s') .bad) .bad);cases I:Nat.beq (aM l) n with
     |false=>trivial
     |true=>
      rw[bf,bK]at I;show ov M C P β s w a go (bR (s.store o k l) (λs'=>.v .undef s') .bad);cases J:s.store o k l with
      |none=>trivial
      |some s'=>
       obtain⟨m,L⟩:=G.cells H;obtain⟨T,N,O,f,g⟩:=jM (P:=P) r d m L J;have h:(a.eval u).cells.size=n:=by have:=m.1;simp at this;omega
       refine⟨Go.undef,N,β,.inr ⟨?_,rfl⟩,f,g,.undef⟩;simp only[execOp,b,E];simp[Instr.storeAt,Instr.sureAddr,storeVar,ga B,h,O]
  |_=>trivial
def bW.newRow(h:bW M C β s w){l:ai}{cs:Array Value}{E:TypeId}{fr:Nat×Nat}{ty:Tr (Nat×Nat)}(c:ty=s.ty∨∃n,ty=av (some (E,n)) s.nx s.ty/\(n=0∨cs.size=n))(m:IB fr cs.size)(o:l.length<=cs.size)(p:∀(j:Nat) (v:HV),l[j]?=some v->v.one=true/\∃u,cs[j]?=some u/\HR β (Live M s β) w v u):
  ∃d,bW M C d {h:=av (some (.cells (dh l 0 .lf) 0 (aM l) s.nx)) s.nx s.h,nx:=s.nx.succ,gr:=av (some [s.nx]) s.nx s.gr,ty:=ty} {w with heap:=w.heap.push (.cells cs E fr)}/\
   Ext M β s w d {h:=av (some (.cells (dh l 0 .lf) 0 (aM l) s.nx)) s.nx s.h,nx:=s.nx.succ,gr:=av (some [s.nx]) s.nx s.gr,ty:=ty} {w with heap:=w.heap.push (.cells cs E fr)}/\d s.nx=some ⟨w.heap.size,0⟩:=by
 have f:=kC h;obtain⟨q,r⟩:=h.newObj (x:=.cells cs E fr) (ob:=.cells (dh l 0 .lf) 0 (aM l) s.nx) (gr:=av (some [s.nx]) s.nx s.gr) (c.imp id λ⟨n,t,g⟩=>⟨E,n,t,cs.size,⟨cs,fr,by simp,rfl⟩,g⟩) (by
  refine .cells _ 0 _ _ cs E fr (aV _) (by simp) m (by rw[bK];simpa using o) λk v _ g i=>?_
  rw[fC]at i;rw[bK]at g;rw[au (by omega)]at i;obtain⟨y,u,z,A⟩:=p (k-0) v i;refine⟨y,u,z,A.keep (Bt.jW h.fresh) (λb D B=>B.resolve_left (by omega)) (cJ.push _ _ _)⟩) (.inl ⟨_,_,_,rfl,rfl⟩)
 exact⟨_,q,r,by simp[Bt.add]⟩
def wA(s:HS)(l:ai)(K:Ky->HV):s.new l K=.v (K s.nx) {h:=av (some (.cells (dh l 0 .lf) 0 (aM l) s.nx)) s.nx s.h,nx:=s.nx.succ,gr:=av (some [s.nx]) s.nx s.gr,ty:=s.ty}:=rfl
def p9(s:HS)(ty:Tr (Nat×Nat))(l:ai)(K:Ky->HV):s.Cq ty l K=.v (K s.nx) {h:=av (some (.cells (dh l 0 .lf) 0 (aM l) s.nx)) s.nx s.h,nx:=s.nx.succ,gr:=av (some [s.nx]) s.nx s.gr,ty:=ty}:=rfl
def Gd(i:bW M C β s w){go:Oper}{l:ai}{cs:Array Value}{E:TypeId}(f:eQ β (Live M s β) w l cs.toList)(b:∀x∈l,x.one=true)
  (c:(execOp a.eval go).run P w=.ok (.value (.pointer (some ⟨w.heap.size,0,none⟩))) {w with heap:=w.heap.push (.cells cs E)}):ov M C P β s w a go (s.new l (λo=>.ptr o 0)):=by
 rw[wA];obtain⟨h,k,m,n⟩:=i.newRow (l:=l) (cs:=cs) (E:=E) (fr:=(0,0)) (.inl rfl) (.inl rfl) (by have:=f.1;simp at this;omega) (λj v g=>by
  have d:j<cs.size:=by have:=f.1;simp at this;have:=(aU.1 g).1;omega
  exact⟨b v (cE g),cs[j],fW d,f.2 j v _ g (by simp[d])⟩)
 exact⟨_,_,h,.inl c,k,m,by simpa using HR.ptr (β:=h) s.nx 0 ⟨w.heap.size,0⟩ n (aV _)⟩
def IW(i:bW M C β s w){go:Oper}{l:ai}{cs:Array Value}{E:TypeId}(f:eQ β (Live M s β) w l cs.toList)(b:∀x∈l,x.one=true)
  (c:(execOp a.eval go).run P w=.ok (.value (.pointer (some ⟨w.heap.size,0,none⟩))) {w with heap:=w.heap.push (.cells cs E)}):ov M C P β s w a go (s.Cq (av (some (E,aM l)) s.nx s.ty) l (λo=>.ptr o 0)):=by
 rw[p9];obtain⟨h,k,m,n⟩:=i.newRow (l:=l) (cs:=cs) (E:=E) (fr:=(0,0)) (.inr ⟨aM l,rfl,.inr (by rw[bK];have:=f.1;simpa using this)⟩) (.inl rfl) (by have:=f.1;simp at this;omega) (λj v g=>by
  have d:j<cs.size:=by have:=f.1;simp at this;have:=(aU.1 g).1;omega
  exact⟨b v (cE g),cs[j],fW d,f.2 j v _ g (by simp[d])⟩)
 exact⟨_,_,h,.inl c,k,m,by simpa using HR.ptr (β:=h) s.nx 0 ⟨w.heap.size,0⟩ n (aV _)⟩
def IX(m:bW M C β s w){go:Oper}{z:ai}(b:ba P (.alloc z) go.op=true):ov M C P β s w a go (Eb z e s):=by
 cases c:go.op<;>rw[c]at b<;>try cases b
 rename_i t;simp only[ba,rJ]at b
 split at b
 case h_2=>cases b
 rename_i v n;unfold Eb;obtain⟨o,d,i⟩:=ag3.1 n;have p:=dK b β (Live M s β) w;have f:∀x∈z,x.one=true:=by
  have:∀(l:ai) (g:List Value),iY l g=true->∀x∈l,x.one=true:=by
   intro l
   induction l with
   |nil=>simp
   |cons y l q=>
    intro g h x j;cases g with
    |nil=>simp[iY]at h
    |cons u g=>
     simp only[iY,aL]at h;rcases bk.1 j with rfl|j
     .have k:=h.1;unfold AQ at k
      split at k<;>first|rfl|cases k
     exact q g h.2 x j
  exact this _ _ b
 refine Gd (E:=t) m p f ?_;simp[execOp,c,Instr.alloc,zeroValue,typeInfo,d,i,newVar,Go.newRow]
def O6(n:bW M C β s w){go:Oper}{i:Nat}{z:ai}(b:ba P (.alb i z) go.op=true):ov M C P β s w a go (OG i z e s):=by
 cases c:go.op<;>rw[c]at b<;>try cases b
 rename_i t;simp only[ba,rJ,aL,bU]at b;obtain⟨rfl,b⟩:=b
 split at b
 case h_2=>cases b
 rename_i v o;unfold OG;obtain⟨p,d,j⟩:=ag3.1 o;have q:=dK b β (Live M s β) w;have f:∀x∈z,x.one=true:=by
  have:∀(l:ai) (g:List Value),iY l g=true->∀x∈l,x.one=true:=by
   intro l
   induction l with
   |nil=>simp
   |cons y l r=>
    intro g h x k;cases g with
    |nil=>simp[iY]at h
    |cons u g=>
     simp only[iY,aL]at h;rcases bk.1 k with rfl|k
     .have m:=h.1;unfold AQ at m
      split at m<;>first|rfl|cases m
     exact r g h.2 x k
  exact this _ _ b
 refine IW (E:=i) n q f ?_;simp[execOp,c,Instr.alloc,zeroValue,typeInfo,d,j,newVar,Go.newRow]
def O7(d:bW M C β s w)(f:dN β (Live M s β) w e a){go:Oper}{x:X}(c:ba P (.box x) go.op=true):ov M C P β s w a go (Hb x e s):=by
 cases b:go.op<;>rw[b]at c<;>try cases c
 rename_i E y;simp only[ba]at c;unfold Hb;cases g:bw x e with
 |none=>trivial
 |some p=>have h:=aH f c g;show ov M C P β s w a go (bR (cellsOf p) (λl=>s.new l (λo=>.ptr o 0)) .bad);cases i:cellsOf p with|none=>trivial|some l=>obtain⟨j,k⟩:=h.cells i;exact Gd (E:=E) d j k (by simp[execOp,b,Instr.box,newVar,Go.newRow])
def O8(d:bW M C β s w){go:Oper}(c:ba P .mkm go.op=true):ov M C P β s w a go (U0 e s):=by
 cases b:go.op<;>rw[b]at c<;>try cases c
 rename_i t r;cases r with
 |some y=>simp[ba]at c
 |none=>
 show ov M C P β s w a go (.v (.mp s.nx) {h:=av (some (.mp [])) s.nx s.h,nx:=s.nx.succ,gr:=s.gr,ty:=s.ty});obtain⟨f,g⟩:=d.newObj (x:=.map #[] 0) (ob:=.mp []) (gr:=s.gr) (.inl rfl) (by
  exact .mp [] #[] (by simp) rfl (by simp)) (.inr ⟨by simp,rfl⟩)
 refine⟨.map (some w.heap.size),_,_,.inl ?_,f,g,HR.mp _ ⟨w.heap.size,0⟩ (by simp[Bt.add])⟩;simp[execOp,b,Instr.makeMap,newObj,Sem.run]
end sound
def IY(bj:Nat):∀(l:List Value) (k:Nat) (cells:Array Value),bj+k+l.length<=cells.size->
  ((l.zipIdx k).foldl (λcs (p:Value×Nat)=>cs.setIfInBounds (bj+p.2) p.1) cells).size=cells.size/\
  (∀j,j<l.length->((l.zipIdx k).foldl (λcs (p:Value×Nat)=>cs.setIfInBounds (bj+p.2) p.1) cells)[bj+k+j]?=l[j]?)/\
  (∀m,(m<bj+k∨bj+k+l.length<=m)->((l.zipIdx k).foldl (λcs (p:Value×Nat)=>cs.setIfInBounds (bj+p.2) p.1) cells)[m]?=cells[m]?):=by
 intro l
 induction l with
 |nil=>intro k cells _;simp
 |cons v l g=>
  intro k cells h;simp only[aB]at h;obtain⟨i,n,c⟩:=g (k+1) (cells.setIfInBounds (bj+k) v) (by simp;omega);simp only[List.zipIdx_cons,nw];refine⟨by simpa using i,λj o=>?_,λm d=>?_⟩
  .cases j with
   |zero=>
    have b:bj+k<cells.size:=by omega
    have f:=c (bj+k) (.inl (by omega));simp only[iB]at f ⊢;rw[f,wy b];rfl
   |succ j=>have:=n j (by simpa using o);rw[show bj+k+(j+1)=bj+(k+1)+j by omega,this];simp
  rw[c m (by simp at d;omega),oS (by simp at d;omega)]
def Es{i n j sz:Nat}(b:i<n)(c:j<sz):i*sz+j<n*sz:=by
 have d:i*sz+sz<=n*sz:=by rw[<-Nat.succ_mul];exact ji _ b
 omega
def HA(sz:Nat):∀(ps:List (Nat×Value)) (k:Nat) (cells:Array Value),ps.map (·.1)=List.range' k ps.length->(∀p∈ps,p.2.cells.size=sz)->(k+ps.length)*sz<=cells.size->
  ∃cs,Instr.fill (λi=>some (i*sz,sz)) cells ps=some cs/\cs.size=cells.size/\
   (∀(i:Nat) (p:Nat×Value) (j:Nat),ps[i]?=some p->j<sz->cs[(k+i)*sz+j]?=p.2.cells[j]?)/\(∀m,m<k*sz->cs[m]?=cells[m]?):=by
 intro ps
 induction ps with
 |nil=>intro k cells _ _ _;exact⟨cells,rfl,rfl,by simp,λ_ _=>rfl⟩
 |cons p ps r=>
  intro k cells c g t;simp only[aB,bX,List.range'_succ,n6]at c;have d:=g p (by simp);have h:(k+1+ps.length)*sz<=cells.size:=by rw[show k+1+ps.length=k+(ps.length+1) by omega];exact t
  have hle:k*sz+sz<=cells.size:=by have:(k+1)*sz<=(k+1+ps.length)*sz:=ji _ (by omega);rw[iR]at this;omega
  obtain⟨l,u,v⟩:=IY (k*sz) p.2.cells.toList 0 cells (by simp[d];omega);have b:p.2.cells.zipIdx.foldl (λcs (q:Value×Nat)=>cs.setIfInBounds (k*sz+q.2) q.1) cells=(p.2.cells.toList.zipIdx 0).foldl (λcs (q:Value×Nat)=>cs.setIfInBounds (k*sz+q.2) q.1) cells:=by rw[<-Array.foldl_toList];simp
  obtain⟨cs,x,y,z,n⟩:=r (k+1) _ c.2 (λq A=>g q (by simp[A])) (by rw[l];exact h);refine⟨cs,?_,by rw[y,l],λi q j f o=>?_,λm h=>?_⟩
  .simp only[Instr.fill,c.1,d];rw[ar (by simp;omega)];rw[b];exact x
  .cases i with|zero=>simp at f;subst f;rw[iB,n _ (by rw[iR];omega)];have:=u j (by simp[d,o]);simpa using this|succ i=>have:=z i q j (by simpa using f) o;rw[show k+(i+1)=k+1+i by omega];exact this
  rw[n m (by rw[iR];omega),v m (.inl (by omega))]
section sound
variable{M:aG}{C:eR}{P:Program}{β:Bt}{s:HS}{w:World}{e:En}{a:Act}
def CM{N:aG}{sz:Nat}:∀{l:ai} {f:List Value} {m:aP},eQ β N w l f->jC sz l=some m->
  m.length=l.length/\(∀row∈m,row.length=sz/\∀x∈row,x.one=true)/\∀(i:Nat) (row:ai) (u:Value),m[i]?=some row->f[i]?=some u->eQ β N w row u.cells.toList:=by
 intro l
 induction l with
 |nil=>intro f m h d;cases d;simp
 |cons v l o=>
  intro f m h d;obtain⟨u,p,rfl,q,r⟩:=h.split;simp only[jC]at d
  split at d
  .rename_i c E t j;cases g:Nat.beq (aM c) sz with
   |false=>rw[g]at d;cases d
   |true=>
    rw[g]at d;cases d;rw[bf,bK]at g;obtain⟨y,z,A⟩:=o r j;obtain⟨B,D⟩:=q.cells t;refine⟨by simp[y],λrow b=>?_,λi row x k n=>?_⟩
    .rcases bk.1 b with rfl|b
     .exact⟨g,D⟩
     exact z row b
    cases i with|zero=>simp at k n;subst k;subst n;exact B|succ i=>exact A i row x (by simpa using k) (by simpa using n)
  cases d
def HB{sz:Nat}:∀{l:ai} {m:ai},flat sz l=some m->∃r,jC sz l=some r/\m=aD r:=by
 intro l
 induction l with
 |nil=>intro m h;cases h;exact⟨[],rfl,rfl⟩
 |cons v l f=>
  intro m h;simp only[flat]at h
  split at h
  .rename_i c j g b;cases d:Nat.beq (aM c) sz with
   |false=>rw[d]at h;cases h
   |true=>rw[d]at h;cases h;obtain⟨r,i,rfl⟩:=f b;exact⟨c::r,by simp only[jC,g,i,d,cond_true],rfl⟩
  cases h
def gO{sz:Nat}:∀{r:aP} (_:∀row∈r,row.length=sz),(aD r).length=r.length*sz/\∀k v,(aD r)[k]?=some v->0<sz/\∃row,r[k/sz]?=some row/\row[k%sz]?=some v
 |[],_=>⟨by simp[aD],by simp[aD]⟩
 |c::r,h=>by
  obtain⟨l,m⟩:=gO (r:=r) λrow b=>h row (cY _ b)
  have g:=h c dr;refine⟨by simp only[aD,bZ,aB,l,g,iR];omega,λk v d=>?_⟩;simp only[aD]at d;rcases jF k c.length with i|j
  .rw[dD i]at d;have f:0<sz:=by omega
   refine⟨f,c,?_,?_⟩
   .rw[Nat.div_eq_of_lt (by omega)];rfl
   rw[Em (by omega)];exact d
  rw[iZ j]at d;obtain⟨f,row,n,o⟩:=m _ _ d;refine⟨f,row,?_,?_⟩
  .have:k/sz=(k-c.length)/sz+1:=by rw[g,<-Nat.sub_add_cancel (show sz<=k by omega),Nat.add_div_right _ f];simp
   rw[this];simpa using n
  have:k%sz=(k-c.length)%sz:=by
   rw[g];conv=>lhs;rw[<-Nat.sub_add_cancel (show sz<=k by omega)]
   rw[Nat.add_mod_right]
  rw[this];exact o
def AW{go:Oper}{sz n:Nat}{xs:List X}{t:TypeId}{ps:Array (Nat×Operand)}(he:dN β (Live M s β) w e a)(J:go.op=.buildSlice t n ps)
  (hc:((match n7 P t with|some E=>dI P E==some sz&&decide (n*sz<=16777216)&&((P.info? E).bind (·.zero)).isSome|none=>false)&&n==xs.length&&ps.toList.map (·.1)==List.range n&&fL xs (ps.toList.map (·.2)))=true)
  {l:ai}(hl:gx xs e=some l){m:aP}(hm:jC sz l=some m):
  n=xs.length/\m.length=n/\∃(E:TypeId) (cs:Array Value),(execOp a.eval go).run P w=.ok (.value (.slice (some ⟨w.heap.size,0,none⟩) n n)) {w with heap:=w.heap.push (.cells cs E)}/\cs.size=n*sz/\
   (∀row∈m,row.length=sz/\∀x∈row,x.one=true)/\
   ∀(i:Nat) (row:ai) (j:Nat) (v:HV),m[i]?=some row->row[j]?=some v->∃u,cs[i*sz+j]?=some u/\HR β (Live M s β) w v u:=by
 simp only[aL,bU]at hc;obtain⟨⟨⟨H,rfl⟩,hr⟩,hx⟩:=hc
 split at H
 case h_2=>cases H
 rename_i E L;have ht:=iP L;simp only[aL,bU,bY]at H;obtain⟨⟨N,hle⟩,hz⟩:=H;have g:=kW he hx hl;obtain⟨k1,O,k3⟩:=CM g hm;have Q:ps.size=xs.length:=by have:=ch List.length hr;simpa using this
 have h5:l.length=xs.length:=by have:=g.1;simp at this;omega
 let b:List (Nat×Value):=(ps.map λ(p:Nat×Operand)=>(p.1,a.eval p.2)).toList;have h:b.length=xs.length:=by simp[b,Q]
 have k:∀(i:Nat) (q:Nat×Value),b[i]?=some q->∃row,m[i]?=some row/\eQ β (Live M s β) w row q.2.cells.toList:=by
  intro i q o;have f:i<m.length:=by have:=(aU.1 o).1;omega
  refine⟨m[i],aX f,k3 i m[i] q.2 (aX f) ?_⟩;simp only[b,Array.toList_map,fV,lR]at o;obtain⟨p,T,rfl⟩:=o;simp[T]
 have c:∀q∈b,q.2.cells.size=sz:=by intro q o;obtain⟨i,f,V⟩:=oQ o;obtain⟨r,I,W⟩:=k i q (by rw[aX f,V]);have:=W.1;rw[(O r (cE I)).1]at this;simpa using this
 have y:b.map (·.1)=List.range' 0 b.length:=by rw[h,<-List.range_eq_range',<-hr];simp[b,wB,Function.comp_def]
 cases A:(P.info? E).bind (·.zero)with
 |none=>simp[A]at hz
 |some z=>
  obtain⟨h6,B,Y⟩:=ag3.1 A;let zero:Array Value:=if xs.length*sz=0 then #[]else z.cells
  obtain⟨cs,f1,f2,f3,_⟩:=HA sz b 0 ((Array.range (xs.length*sz)).map (zero[· %zero.size]!)) y c (by simp[h]);refine⟨rfl,by omega,E,cs,?_,by rw[f2];simp,O,λi row j v f hj=>?_⟩
  .have Z:=ga (w:=w) N;have h4:(zeroValue E).run P w=.ok z w:=by simp[zeroValue,typeInfo,B,Y]
   have D:¬(xs.length*sz>16777216):=by omega
   simp only[execOp,J,Instr.buildSlice,underlying,Sem.run_bind,run_program,Result.andThen_ok,ht,Sem.run_pure,Z,Sem.run_ite];rw[ar (by simpa using D)];by_cases h0:xs.length*sz=0
   .simp only[h0,bp];have d:Instr.fill (λi=>some (i*sz,sz)) (Array.map (λx=>(#[]:Array Value)[x%(#[]:Array Value).size]!) (Array.range 0)) b=some cs:=by simpa[zero,h0]using f1
    simp only[b]at d;rw[d];simp[Go.newRow]
   simp only[h0,bD,h4,Result.andThen_ok];have d:Instr.fill (λi=>some (i*sz,sz)) (Array.map (λx=>z.cells[x%z.cells.size]!) (Array.range (xs.length*sz))) b=some cs:=by simpa[zero,h0]using f1
   simp only[b]at d;rw[d];simp[Go.newRow]
  have h7:=(aU.1 f).1;have F:j<sz:=by have:=(aU.1 hj).1;rw[(O row (cE f)).1]at this;exact this
  have hv:i<b.length:=by omega
  obtain⟨r,I,W⟩:=k i b[i] (aX hv);rw[f]at I;cases I;have h3:=f3 i b[i] j (aX hv) F;rw[bn]at h3;have G:j<b[i].2.cells.size:=by rw[c _ (cb hv)];exact F
  refine⟨b[i].2.cells[j],by rw[h3,fW G],W.2 j v _ hj (by simp[G])⟩
def O9(q:bW M C β s w)(r:dN β (Live M s β) w e a){go:Oper}{sz:Nat}{xs:List X}(d:ba P (.bsl sz xs) go.op=true):ov M C P β s w a go (Hc sz xs e s):=by
 cases b:go.op<;>rw[b]at d<;>try cases d
 rename_i t n L;unfold Hc;cases u:gx xs e with
 |none=>trivial
 |some l=>
  show ov M C P β s w a go (bR (flat sz l) (λm=>s.new m (λo=>.sl o 0 (aM xs) sz)) .bad);cases x:flat sz l with
  |none=>trivial
  |some O=>
   obtain⟨m,y,rfl⟩:=HB x;obtain⟨f,z,E,cs,A,g,h,B⟩:=AW (P:=P) r b d u y;obtain⟨D,F⟩:=gO (sz:=sz) λrow c=>(h row c).1
   show ov M C P β s w a go (s.new (aD m) (λo=>.sl o 0 (aM xs) sz));rw[wA,bK xs];obtain⟨i,G,H,I⟩:=q.newRow (l:=aD m) (cs:=cs) (E:=E) (fr:=(0,0)) (.inl rfl) (.inl rfl) (by rw[D,g,z];exact aV _) (λk v J=>by
    obtain⟨Q,row,j,p⟩:=F k v J;refine⟨(h row (cE j)).2 v (cE p),?_⟩;have:=B _ _ _ _ j p;rwa[Et,Nat.div_add_mod]at this)
   refine⟨_,_,i,.inl A,G,H,?_⟩;rw[f];have:=λN=>HR.sl (β:=i) (N:=N) (w:={w with heap:=w.heap.push (.cells cs E)}) s.nx 0 xs.length sz xs.length cs.size ⟨w.heap.size,0⟩ I (aV _) (aV _) ⟨E,cs,(0,0),by simp,rfl⟩ (by simp[g,f])
   simpa using this _
def Pa(f:bW M C β s w)(q:dN β (Live M s β) w e a){go:Oper}{sz:Nat}{xs:List X}(h:ba P (.fbl sz xs) go.op=true):ov M C P β s w a go (uU sz xs e s):=by
 cases b:go.op<;>rw[b]at h<;>try cases h
 rename_i t n G;unfold uU;cases r:gx xs e with
 |none=>trivial
 |some l=>
  show ov M C P β s w a go (bR (jC sz l) (λm=>.v (.psl m) s) .bad);cases x:jC sz l with
  |none=>trivial
  |some m=>
   obtain⟨H,y,E,o,z,A,p,B⟩:=AW (P:=P) q b h r x;refine⟨_,_,β,.inl z,f.push _,Ext.push f.mlt β s _,?_⟩;rw[<-y];refine .psl m _ 0 _ sz (λi j=>o.getD (i*sz+j) Go.undef) (kC f) (by simp) (aV _) (λi row g=>(p row (cE g)).1) (λrow c=>(p row c).2) (λi j g k=>?_) λi row j v g k=>?_
   .have d:i*sz+j<o.size:=by rw[A];exact Es (by omega) k
    rw[bn,uu,fW d];simp[Array.getD,d]
   obtain⟨u,D,F⟩:=B i row j v g k;simp only[fM,D,gB];exact F.ext (Ext.push f.mlt β s _)
def kP:∀(l:ai) (b:List Value),iY l b=true->∀x∈l,x.one=true:=by
 intro l
 induction l with
 |nil=>simp
 |cons y l f=>
  intro b h x c;cases b with
  |nil=>simp[iY]at h
  |cons u b=>
   simp only[iY,aL]at h;rcases bk.1 c with rfl|c
   .have d:=h.1;unfold AQ at d
    split at d<;>first|rfl|cases d
   exact f b h.2 x c
def run_places(P:Program)(w:World)(b:Array Field)(h:∀f∈b.toList,(dI P f.type).isSome=true):
  (b.mapM (λf=>do pure (f.offset,<-sizeOf f.type)):Sem (Array (Nat×Nat))).run P w=.ok (b.map λf=>(f.offset,(dI P f.type).getD 0)) w:=by
 have gen:∀l:List Field,(∀f∈l,(dI P f.type).isSome=true)->(l.mapM (λf=>do pure (f.offset,<-sizeOf f.type)):Sem (List (Nat×Nat))).run P w=.ok (l.map λf=>(f.offset,(dI P f.type).getD 0)) w:=by
  intro l
  induction l with
  |nil=>intro _;rfl
  |cons f l i=>
   intro d;have g:=d f (by simp);cases c:dI P f.type with
   |none=>rw[c]at g;cases g
   |some n=>simp only[List.mapM_cons,Sem.run_bind,ga c,Result.andThen_ok,Sem.run_pure,i λf j=>d f (by simp[j]),bX,c,gB]
 rw[Pb];simp only[Sem.run_map,gen _ h,Result.andThen_ok]
 congr 1
 apply sW;simp
def mg{g:List Value}:∀{c:List Field} {i bj:Nat} {ps:List Pc} {l:List (Nat×Operand)},eK P g i c ps l bj=true->∀f∈c,(dI P f.type).isSome=true
 |[],_,_,_,_,_=>by simp
 |f::c,i,bj,ps,l,h=>by
  cases ps with
  |nil=>simp[eK]at h
  |cons p ps=>
   cases p with
   |z z=>
    simp only[eK,aL,bU]at h;intro d b;rcases bk.1 b with rfl|b
    .rw[h.1.1.2];rfl
    exact mg h.2 d b
   |x o n=>
    cases l with
    |nil=>simp[eK]at h
    |cons q l=>
     simp only[eK,aL,bU]at h;intro d b;rcases bk.1 b with rfl|b
     .rw[h.1.1.1.2];rfl
     exact mg h.2 d b
def zn:∀{ps:List Pc} {m:ai},eJ e ps=some m->m.length=sV ps:=by
 intro ps
 induction ps with
 |nil=>intro m h;cases h;rfl
 |cons p ps f=>
  intro m h;cases p with
  |z z=>
   simp only[eJ]at h
   split at h
   .rename_i g b;cases h;simp[sV,f b]
   cases h
  |x o n=>
   simp only[eJ]at h
   split at h
   .split at h
    .rename_i c g i b;cases d:Nat.beq (aM c) n with
     |false=>rw[d]at h;cases h
     |true=>rw[d]at h;cases h;rw[bf,bK]at d;simp[sV,f b,d]
    cases h
   cases h
def AX(he:dN β (Live M s β) w e a)(G:List Value):∀(H:List Field) (i bj:Nat) (ps:List Pc) (l:List (Nat×Operand)) (m:ai),eK P G i H ps l bj=true->eJ e ps=some m->
  ∀(pl:Nat->Option (Nat×Nat)) (cells:Array Value),(∀(j:Nat) (f:Field) (n:Nat),H[j]?=some f->dI P f.type=some n->pl (i+j)=some (f.offset,n))->cells.size=G.length->bj+m.length=G.length->
   (∀k,bj<=k->cells[k]?=G[k]?)->
   (∀x∈m,x.one=true)/\∃cs,Instr.fill pl cells (l.map λp=>(p.1,a.eval p.2))=some cs/\cs.size=cells.size/\(∀k,k<bj->cs[k]?=cells[k]?)/\
    ∀(j:Nat) (v:HV),m[j]?=some v->∃u,cs[bj+j]?=some u/\HR β (Live M s β) w v u:=by
 intro H
 induction H with
 |nil=>
  intro i bj ps l m h b pl cells r A hlen O;cases ps with
  |cons p ps=>simp[eK]at h
  |nil=>
   cases l with
   |cons q l=>simp[eK]at h
   |nil=>cases b;exact⟨by simp,cells,rfl,rfl,λ_ _=>rfl,by simp⟩
 |cons f H ih=>
  intro i bj ps l m h b pl cells r A hlen O;cases ps with
  |nil=>simp[eK]at h
  |cons p I=>
  cases p with
  |z z=>
   simp only[eK,aL,bU]at h;obtain⟨⟨⟨f1,f2⟩,Q⟩,T⟩:=h;simp only[eJ]at b
   split at b
   .rename_i V B;cases b;simp only[bZ]at hlen;obtain⟨W,cs,X,Y,J,Z⟩:=ih (i+1) (bj+z.length) I l V T B pl cells (λj f' n d hn=>by rw[show i+1+j=i+(j+1) by omega];exact r (j+1) f' n (by simpa using d) hn) A (by omega) (λk hk=>O k (by omega));refine⟨λx g=>?_,cs,X,Y,λk hk=>J k (by omega),λj v d=>?_⟩
    .rcases l5.1 g with g|g
     .exact kP _ _ Q x g
     exact W x g
    rcases jF j z.length with t|D
    .rw[dD t]at d;have h1:=dK Q β (Live M s β) w;have L:bj+j<G.length:=by omega
     refine⟨G[bj+j],by rw[J _ (by omega),O _ (by omega)];exact aX L,h1.2 j v _ d ?_⟩;rw[rN t,kX];exact aX L
    rw[iZ D]at d;obtain⟨u,a1,a2⟩:=Z (j-z.length) v d;exact⟨u,by rw[show bj+j=bj+z.length+(j-z.length) by omega];exact a1,a2⟩
   cases b
  |x o n=>
   cases l with
   |nil=>simp[eK]at h
   |cons q l'=>
   obtain⟨jj,y⟩:=q;simp only[eK,aL,bU]at h;obtain⟨⟨⟨⟨f1,f2⟩,rfl⟩,Q⟩,T⟩:=h;simp only[eJ]at b
   split at b
   case h_2=>cases b
   rename_i v0 h2
   split at b
   case h_2=>cases b
   rename_i c V hc B;cases hq:Nat.beq (aM c) n with
   |false=>rw[hq]at b;cases b
   |true=>
    rw[hq]at b;cases b;rw[bf,bK]at hq;simp only[bZ]at hlen;obtain⟨c1,c2⟩:=(aH he Q h2).cells hc;have h3:(a.eval y).cells.size=n:=by have:=c1.1;simp at this;omega
    obtain⟨g1,g2,g3⟩:=IY bj (a.eval y).cells.toList 0 cells (by simp;omega);have E:(a.eval y).cells.zipIdx.foldl (λcs (q:Value×Nat)=>cs.setIfInBounds (bj+q.2) q.1) cells=((a.eval y).cells.toList.zipIdx 0).foldl (λcs (q:Value×Nat)=>cs.setIfInBounds (bj+q.2) q.1) cells:=by rw[<-Array.foldl_toList];simp
    have N:=r 0 f n (by simp) f2;simp only[iB]at N;obtain⟨W,cs,X,Y,J,Z⟩:=ih (i+1) (bj+n) I l' V T B pl (((a.eval y).cells.toList.zipIdx 0).foldl (λcs (q:Value×Nat)=>cs.setIfInBounds (bj+q.2) q.1) cells)
     (λj f' n d hn=>by rw[show i+1+j=i+(j+1) by omega];exact r (j+1) f' n (by simpa using d) hn) (by rw[g1];exact A) (by omega) (λk hk=>by rw[g3 k (.inr (by simp;omega))];exact O k (by omega))
    refine⟨λx g=>?_,cs,?_,by rw[Y,g1],λk hk=>by rw[J k (by omega),g3 k (.inl (by omega))],λj v d=>?_⟩
    .rcases l5.1 g with g|g
     .exact c2 x g
     exact W x g
    .simp only[bX,Instr.fill,N,f1];rw[ar (by simp;omega)];rw[E];exact X
    rcases jF j c.length with t|D
    .rw[dD t]at d;have F:j<(a.eval y).cells.toList.length:=by simp;omega
     refine⟨(a.eval y).cells.toList[j],?_,c1.2 j v _ d (aX F)⟩;rw[J _ (by omega)];have:=g2 j F;rw[iB]at this;rw[this];exact aX F
    rw[iZ D]at d;obtain⟨u,a1,a2⟩:=Z (j-c.length) v d;exact⟨u,by rw[show bj+j=bj+n+(j-c.length) by omega];exact a1,a2⟩
def IZ(E:bW M C β s w)(F:dN β (Live M s β) w e a){go:Oper}{ps:List Pc}(b:ba P (.build ps) go.op=true):ov M C P β s w a go (mb ps e s):=by
 cases c:go.op<;>rw[c]at b<;>try cases b
 rename_i t l;simp only[ba]at b
 split at b
 case h_2=>cases b
 rename_i g G
 split at b
 case h_2=>cases b
 rename_i z H;simp only[aL,bY]at b;unfold mb;cases B:eJ e ps with
 |none=>trivial
 |some m=>
  obtain⟨I,d,o⟩:=ag3.1 H;have p:=zn B;obtain⟨J,q,L,N,_,O⟩:=AX F z.cells.toList g.toList 0 0 ps l.toList m b.1 B (λj=>(g.map λf=>(f.offset,(dI P f.type).getD 0))[j]?) z.cells (λj f n h Q=>by
   rw[mA]at h;simp[h,Q]) (by simp) (by simp;omega) (λk _=>by simp)
  refine .val (v:=.agg m) (u:=.agg q) E ?_ ?_
  .have r:(zeroValue t).run P w=.ok z w:=by simp[zeroValue,typeInfo,d,o]
   have y:=run_places P w g (mg b.1);simp only[execOp,c,Instr.build,Sem.run_bind,r,Result.andThen_ok,run_underlying G,y];have A:Instr.fill (λx=>(Array.map (λf=>(f.offset,(dI P f.type).getD 0)) g)[x]?) z.cells (Array.map (λx=>match x with|(i,x)=>(i,a.eval x)) l).toList=some q:=by simpa using L
   rw[A];simp
  refine .agg m q J (by rw[N,b.2,p]) λj v u h T=>?_
  obtain⟨W,D,V⟩:=O j v h;rw[bn,T]at D;cases D;exact V
def oT{α:Type}{P:Program}{w:World}(b:α->PUnit->Sem (ForInStep PUnit)):∀(l:List α),(∀f∈l,(b f PUnit.unit).run P w=.ok (.yield PUnit.unit) w)->(forIn (m:=Sem) l PUnit.unit b).run P w=.ok PUnit.unit w
 |[],_=>rfl
 |f::l,h=>by simp only[List.forIn_cons,Sem.run_bind,h f (by simp),Result.andThen_ok];exact oT b l λg c=>h g (by simp[c])
def vi(em:Bool)(P:Program)(w:World)(d D:Nat)(ih:∀(t:TypeId) (c:az) (x:Value) {N:aG} {β:Bt} (l:ai),eY P d t=some c->zP P t x->eQ β N w l x.cells.toList->dt c l=true->(Instr.checkKey em D t x).run P w=.ok () w){N:aG}{β:Bt}:
  ∀(i:List Field) (bj:Nat) (c:az),eY.wk P d i bj=some c->∀(xs:Array Value) (l:ai),eQ β N w l xs.toList->bj+c.length=l.length->(∀v∈l,v.one=true)->dt c (l.drop bj)=true->
   ∀f∈i,f.name≠ "_" /\∃x,(part f.type xs f.offset).run P w=.ok x w/\(Instr.checkKey em D f.type x).run P w=.ok () w:=by
 intro i
 induction i with
 |nil=>intro bj c _ xs l _ _ _ _ f j;simp at j
 |cons f i m=>
  intro bj c b xs l o y p z;simp only[eY.wk,sU]at b
  split at b
  case isFalse=>cases b
  rename_i j;simp only[aL,wv,ne_eq,bU]at j
  split at b
  case h_2=>cases b
  rename_i q k
  split at b
  case isFalse=>cases b
  rename_i g;have g:=bU.1 g
  split at b
  case h_2=>cases b
  rename_i A n;simp only[bQ]at b;subst b;rw[bZ]at y;obtain⟨B,r⟩:=lQ z;rw[IU]at r;obtain⟨x,E,F,G⟩:=qL g o (bj:=bj) p (by omega) (sZ k);intro u h;rcases bk.1 h with rfl|h
  .exact⟨j.1,x,by rw[j.2];exact E,ih u.type q x _ k F G B⟩
  exact m (bj+q.length) A n xs l o (by omega) p r u h
def AY(em:Bool)(P:Program)(w:World):∀(d j:Nat) (t:TypeId) (g:az) (x:Value) {N:aG} {β:Bt} (l:ai),eY P d t=some g->zP P t x->eQ β N w l x.cells.toList->dt g l=true->(Instr.checkKey em (d+j) t x).run P w=.ok () w:=by
 intro d
 induction d with
 |zero=>intro j t g x N β l h;simp[eY]at h
 |succ d o=>
  intro j t g x N β l h p q tl;rw[show d+1+j=(d+j)+1 by omega];unfold eY at h
  split at h
  .rename_i k b;simp only[Instr.checkKey,Sem.run_bind,run_underlying b,Result.andThen_ok];rfl
  .rename_i b;simp only[Instr.checkKey,Sem.run_bind,run_underlying b,Result.andThen_ok];rfl
  .rename_i b;simp only[Instr.checkKey,Sem.run_bind,run_underlying b,Result.andThen_ok];rfl
  .rename_i r b
   split at h
   .cases h
   have i:dM P t=some true:=by simp[dM,b]
   obtain⟨u,rfl⟩:∃v,x=.agg v:=by
    rcases p with⟨_,c⟩|⟨c,_⟩
    .exact c
    rw[i]at c;cases c
   have A:=lP tl;have:=vi em P w d (d+j) (λt g x {N} {β} l c m n y=>o j t g x l c m n y) r.toList 0 g h u l q (by omega) (rP tl) tl;simp only[Instr.checkKey,Sem.run_bind,run_underlying b,Result.andThen_ok];rw[<-Array.forIn_toList,oT _ _ λf z=>?_]
   .rfl
   obtain⟨c,x,m,n⟩:=this f z;rw[au c];simp only[Sem.run_bind,m,n,Result.andThen_ok,Sem.run_pure]
  cases h
def la{N:aG}{K:Kd}{T:TypeId}(b:nj P K T=true){k:HV}{u:Value}(c:pX K k=true)(h:HR β N w k u)(em:Bool):(Instr.checkKey em 10000 T u).run P w=.ok () w:=by obtain⟨d,f,g⟩:=iQ b c h;simp only[nj,aL,bU]at b;exact AY em P w 8 9992 T K.ks u _ b.1 d f g
def rT{N:aG}:∀(n:Nat) {k:Nat} {v:HV} {u:Value},ag2 k v=true->HR β N w v u->Instr.sameBits n u u=true:=by
  intro n k v u b c;cases c<;>first
    |(cases k with
       |zero=>simp[ag2]at b
       |succ k=>cases k with
         |zero=>simp[ag2]at b
         |succ k=>cases k with
           |zero=>simp[ag2]at b
           |succ k=>simp[ag2]at b)
    |(cases n<;>simp[Instr.sameBits,beq_toListBytes])
def CN{N:aG}{K:Kd}{T:TypeId}(p:nj P K T=true){k:HV}{u:Value}(m:pX K k=true)(h:HR β N w k u):(Instr.keyThatStays u u).run P w=.ok u w:=by
 obtain⟨q,c,b⟩:=iQ p m h;have t:Instr.sameBits 10000 u u=true:=by
  rcases q with⟨_,j,rfl⟩|⟨_,z⟩
  .have:∀(ks:az) (l:ai) (d:List Value),dt ks l=true->eQ β N w l d->(d.zip d).all (λ(x,y)=>Instr.sameBits 9999 x y)=true:=by
    intro ks
    induction ks with
    |nil=>
     intro l d f n;cases l with
     |nil=>have:=n.1;cases d<;>simp at this ⊢
     |cons=>simp[dt]at f
    |cons k ks A=>intro l d f n;cases l with|nil=>simp[dt]at f|cons v l=>obtain⟨x,o,rfl,B,D⟩:=n.split;simp only[dt,aL]at f;simp only[List.zip_cons_cons,List.all_cons,aL];exact⟨rT 9999 f.1 B,A l o f.2 D⟩
   have:=this _ _ _ b c;show(j.size==j.size&&(j.toList.zip j.toList).all λ(x,y)=>Instr.sameBits 9999 x y)=true;simp only[El,j7];exact this
  rw[z]at c;cases g:Hy K k with
  |nil=>rw[g]at c;have:=c.1;simp at this
  |cons v r=>rw[g]at c b;cases i:K.ks with|nil=>rw[i]at b;simp[dt]at b|cons E F=>rw[i]at b;simp only[dt,aL]at b;exact rT 10000 b.1 (c.2 0 v u rfl rfl)
 unfold Instr.keyThatStays;rw[t];rfl
def bW.map(q:bW M C β s w){o:Ky}{pl:Pl}(f:β o=some pl){es:List (HV×HV)}(h:aj s.h o=some (.mp es)):
  ∃c:Array MapEntry,w.heap[pl.b]?=some (.map c es.length)/\Er β (Live M s β) w es c.toList/\∀i (x:MapEntry),c[i]?=some x->x.born=i:=by
 obtain⟨r,g,t⟩:=q.obj _ _ h;rw[f]at g;cases g;cases t with
 |mp _ c u j z=>
  have get:∀i (x:MapEntry),c[i]?=some x->∃k v,es[i]?=some (k,v)/\HR β (Live M s β) w k x.key/\HR β (Live M s β) w v x.val/\x.born=i:=by
   intro i x d;have l:i<es.length:=by rw[<-j];exact(rL.1 d).1
   obtain⟨y,m,A,B,D⟩:=z i es[i].1 es[i].2 (aX l);rw[d]at m;cases m;exact⟨_,_,aX l,A,B,D⟩
  refine⟨c,u,⟨by simpa using j,λi p x E d=>?_⟩,λi x d=>?_⟩
  .rw[mA]at d;obtain⟨k,v,n,F,G,_⟩:=get i x d;rw[E]at n;cases n;exact⟨F,G⟩
  obtain⟨_,_,_,_,_,H⟩:=get i x d;exact H
def Pd(V:bW M C β s w)(he:dN β (Live M s β) w e a){go:Oper}{K:Kd}{m k:X}{z:HV}{ok:Bool}(g:ba P (.lkp K m k z ok) go.op=true):ov M C P β s w a go (Cs K m k z ok e s):=by
 cases n:go.op<;>rw[n]at g<;>try cases g
 rename_i t m' k' h8;simp only[ba,aL,bU]at g;obtain⟨⟨⟨hm,hk⟩,rfl⟩,g⟩:=g
 split at g
 case h_2=>cases g
 rename_i T E ht;simp only[aL]at g;obtain⟨W,c⟩:=g;have hzero:∃H,(zeroValue E).run P w=.ok H w/\∀N,HR β N w z H:=by
  split at c
  .rename_i cs B;obtain⟨h5,d,D⟩:=ag3.1 B
   split at c
   .rename_i l;refine⟨.agg cs,by simp[zeroValue,typeInfo,d,D],λN=>?_⟩;have:=dK c β N w;exact .agg l cs (kP _ _ c) (by simpa using this.1) λi v u Y I=>this.2 i v u Y (by simpa using I)
   cases c
  .rename_i v _ B;obtain⟨h5,d,D⟩:=ag3.1 B;exact⟨v,by simp[zeroValue,typeInfo,d,D],λN=>nr c β N w⟩
  cases c
 obtain⟨H,J,L⟩:=hzero;unfold Cs;cases h1:bw m e with
 |none=>trivial
 |some p=>
  cases h2:bw k e with
  |none=>cases p<;>trivial
  |some q=>
   have hp:=aH he hm h1;have O:=aH he hk h2;generalize I:a.eval m'=u at hp;generalize F:a.eval k'=u2 at O;have f:∀(v:HV) (x:Value) (b:Bool),HR β (Live M s β) w v x->HR β (Live M s β) w (bif ok then .cO [v,.bool b]else v) (if ok then .tuple #[x,.bool b]else x):=by
    intro v x b Y;cases ok with
    |false=>exact Y
    |true=>
     refine .cO _ _ rfl λi y z Q c=>?_
     match i with|0=>simp at Q c;subst Q;subst c;exact Y|1=>simp at Q c;subst Q;subst c;exact .bool b|i+2=>simp at Q
   cases hp with
   |fS=>simp only[];cases G:pX K q with|false=>trivial|true=>refine .val (v:=bif ok then .cO [z,.bool false]else z) V ?_ (f z H false (L _));have A:=la W G O true;obtain⟨o,Z,f2⟩:=jz W O (es:=[]) (l:=[]) ⟨rfl,by simp⟩ (r:=(0,none)) rfl;obtain⟨rfl,_⟩:=f2;simp only[execOp,n,I,F,Instr.lookup,Sem.run_bind,run_underlying ht,Result.andThen_ok,Sem.run_pure];simp[A,Z,J]
   |mp o pl h6=>
    simp only[];cases G:pX K q with
    |false=>trivial
    |true=>
     simp only[cond_true];cases h3:aj s.h o with
     |none=>trivial
     |some ob=>
      cases ob with
      |mp es=>
       simp only[];obtain⟨h7,g1,g2,_⟩:=V.map h6 h3;cases h4:dZ K es q 0 with
       |none=>trivial
       |some r=>obtain⟨o',Z,f2⟩:=jz (P:=P) W O g2 h4;have A:=la (P:=P) W G O h7.isEmpty;obtain⟨j,vo⟩:=r;cases vo with|none=>obtain⟨rfl,_⟩:=f2;refine .val (v:=bif ok then .cO [z,.bool false]else z) V ?_ (f z H false (L _));simp only[execOp,n,I,F,Instr.lookup,Sem.run_bind,run_underlying ht,Result.andThen_ok,eL g1 rfl,Sem.run_pure,A,Z];simp[J]|some v=>obtain⟨x,_,_,rfl,f3,_⟩:=f2;refine .val (v:=bif ok then .cO [v,.bool true]else v) V ?_ (f v x.val true f3);simp only[execOp,n,I,F,Instr.lookup,Sem.run_bind,run_underlying ht,Result.andThen_ok,eL g1 rfl,Sem.run_pure,A,Z]
      |cells=>trivial
      |loop=>trivial
   |_=>trivial
def Pe(G:bW M C β s w)(A:dN β (Live M s β) w e a){go:Oper}{K:Kd}{neg:Bool}{x y:X}(k:ba P (.eqs K neg x y) go.op=true):ov M C P β s w a go (Hg K neg x y e s):=by
 cases g:go.op<;>rw[g]at k<;>try cases k
 rename_i op t H I t2;simp only[ba,aL]at k;obtain⟨⟨⟨⟨⟨J,L⟩,dA⟩,l⟩,m⟩,N⟩:=k;unfold Hg;cases O:bw x e with
 |none=>trivial
 |some p=>
  cases Q:bw y e with
  |none=>trivial
  |some q=>
   simp only[];cases T:pW K p q with
   |none=>trivial
   |some r=>
    have B:=aH A J O;have D:=aH A L Q;generalize V:a.eval H=u at B;generalize n:a.eval I=o at D;obtain⟨W,Y,Z⟩:=rQ T;obtain⟨E,d2,d3⟩:=iQ l W B;obtain⟨F,e2,e3⟩:=iQ l Y D;have b:=l;simp only[nj,aL,bU]at b;rw[m]at b;have i:(Op.equal t u o).run P w=.ok r w:=zQ 8 9992 t K.ks b.1 u o _ _ r E F d2 e2 d3 e3 Z;obtain⟨f,rfl⟩:∃f,u=.agg f:=by
     rcases E with⟨_,h⟩|⟨h,_⟩
     .exact h
     rw[b.2]at h;cases h
    obtain⟨d,rfl⟩:∃f,o=.agg f:=by
     rcases F with⟨_,h⟩|⟨h,_⟩
     .exact h
     rw[b.2]at h;cases h
    have j:P.eqGuardType P.depth t=false:=by simpa using N
    refine .val (v:=.bool (r != neg)) (u:=.bool (r != neg)) G ?_ (.bool _);simp only[execOp,g,V,n]
    split at dA
    .have c:neg=false:=by simpa using dA
     subst c;have z:binOp .eql t (.agg f) (.agg d)=(do pure (.bool (<-Op.equal t (.agg f) (.agg d))):Sem Value):=rfl;simp[eqGuard,j,z,i]
    .have c:neg=true:=dA;subst c;have z:binOp .neq t (.agg f) (.agg d)=(do pure (.bool (!(<-Op.equal t (.agg f) (.agg d)))):Sem Value):=rfl;simp[eqGuard,j,z,i]
    cases dA
end sound
def ig{P:Program}{w:World}{r:Nat}{o o':Obj}(h:w.heap[r]?=some o)(b:jK o=true):(setObj r o').run P w=.ok () (dG w r o'):=by unfold setObj;simp only[Sem.run,h];cases o<;>first|rfl|(simp[jK]at b)
def lg:∀(es:List (HV×HV)) (i:Nat) (v:HV) (j:Nat),(l9 es i v).length=es.length/\(l9 es i v)[j]?=if j=i then(es[j]?).map (λp=>(p.1,v))else es[j]?
 |[],i,v,j=>⟨rfl,by simp[l9]⟩
 |(a,x)::r,i,v,j=>by
  simp only[l9];cases i with
  |zero=>have:Nat.beq 0 0=true:=rfl;rw[this];refine⟨rfl,?_⟩;cases j with|zero=>rfl|succ j=>simp
  |succ i=>have:Nat.beq (i+1) 0=false:=rfl;rw[this];obtain⟨b,_⟩:=lg r i v 0;refine⟨by simp only[cond_false,aB,Pf,b],?_⟩;cases j with|zero=>simp|succ j=>obtain⟨_,c⟩:=lg r i v j;simp only[cond_false,List.getElem?_cons_succ,Pf,c,Nat.add_right_cancel_iff]
section sound
variable{M:aG}{C:eR}{P:Program}{β:Bt}{s:HS}{w:World}{e:En}{a:Act}
def bW.Eu(j:bW M C β s w){o:Ky}{pl:Pl}(c:β o=some pl){es La:List (HV×HV)}(h:aj s.h o=some (.mp es)){CO:Array MapEntry}(B:CO.size=La.length)
  (D:∀(i:Nat) (k v:HV),La[i]?=some (k,v)->∃x,CO[i]?=some x/\HR β (Live M s β) w k x.key/\HR β (Live M s β) w v x.val/\x.born=i):
  bW M C β (s.aJ o (.mp La)) (dG w pl.b (.map CO La.length))/\Ext M β s w β (s.aJ o (.mp La)) (dG w pl.b (.map CO La.length)):=by
 obtain⟨E,l,_⟩:=j.map c h;refine j.oE h c (by simp[dG]) (λb m=>bP w _ m) (jq l rfl) rfl rfl rfl (λr d=>by rw[l]at d;cases d) (λn=>?_) (λF z p q u f y n=>?_) (.inr ⟨by simp,by simp⟩)
 .exact .mp La CO (fE l) B λi k v A=>let⟨x,G,H,I,J⟩:=D i k v A;⟨x,G,H.keep (Bt.le_refl _) (ie.refl _ _) n,I.keep (Bt.le_refl _) (ie.refl _ _) n,J⟩
 obtain⟨_,t,Q,A,g,T,L,N,O,_⟩:=j.apart o F _ _ pl p h u c f q.symm y.symm;cases O
def CP{K:Kd}{k:HV}:∀{es:List (HV×HV)} {b j:Nat} {v:HV},dZ K es k b=some (j,some v)->b<=j/\j<b+es.length
 |[],b,j,v,h=>by cases h
 |(a,x)::r,b,j,v,h=>by
  simp only[dZ]at h
  split at h
  .cases h;simp
  .have:=CP h;simp only[aB];omega
  cases h
def zR(G:bW M C β s w){o:Ky}{pl:Pl}(l:β o=some pl){es:List (HV×HV)}(h:aj s.h o=some (.mp es)){K:Kd}{T:TypeId}(H:nj P K T=true){q:HV}{u:Value}(I:pX K q=true)(E:HR β (Live M s β) w q u):
  ∃c:Array MapEntry,w.heap[pl.b]?=some (.map c es.length)/\(Instr.checkKey false 10000 T u).run P w=.ok () w/\
   (∀i J,dZ K es q 0=some (i,some J)->∃x,c[i]?=some x/\x.key=u/\x.born=i/\HR β (Live M s β) w J x.val/\(Instr.findKey T u c.toList).run P w=.ok (some (i,x.val)) w/\
    ∀v z,HR β (Live M s β) w v z->bW M C β (s.aJ o (.mp (l9 es i v))) (dG w pl.b (.map (c.modify i λe=>{e with key:=u,val:=z}) es.length))/\
     Ext M β s w β (s.aJ o (.mp (l9 es i v))) (dG w pl.b (.map (c.modify i λe=>{e with key:=u,val:=z}) es.length)))/\
   (∀n,dZ K es q 0=some (n,none)->(Instr.findKey T u c.toList).run P w=.ok none w/\
    ∀v z,HR β (Live M s β) w v z->bW M C β (s.aJ o (.mp (es++[(q,v)]))) (dG w pl.b (.map (c.push {key:=u,val:=z,born:=es.length}) (es.length+1)))/\
     Ext M β s w β (s.aJ o (.mp (es++[(q,v)]))) (dG w pl.b (.map (c.push {key:=u,val:=z,born:=es.length}) (es.length+1)))):=by
 obtain⟨c,Z,D,F⟩:=G.map l h;have f:c.size=es.length:=by have:=D.1;simpa using this
 refine⟨c,Z,la H I E false,λi J L=>?_,λn L=>?_⟩
 .obtain⟨o',N,O⟩:=jz (P:=P) H E D L;obtain⟨x,_,m,rfl,f4,X⟩:=O;simp only[Nat.sub_zero]at m;rw[mA]at m;refine⟨x,m,X,F i x m,f4,N,λv z Q=>?_⟩;have Y:=(lg es i v 0).1;have:=G.Eu l h (La:=l9 es i v) (CO:=c.modify i λe=>{e with key:=u,val:=z}) (by simp[f,Y]) (λj k V g=>by
   have d:=(lg es i v j).2;rw[g]at d;rw[ta];by_cases r:j=i
   .subst r;rw[au rfl]at d;rw[au rfl,m];cases t:es[j]?with
    |none=>rw[t]at d;cases d
    |some p=>rw[t]at d;cases d;have y:=D.2 j p x t (by rw[mA];exact m);exact⟨_,rfl,by rw[<-X];exact y.1,Q,F j x m⟩
   rw[ar r]at d;rw[ar (λe=>r e.symm)];have A:=(aU.1 d.symm).1;have B:c[j]?=some (c[j]'(by omega)):=fW (by omega);have y:=D.2 j (k,V) _ d.symm (by rw[mA];exact B);exact⟨_,B,y.1,y.2,F j _ B⟩)
  rw[Y]at this;exact this
 obtain⟨o',N,O⟩:=jz (P:=P) H E D L;obtain⟨rfl,_⟩:=O;refine⟨N,λv z Q=>?_⟩;have:=G.Eu l h (La:=es++[(q,v)]) (CO:=c.push {key:=u,val:=z,born:=es.length}) (by simp[f]) (λj k V g=>by
  rw[ID];by_cases A:j=c.size
  .subst A;rw[iZ (by omega),f]at g;simp only[kZ,List.getElem?_cons_zero,bQ,gj]at g;obtain⟨rfl,rfl⟩:=g;rw[au rfl];exact⟨_,rfl,E,Q,f.symm⟩
  have W:j<es.length:=by have:=(aU.1 g).1;simp at this;omega
  rw[dD W]at g;rw[ar A];have B:c[j]?=some (c[j]'(by omega)):=fW (by omega);have y:=D.2 j (k,V) _ g (by rw[mA];exact B);exact⟨_,B,y.1,y.2,F j _ B⟩)
 simpa using this
def Pg(hr:bW M C β s w)(F:dN β (Live M s β) w e a){go:Oper}{K:Kd}{m k v:X}(d:ba P (.mup K m k v) go.op=true):ov M C P β s w a go (Hf K m k v e s):=by
 have b:∃t f g j,(go.op=.mapUpdate t f g j∨go.op=.insert t f g j)/\cW m f=true/\cW k g=true/\cW v j=true/\∃T E,P.underlying t=some (.map T E)/\nj P K T=true:=by
  cases b:go.op<;>rw[b]at d<;>try cases d
  all_goals
   simp only[ba,aL]at d;obtain⟨⟨⟨y,A⟩,B⟩,d⟩:=d
   split at d
   .rename_i T E l
    first
     |exact⟨_,_,_,_,.inl rfl,y,A,B,T,E,l,d⟩
     |exact⟨_,_,_,_,.inr rfl,y,A,B,T,E,l,d⟩
   cases d
 obtain⟨t,f,g,j,b,y,A,B,T,E,l,Y⟩:=b;unfold Hf;cases h1:bw m e with
 |none=>trivial
 |some p=>
  cases h2:bw k e with
  |none=>cases p<;>trivial
  |some q=>
   cases h3:bw v e with
   |none=>cases p<;>trivial
   |some z=>
    have Z:=aH F y h1;have G:=aH F A h2;have H:=aH F B h3;generalize hu:a.eval f=u at Z;generalize I:a.eval g=u2 at G;generalize J:a.eval j=L at H;have c:(execOp a.eval go).run P w=((Instr.mapUpdate t u u2 L).run P w).andThen λ_ w=>.ok .skip w:=by rcases b with b|b<;>simp[execOp,b,hu,I,J]
    cases Z with
    |mp o pl N=>
     simp only[];cases n:pX K q with
     |false=>trivial
     |true=>
      simp only[cond_true];cases h4:aj s.h o with
      |none=>trivial
      |some ob=>
       cases ob with
       |mp es=>
        simp only[];obtain⟨h6,D,g2,g3,g4⟩:=zR hr N h4 Y n G;cases h5:dZ K es q 0 with
        |none=>trivial
        |some r=>obtain⟨i,vo⟩:=r;cases vo with|none=>obtain⟨O,Q⟩:=g4 i h5;obtain⟨V,W⟩:=Q z L H;refine⟨Go.undef,_,β,.inr ⟨?_,rfl⟩,V,W,.undef⟩;rw[c];simp only[Instr.mapUpdate,Sem.run_bind,run_underlying l,Result.andThen_ok,eL D rfl,g2,O,ig D rfl]|some v0=>obtain⟨x,O,Q,k3,k4,k5,k6⟩:=g3 i v0 h5;obtain⟨V,W⟩:=k6 z L H;refine⟨Go.undef,_,β,.inr ⟨?_,rfl⟩,V,W,.undef⟩;rw[c];simp only[Instr.mapUpdate,Sem.run_bind,run_underlying l,Result.andThen_ok,eL D rfl,g2,k5,O,me,gB,Q,CN Y n G,ig D rfl]
       |cells=>trivial
       |loop=>trivial
    |_=>trivial
def Ph(hr:bW M C β s w)(he:dN β (Live M s β) w e a){go:Oper}{K:Kd}{m k:X}{z:HV}(D:ba P (.men K m k z) go.op=true):ov M C P β s w a go (Hj K m k z e s):=by
 cases J:go.op<;>rw[J]at D<;>try cases D
 rename_i t m' k';simp only[ba,aL]at D;obtain⟨⟨hm,hk⟩,D⟩:=D
 split at D
 case h_2=>cases D
 rename_i T E ht;simp only[aL]at D;obtain⟨hK,n⟩:=D;have hzero:∃V,(∀w,(zeroValue E).run P w=.ok V w)/\∀N,HR β N w z V:=by
  split at n
  .rename_i cs L;obtain⟨ha,A,O⟩:=ag3.1 L
   split at n
   .rename_i l;refine⟨.agg cs,λw=>by simp[zeroValue,typeInfo,A,O],λN=>?_⟩;have:=dK n β N w;exact .agg l cs (kP _ _ n) (by simpa using this.1) λi v u hv hu=>this.2 i v u hv (by simpa using hu)
   cases n
  .rename_i v _ L;obtain⟨ha,A,O⟩:=ag3.1 L;exact⟨v,λw=>by simp[zeroValue,typeInfo,A,O],λN=>nr n β N w⟩
  cases n
 obtain⟨V,hd,Y⟩:=hzero;unfold Hj;cases h1:bw m e with
 |none=>trivial
 |some p=>
  cases h2:bw k e with
  |none=>cases p<;>trivial
  |some q=>
   have hp:=aH he hm h1;have hq:=aH he hk h2;generalize hu:a.eval m'=u at hp;generalize Z:a.eval k'=u2 at hq;have H:∀{β':Bt} {N:aG} {w':World} (v:HV) (x:Value) (i:Nat),HR β' N w' v x->HR β' N w' (.cO [v,.int .i64 (.ofNat i)]) (.tuple #[x,goInt i]):=by
    intro β' N w' v x i hv;refine .cO _ _ rfl λj y z F n=>?_
    match j with|0=>simp at F n;subst F;subst n;exact hv|1=>simp at F n;subst F;subst n;exact .int .i64 (.ofNat i)|j+2=>simp at F
   cases hp with
   |mp o pl hf=>
    simp only[];cases h3:pX K q with
    |false=>trivial
    |true=>
     simp only[cond_true];cases h4:aj s.h o with
     |none=>trivial
     |some ob=>
      cases ob with
      |mp d=>
       simp only[];obtain⟨G,g1,g2,g3,g4⟩:=zR hr hf h4 hK h3 hq;cases h5:dZ K d q 0 with
       |none=>trivial
       |some r=>
        obtain⟨i,vo⟩:=r;cases vo with
        |none=>obtain⟨k1,k2⟩:=g4 i h5;obtain⟨B,f⟩:=k2 z V (Y _);simp only[];rw[bK];refine⟨.tuple #[V,goInt d.length],_,β,.inl ?_,B,f,H z V d.length ((Y _).ext f)⟩;simp only[execOp,J,hu,Z,Instr.mapEntry,Sem.run_bind,run_underlying ht,Result.andThen_ok,eL g1 rfl,g2,k1,hd,ig g1 rfl,Sem.run_pure]
        |some Q=>
         obtain⟨x,k1,k2,k3,k4,k5,k6⟩:=g3 i Q h5;obtain⟨B,f⟩:=k6 Q x.val k4;have h6:l9 d i Q=d:=by
          apply Pj;intro j;rw[(lg d i Q j).2];by_cases W:j=i
          .subst W;rw[au rfl];have:∀(d:List (HV×HV)) (I:Nat) (j:Nat),dZ K d q I=some (j,some Q)->(d[j-I]?).map (λp=>(p.1,Q))=d[j-I]?:=by
            intro d
            induction d with
            |nil=>intro I j h;cases h
            |cons p d ih=>
             obtain⟨pk,pv⟩:=p;intro I j h;simp only[dZ]at h
             split at h
             .cases h;simp
             .have k7:=CP h;have:=ih (I+1) j h;rw[show j-I=(j-(I+1))+1 by omega];simpa using this
             cases h
           simpa using this d 0 j h5
          rw[ar W]
         rw[h6]at B f;have k8:s.aJ o (.mp d)={s with h:=av (some (.mp d)) o s.h}:=rfl;have c:∀y,aj (s.aJ o (.mp d)).h y=aj s.h y:=λy=>by
          show aj (av (some (.mp d)) o s.h) y=_;rw[af];split
          .rename_i e;rw[e,h4]
          rfl
         have h7:∀b,Live M (s.aJ o (.mp d)) β b↔Live M s β b:=λb=>or_congr Iff.rfl ⟨λ⟨y,ob,pl,a1,a2,a3⟩=>⟨y,ob,pl,by rw[<-c];exact a1,a2,a3⟩,λ⟨y,ob,pl,a1,a2,a3⟩=>⟨y,ob,pl,by rw[c];exact a1,a2,a3⟩⟩
         have hg:bW M C β s (dG w pl.b (.map (G.modify i λe=>{e with key:=u2,val:=x.val}) d.length)):=
          ⟨B.lt,λy ob F=>let⟨ho,b1,b2⟩:=B.obj y ob (by rw[c];exact F);⟨ho,b1,b2.keep (Bt.le_refl _) (λb _ hb=>(h7 b).2 hb) (cJ.refl _ _) rfl⟩,
           λy y' ob hs hx k0 c1 c2=>B.apart y y' ob hs hx k0 (by rw[c];exact c1) (by rw[c];exact c2),λy t lo hi g F=>B.qK y t lo hi g (by rw[c];exact F),B.vg,B.mlt,hr.sO,B.zl⟩
         have h8:Ext M β s w β s (dG w pl.b (.map (G.modify i λe=>{e with key:=u2,val:=x.val}) d.length)):=
          ⟨f.le,f.keeps,λb hb hl=>f.less b hb ((h7 b).2 hl),f.os,f.tape,f.output,f.loops,f.nx,f.oP⟩
         refine⟨.tuple #[x.val,goInt i],_,β,.inl ?_,hg,h8,H Q x.val i (k4.ext h8)⟩;have h9:(G.modify i λe=>{e with key:=u2})=(G.modify i λe=>{e with key:=u2,val:=x.val}):=by
          apply AV;intro j;rw[ta,ta];by_cases W:i=j
          .subst W;rw[au rfl,au rfl,k1];rfl
          rw[ar W,ar W]
         simp only[execOp,J,hu,Z,Instr.mapEntry,Sem.run_bind,run_underlying ht,Result.andThen_ok,eL g1 rfl,g2,k5,k1,me,gB,k2,CN hK h3 hq,h9,ig g1 rfl,Sem.run_pure,k3]
      |cells=>trivial
      |loop=>trivial
   |_=>trivial
def Pk(N:bW M C β s w)(F:dN β (Live M s β) w e a){go:Oper}{m i v:X}(D:ba P (.mes m i v) go.op=true):ov M C P β s w a go (Hk m i v e s):=by
 cases y:go.op<;>rw[y]at D<;>try cases D
 rename_i t m' i' G;simp only[ba,aL]at D;obtain⟨⟨hm,hi⟩,hv⟩:=D;unfold Hk;cases h1:bw m e with
 |none=>trivial
 |some p=>
  cases h2:bw i e with
  |none=>cases p<;>trivial
  |some q=>
   cases h3:bw v e with
   |none=>cases p<;>cases q<;>first|trivial|(rename_i k n;cases n<;>trivial)
   |some z=>
    have d:=aH F hm h1;have O:=aH F hi h2;have Q:=aH F hv h3;generalize hu:a.eval m'=u at d;generalize H:a.eval i'=u2 at O;generalize I:a.eval G=u3 at Q;cases d with
    |mp o pl A=>
     cases O with
     |int kd n=>
      cases n with
      |negSucc n=>trivial
      |ofNat n=>
       simp only[];cases T:aj s.h o with
       |none=>trivial
       |some ob=>
        cases ob with
        |mp x=>
         simp only[];cases h5:Nat.blt n (aM x)with
         |false=>trivial
         |true=>
          rw[ck,bK]at h5;simp only[cond_true];obtain⟨b,V,J,E⟩:=N.map A T;have L:b.size=x.length:=by have:=J.1;simpa using this
          have W:=(lg x n z 0).1;obtain⟨Y,Z⟩:=N.Eu A T (La:=l9 x n z) (CO:=b.modify n λe=>{e with val:=u3}) (by simp[L,W]) (λj k G hj=>by
           have c:=(lg x n z j).2;rw[hj]at c;rw[ta];by_cases f:j=n
           .subst f;rw[au rfl]at c;have g:b[j]?=some (b[j]'(by omega)):=fW (by omega);rw[au rfl,g];cases l:x[j]?with
            |none=>rw[l]at c;cases c
            |some p=>rw[l]at c;cases c;have d:=J.2 j p _ l (by rw[mA];exact g);exact⟨_,rfl,d.1,Q,by simpa using E j _ g⟩
           rw[ar f]at c;rw[ar (λe=>f e.symm)];have h6:=(aU.1 c.symm).1;have g:b[j]?=some (b[j]'(by omega)):=fW (by omega);have d:=J.2 j (k,G) _ c.symm (by rw[mA];exact g);exact⟨_,g,d.1,d.2,E j _ g⟩)
          rw[W]at Y Z;refine⟨Go.undef,_,β,.inr ⟨?_,rfl⟩,Y,Z,.undef⟩;have r:b.findIdx? (λe=>(e.born:Int)==(Int.ofNat n))=some n:=by
           rw[Array.findIdx?_eq_some_iff_getElem];have B:n<b.size:=by omega
           refine⟨B,?_,λj hj=>?_⟩
           .have:=E n b[n] (fW B);simp[this]
           have:=E j b[j] (fW (by omega));simp[this];omega
          simp only[execOp,y,hu,H,I,Instr.entryStore,Sem.run_bind,eL V rfl,Result.andThen_ok,asInt,asIntOf,Sem.run_pure,r,ig V rfl]
        |cells=>trivial
        |loop=>trivial
     |_=>trivial
    |_=>trivial
def bW.Ge(h:bW M C β s w){pl:Pl}(hM:¬M pl.b)(hb:pl.b<w.heap.size){ob:Ob}{t:Tr HV}{Z hi:Nat}{g:Ky}(A:ob=.cells t Z hi g)
  {ty:Tr (Nat×Nat)}(Q:ty=s.ty∨∃E,ty=av (some (E,0)) s.nx s.ty/\zk w pl.b E 0)
  {gr:Tr cg}(T:∃ms,aj gr g=some ms/\s.nx∈ms)(q:∀p ms x,aj s.gr p=some ms->x∈ms->(∃ob,aj s.h x=some ob)->∃B,aj gr p=some B/\x∈B)(D:∀p ms,aj gr p=some ms->p.toNat<s.nx.succ.toNat)
  (F:∀o' jV c,aj s.h o'=some jV->β o'=some c->c.b=pl.b->c.s=pl.s/\∃G k l,jV=.cells G k l g)
  (hN:Live M s β pl.b∨∀o jV,aj s.h o=some jV->∃c,β o=some c/\CA C β (λx=>x=pl.b∨Live M s β x) w c jV)
  (V:CA C (β.add s.nx pl) (λx=>x=pl.b∨Live M s β x) w pl ob):
  bW M C (β.add s.nx pl) {h:=av (some ob) s.nx s.h,nx:=s.nx.succ,gr:=gr,ty:=ty} w:=by
 subst A;have n:=h.fresh;have hle:β.le (β.add s.nx pl):=Bt.jW n;have j:∀x,Live M {h:=av (some (.cells t Z hi g)) s.nx s.h,nx:=s.nx.succ,gr:=gr,ty:=ty} (β.add s.nx pl) x->x=pl.b∨Live M s β x:=by
  rintro x (O|⟨o,jV,c,i,d,rfl⟩)
  .exact .inr (.inl O)
  simp only[af]at i;unfold Bt.add at d;by_cases f:o=s.nx
  .simp only[f,bp,bQ]at d;subst d;exact .inl rfl
  simp only[f,bD]at i d;exact .inr (.inr ⟨o,jV,c,i,d,rfl⟩)
 refine⟨λo c f=>?_,λo jV f=>?_,λo o' H I J L i d y r N u=>?_,λo G k l p f=>?_,D,h.mlt,?_,h.IE rfl (Q.imp id λ⟨E,i,d⟩=>⟨E,0,i,d,λh=>absurd rfl h⟩)⟩
 rotate_right
 .rintro x O ⟨o,jV,c,i,d,rfl⟩
  simp only[af]at i;unfold Bt.add at d;by_cases f:o=s.nx
  .simp only[f,bp,bQ]at d;subst d;exact hM O
  simp only[f,bD]at i d;exact h.sO _ O ⟨o,jV,c,i,d,rfl⟩
 .unfold Bt.add at f;rw[Ky.aS];by_cases m:o=s.nx
  .simp only[m,bp,bQ]at f;subst f;subst m;exact⟨by omega,hb⟩
  simp only[m,bD]at f;have:=h.lt o c f;omega
 .simp only[af]at f;by_cases m:o=s.nx
  .simp only[m,bp,bQ]at f;subst f;subst m;exact⟨pl,by simp[Bt.add],V.keep (Bt.le_refl _) (λx _ v=>j x v) (cJ.refl _ _) rfl⟩
  simp only[m,bD]at f;rcases hN with hl|hg
  .obtain⟨c,i,d⟩:=h.obj o jV f;refine⟨c,hle _ _ i,d.keep hle (λx _ v=>?_) (cJ.refl _ _) rfl⟩;rcases j x v with rfl|v
   .exact hl
   exact v
  obtain⟨c,i,d⟩:=hg o jV f;exact⟨c,hle _ _ i,d.keep hle (λx _ v=>j x v) (cJ.refl _ _) rfl⟩
 .simp only[af]at i d;unfold Bt.add at y r;by_cases W:o=s.nx
  .simp only[W,bp,bQ]at i y;have z:o'≠s.nx:=λz=>N (W.trans z.symm)
   simp only[z,bD]at d r;subst y;subst i;obtain⟨X,G,k,l,Y⟩:=F o' I L d r u.symm;exact⟨X.symm,_,_,_,_,_,_,_,rfl,Y⟩
  simp only[W,bD]at i y;by_cases z:o'=s.nx
  .simp only[z,bp,bQ]at d r;subst r;subst d;obtain⟨X,G,k,l,Y⟩:=F o H J i y u;exact⟨X,_,_,_,_,_,_,_,Y,rfl⟩
  simp only[z,bD]at d r;exact h.apart o o' H I J L i d y r N u
 simp only[af]at f;by_cases m:o=s.nx
 .simp only[m,bp,bQ]at f;cases f;subst m;exact T
 simp only[m,bD]at f;obtain⟨ms,i,d⟩:=h.qK o G k l p f;exact q p ms o i d ⟨_,f⟩
def CA.cut{N:aG}{pl:Pl}{t:Tr HV}{c d b:Nat}{g:Ky}(h:CA C β N w pl (.cells t c d g))(q:b<=d):CA C β N w pl (.cells t c b g):=by cases h with|cells _ _ _ _ f E i j l m r n=>exact .cells t c b g f E i j l m (by omega) λk v o u p=>n k v o (by omega) p
def bW.spare(h:bW M C β s w){b:Nat}{cs:Array Value}{E:TypeId}{fr:Nat×Nat}(j:w.heap[b]?=some (.cells cs E fr))(l:iO s β b){p:Nat}{vs:List Value}(m:p+vs.length<=cs.size)
  (f:∀o' d N q x O,aj s.h o'=some (.cells N q x O)->β o'=some d->d.b=b->∀k,q<=k->k<x->¬(p<=k-d.s/\k-d.s<p+vs.length)):
  bW M C β s (dG w b (.cells (nz cs p vs) E fr))/\Ext M β s w β s (dG w b (.cells (nz cs p vs) E fr)):=by
 have Q:Live M s β b:=.inr l;have y:cJ (Live M s β) w (dG w b (.cells (nz cs p vs) E fr)):=⟨by simp[dG],λz _ T=>bP w _ λe=>T (by rw[e];exact Q),rS j (fe vs cs p)⟩;refine⟨⟨λo pl i=>⟨(h.lt o pl i).1,by have:=(h.lt o pl i).2;simpa[dG]using this⟩,λo ob i=>?_,h.apart,h.qK,h.vg,λb D=>by have:=h.mlt b D;simpa[dG]using this,h.sO,λo E n i=>let⟨pl,A,B,V⟩:=h.zl o E n i;⟨pl,A,B.keep y,V⟩⟩,Bt.le_refl _,y,ie.refl _ _,rfl,rfl,rfl,λz r F=>?_,aV _,λz D=>bP w _ λe=>h.sO z D (by rw[e];exact l)⟩
 .obtain⟨pl,A,B⟩:=h.obj o ob i;refine⟨pl,A,?_⟩;by_cases e:pl.b=b
  .cases B with
   |cells t G H g W E' X Y c Z hn hc=>
    rw[e,j]at c;cases c;refine .cells t G H g _ E fr Y (by rw[e];exact fE j) (by rw[fe];exact Z) (by rw[fe];exact hn) λk v I J a3=>?_
    obtain⟨b1,u,b2,b3⟩:=hc k v I J a3;refine⟨b1,u,?_,b3.keep (Bt.le_refl _) (ie.refl _ _) y⟩;rw[rR vs cs p _ m,ar (f o pl t G H g i A e k I J)];exact b2
   |mp es h4 c=>rw[e,j]at c;cases c
   |loop st L tm ps h5 body r nt keep c=>rw[e,j]at c;cases c
  exact B.keep (Bt.le_refl _) (ie.refl _ _) y (bP w _ e)
 by_cases e:z=b
 .subst e;rw[j]at F;cases F
 exact⟨r,by rw[bP w _ e];exact F⟩
def oU(M:aG)(C:eR)(β:Bt)(s:HS)(w:World)(run:Result Value):cX->Prop
 |.v v s'=>∃u b c,run=.ok u b/\bW M C c s' b/\Ext M β s w c s' b/\HR c (Live M s' c) b v u
 |.bad=>True
 |_=>False
def rV{sz ea:Nat}{tx:TypeId}{y:Value}{b:List Value}{new:ai}(c:Src P sz tx y ea b w){N:aG}(d:eQ β N w new b):new.length=ea*sz:=by rw[<-d.1,c.newsLen]
def qa(w:World)(o:Obj):(w.drew.alloc o).heap[w.heap.size]?=some o:=by show(w.heap.push o)[w.heap.size]?=_;simp
def Ev(w:World)(o:Obj):w.heap.size<(w.drew.alloc o).heap.size:=by show _<(w.heap.push o).size;simp
def tb(w:World){E:TypeId}{z:Value}{sz len ea cap:Nat}(c:z.cells.size=sz){oV d:List Value}(f:oV.length=len*sz)(g:d.length=ea*sz)(w':World)(b:Nat)
  (h:w'.heap[b]?=some (.cells ((oV++d).toArray++Builtin.zeroCells z.cells (grownCap w (len+ea) cap E-(len+ea))) E)):
  oO w' b E (grownCap w (len+ea) cap E*sz):=by
 refine⟨_,(0,0),h,?_⟩;have i:=grownCap_ge w (len+ea) cap E;rw[Pm,size_zeroCells,c];simp only[I0,bZ,f,g];rw[<-Nat.add_mul,<-Nat.add_mul]
 congr 1;omega
def jN(D:bW M C β s w){f:bL}{t tx ty E:TypeId}(n:∀F,f=some F->F=E){info:TypeInfo}{z:Value}(G:P.underlying t=some (.slice E))(H:P.info? E=some info)(J:info.zero=some z)(p:z.cells.size=info.size){bI:Nat}(q:bI*info.bytes<=140737488355328)(L:bI<=140737488355328)
  {y:Value}{ea:Nat}{b:List Value}(d:Src P info.size tx y ea b w){new:ai}(r:eQ β (Live M s β) w new b)(g:∀x∈new,x.one=true):
  oU M C β s w ((Builtin.append_ #[t,tx] ty #[.slice none 0 0,y]).run P w) (s.append info.size bI f .ah new ea):=by
 have u:=rV d r;show oU M C β s w _ (bif Nat.beq ea 0 then .v .ah s else bif Nat.ble ea bI then s.Cq (Ea f s) new (λo=>.sl o 0 ea info.size)else .bad);cases h0:Nat.beq ea 0 with
 |true=>rw[bf]at h0;subst h0;have:b=[]:=ja (by rw[d.newsLen];simp);subst this;exact⟨_,w,β,run_append_nothing (P:=P) w t tx ty E info G H none 0 0 (aV _) y d,D,Ext.refl _ _ _,.ah⟩
 |false=>
  cases O:Nat.ble ea bI with
  |false=>trivial
  |true=>
   rw[ej]at O;have h0:ea≠0:=λh=>by rw[h]at h0;cases h0
   simp only[cond_false,cond_true];rw[p9];have i:=run_append_grow_src (P:=P) w t tx ty E info z G H J none 0 0 [] (by simp[Builtin.firstCells]) y ea b d (by omega) (by omega) (growslice_fits (by omega) (fu (ji _ (by omega)) q));have Q:bW M C β s w.drew:=D.drawn rfl;have k:Ext M β s w β s w.drew:=Ext.drawn rfl rfl rfl rfl;have A:=r.ext k;obtain⟨I,T,V,W⟩:=Q.newRow (l:=new) (cs:=([]++b).toArray++Builtin.zeroCells z.cells (grownCap w (0+ea) 0 E-(0+ea))) (E:=E) (fr:=(0,0)) (ty:=Ea f s) (by
     cases f with
     |none=>exact .inl rfl
     |some F=>rw[n F rfl];exact .inr ⟨0,rfl,.inl rfl⟩) (.inl rfl) (by simp[u,d.newsLen]) (λj v B=>by
    have c:j<b.length:=by rw[r.1];exact(aU.1 B).1
    refine⟨g v (cE B),b[j],?_,A.2 j v _ B (aX c)⟩;rw[Ew (by simpa using c)];simp[c])
   refine⟨_,_,I,i,T,k.trans V,?_⟩;have X:=grownCap_ge w (0+ea) 0 E;have m:=tb w (E:=E) (cap:=0) p (oV:=[]) (len:=0) (by simp) d.newsLen (w.drew.alloc (.cells (([]++b).toArray++Builtin.zeroCells z.cells (grownCap w (0+ea) 0 E-(0+ea))) E)) w.heap.size (qa _ _);have:=λN=>HR.sl (β:=I) (N:=N) s.nx 0 ea info.size (grownCap w (0+ea) 0 E) _ ⟨w.heap.size,0⟩ W (aV _) (by omega) ⟨E,m⟩ (by simp)
   simpa using this _
def CQ(p:bW M C β s w){o:Ky}{t0:Tr HV}{J L:Nat}{g:Ky}(ho:aj s.h o=some (.cells t0 J L g)){ms:cg}(F:aj s.gr g=some ms){A B:Nat}{h0 j:Tr Ob}{q f:cg}(hk:eS s.h 12 ms=(h0,q))(hq:bN h0 o A B q=(j,f))
  {t:Tr HV}{I hi:Nat}{l:Ky}(u:aj j o=some (.cells t I hi l))(hA:A<=hi):
  l=g/\bW M C β {h:=av (some (.cells t I A g)) o j,nx:=s.nx,gr:=av (some f) g s.gr,ty:=s.ty} w/\Ext M β s w β {h:=av (some (.cells t I A g)) o j,nx:=s.nx,gr:=av (some f) g s.gr,ty:=s.ty} w/\
   (∀x D c d,x≠o->aj j x=some (.cells D c d g)->¬(c<B/\A<d)):=by
 obtain⟨N,O,k3⟩:=qM 12 ms s.h;rw[hk]at N O k3;obtain⟨Q,T,q3⟩:=ny o A B h0 q;rw[hq]at Q T q3;simp only at N O k3 Q T q3;have k:∀{x ob},aj h0 x=some ob->aj s.h x=some ob:=λ{x ob} b=>by
  rcases N x with e|e
  .rw[<-e];exact b
  rw[e]at b;cases b
 have i:∀{x ob},aj j x=some ob->aj h0 x=some ob:=λ{x ob} b=>by
  rcases Q x with e|⟨e,_⟩
  .rw[<-e];exact b
  rw[e]at b;cases b
 have m:∀x,aj j x=aj s.h x∨aj j x=none:=λx=>by cases e:aj j x with|none=>exact .inr rfl|some ob=>exact .inl (k (i e)).symm
 have v:∀{x ob},aj j x=some ob->aj s.h x=some ob:=λ{x ob} b=>k (i b)
 have hg:l=g:=by have:=v u;rw[ho]at this;cases this;rfl
 subst hg;have n:∀{x D c d},aj j x=some (.cells D c d l)->x∈f/\(x≠o->¬(c<B/\A<d)):=λ{x D c d} b=>by obtain⟨V,E,g2⟩:=p.qK _ _ _ _ _ (v b);rw[F]at E;cases E;exact T x (O x g2 _ (i b)) _ _ _ _ b
 have y:bW M C β {h:=j,nx:=s.nx,gr:=av (some f) l s.gr,ty:=s.ty} w:=p.sub m (λx D c d E b=>by
  simp only[af];by_cases G:E=l
  .subst G;rw[au rfl];exact⟨f,rfl,(n b).1⟩
  .rw[ar G];exact p.qK _ _ _ _ _ (v b)) (λE V z=>by
  simp only[af]at z;by_cases G:E=l
  .subst G;exact p.vg _ _ F
  rw[ar G]at z;exact p.vg _ _ z)
 have W:Ext M β s w β {h:=j,nx:=s.nx,gr:=av (some f) l s.gr,ty:=s.ty} w:=Ext.sub m;obtain⟨pl,X,Y⟩:=y.obj o _ u;obtain⟨r1,r2⟩:=y.oE (w':=w) (jV:=.cells t I A l) u X rfl (λ_ _=>rfl) (λ_ _ _ h=>h) rfl rfl rfl (λr p=>⟨r,p⟩) (λ_=>Y.cut hA) (λo' H h3 _ h1 h2 _ _=>by
  obtain⟨h4,c1,c2⟩:=y.obj o' H h1;rw[h2]at c1;cases c1;exact c2) (.inl ⟨_,_,_,_,_,_,_,rfl,rfl⟩)
 exact⟨rfl,r1,W.trans r2,λx D c d Z b=>(n b).2 Z⟩
def mC(hr:bW M C β s w){tg:bL}{t tx ty E:TypeId}(x5:∀F,tg=some F->F=E){info:TypeInfo}{z:Value}(ht:P.underlying t=some (.slice E))(hi:P.info? E=some info)(hz:info.zero=some z)(kl:z.cells.size=info.size){bI:Nat}(x6:bI*info.bytes<=140737488355328)(xx:bI<=140737488355328)
  {y:Value}{ea:Nat}{i:List Value}(L:Src P info.size tx y ea i w){new:ai}(hn:eQ β (Live M s β) w new i)(k5:∀x∈new,x.one=true){o:Ky}{bj len kb:Nat}{xv:Value}(hx:HR β (Live M s β) w (.sl o bj len kb) xv):
  oU M C β s w ((Builtin.append_ #[t,tx] ty #[xv,y]).run P w) (s.append info.size bI tg (.sl o bj len kb) new ea):=by
 have km:=rV L hn;unfold HS.append;simp only[];cases h0:Nat.beq ea 0 with
 |true=>rw[bf]at h0;subst h0;have:i=[]:=ja (by rw[L.newsLen];simp);subst this;have kn:=hx;cases hx with|sl _ _ _ _ cap n pl O x7 hl hb ko=>exact⟨_,w,β,run_append_nothing (P:=P) w t tx ty E info ht hi _ len cap hl y L,hr,Ext.refl _ _ _,kn⟩|pY _ _ _ b k=>exact⟨_,w,β,run_append_nothing (P:=P) w t tx ty E info ht hi _ 0 0 (aV _) y L,hr,Ext.refl _ _ _,kn⟩
 |false=>
 have h0:ea≠0:=λh=>by rw[h]at h0;cases h0
 simp only[cond_false];cases kp:Nat.beq info.size kb with
 |false=>trivial
 |true=>
 rw[bf]at kp;subst kp;simp only[mB,cond_false];cases ho:aj s.h o with
 |none=>trivial
 |some x8=>
 cases x8 with
 |mp es=>trivial
 |loop=>trivial
 |cells t0 xy xz g=>
 simp only[];cases kq:aj s.gr g with
 |none=>trivial
 |some ms=>
 simp only[];generalize hk:eS s.h 12 ms=q0;obtain⟨x9,xa⟩:=q0;simp only[];generalize hq:bN x9 o (bj+len*info.size) (bj+len*info.size+aM new) xa=q1;obtain⟨h',r⟩:=q1;simp only[];cases xb:aj h' o with
 |none=>trivial
 |some xc=>
 cases xc with
 |mp es=>trivial
 |loop=>trivial
 |cells tr lo xd B=>
 simp only[];cases h8:(jg o r&&Nat.ble lo bj&&Nat.ble (bj+len*info.size) xd&&Nat.ble (len+ea) bI)with
 |false=>trivial
 |true=>
 simp only[aL,ej]at h8;obtain⟨⟨⟨c1,c2⟩,c3⟩,c4⟩:=h8;obtain⟨rfl,Q,x1,c5⟩:=CQ hr ho kq hk hq xb c3;simp only[cond_true];generalize hA:bj+len*info.size=A at*;rw[bK]at*;generalize h5:({h:=av (some (.cells tr lo A B)) o h',nx:=s.nx,gr:=av (some r) B s.gr,ty:=s.ty}:HS)=s2 at*;have h6:aj s2.h o=some (.cells tr lo A B):=by rw[<-h5];simp[af]
 have h9:s2.nx=s.nx:=by rw[<-h5]
 have kr:s2.ty=s.ty:=by rw[<-h5]
 have k6:l7 tg o s=s2.ty∨(l7 tg o s=av (some (E,0)) s2.nx s2.ty/\∃n,aj s.ty o=some (E,n)):=by
  unfold l7;rw[kr,h9];cases tg with
  |none=>exact .inl rfl
  |some F=>
   rw[x5 F rfl];cases hq:aj s.ty o with
   |none=>exact .inl rfl
   |some p=>obtain⟨T,n⟩:=p;simp only[];cases he:Nat.beq T E with|false=>exact .inl rfl|true=>rw[bf]at he;subst he;exact .inr ⟨rfl,n,rfl⟩
 have ks:=hn.ext x1;obtain⟨pl,O,xe⟩:=Q.obj o _ h6;have kt:(len+ea)*info.bytes<=140737488355328:=fu (ji _ c4) x6;have kc:∃oV:List Value,oV.length=len*info.size/\∃q T fr,w.heap[pl.b]?=some (.cells q T fr)/\IB fr q.size/\pl.s<=bj/\A-pl.s<=q.size/\(∀j,j<len*info.size->q[bj-pl.s+j]?=oV[j]?)/\
   (∀k v,bj<=k->k<A->fI tr k=some v->v.one=true/\∃u,oV[k-bj]?=some u/\HR β (Live M s2 β) w v u):=by
  cases xe with
  |cells _ _ _ _ q T fr xf hb hf xg hc=>
   have hle:bj-pl.s+len*info.size<=q.size:=by omega
   refine⟨(q.toList.drop (bj-pl.s)).take (len*info.size),by simp;omega,q,T,fr,hb,hf,by omega,xg,λj hj=>?_,λk v a1 a2 V=>?_⟩
   .rw[rN hj,kX,mA]
   obtain⟨b1,u,b2,b3⟩:=hc k v (by omega) a2 V;refine⟨b1,u,?_,b3⟩;rw[rN (by omega),kX,mA,show bj-pl.s+(k-bj)=k-pl.s by omega];exact b2
 obtain⟨oV,ol,q,T,fr,hb,hf,x7,y0,Gf,ha⟩:=kc;have D:iO s2 β pl.b:=⟨o,_,pl,h6,O,rfl⟩;have W:Live M s2 β pl.b:=.inr D;have hg:∀g1 h7,aj (av (some (s.nx::r)) B s.gr) g1=some h7->g1.toNat<s2.nx.succ.toNat:=λg1 h7 kd=>by
  rw[h9,Ky.aS];simp only[af]at kd;by_cases eg:g1=B
  .subst eg;have:=hr.vg _ _ kq;omega
  rw[ar eg]at kd;have:=hr.vg _ _ kd;omega
 have hy:∀g1 h7 x,aj s2.gr g1=some h7->x∈h7->(∃ob,aj s2.h x=some ob)->∃Pn,aj (av (some (s.nx::r)) B s.gr) g1=some Pn/\x∈Pn:=λg1 h7 x f l _=>by
  rw[<-h5]at f;simp only[af]at f ⊢;by_cases eg:g1=B
  .rw[au eg]at f ⊢;cases f;exact⟨_,rfl,by simp[l]⟩
  rw[ar eg]at f ⊢;exact⟨_,f,l⟩
 have ku:({h:=av (some (.cells (dh new A tr) bj (A+new.length) B)) s.nx (av (some (.cells tr lo A B)) o h'),nx:=s.nx.succ,gr:=av (some (s.nx::r)) B s.gr,ty:=l7 tg o s}:HS)=
   {h:=av (some (.cells (dh new A tr) bj (A+new.length) B)) s2.nx s2.h,nx:=s2.nx.succ,gr:=av (some (s.nx::r)) B s.gr,ty:=l7 tg o s}:=by rw[<-h5]
 rw[ku];have k7:∃Pn,aj (av (some (s.nx::r)) B s.gr) B=some Pn/\s2.nx∈Pn:=⟨s.nx::r,by rw[af,au rfl],by rw[h9];simp⟩;have grow:∀(Ad:Option Addr) (cap:Nat),xv=.slice Ad len cap->cap<len+ea->(Builtin.firstCells info.size len (.slice Ad len cap)).run P w.drew=.ok oV.toArray w.drew->
   oU M C β s w ((Builtin.append_ #[t,tx] ty #[xv,y]).run P w) (.v (.sl s.nx bj (len+ea) info.size) {h:=av (some (.cells (dh new A tr) bj (A+new.length) B)) s2.nx s2.h,nx:=s2.nx.succ,gr:=av (some (s.nx::r)) B s.gr,ty:=l7 tg o s}):=by
  intro Ad cap xi kv xj;subst xi;have Z:=run_append_grow_src (P:=P) w t tx ty E info z ht hi hz Ad len cap oV xj y ea i L kv (by omega) (growslice_fits kv kt);have xk:=grownCap_ge w (len+ea) cap E;let cells:Array Value:=(oV++i).toArray++Builtin.zeroCells z.cells (grownCap w (len+ea) cap E-(len+ea));have hd:bW M C β s2 w.drew:=Q.drawn rfl;have xl:Ext M β s2 w β s2 w.drew:=Ext.drawn rfl rfl rfl rfl;have hp:bW M C β s2 (w.drew.alloc (.cells cells E)):=hd.push _;have H:Ext M β s2 w β s2 (w.drew.alloc (.cells cells E)):=xl.trans (Ext.push hd.mlt β s2 _);have hN:¬Live M s2 β w.heap.size:=λh=>ec _ (Live.lt Q h)
  have I:∀{v u},HR β (Live M s2 β) w v u->HR (β.add s2.nx ⟨w.heap.size,bj⟩) (λx=>x=w.heap.size∨Live M s2 β x) (w.drew.alloc (.cells cells E)) v u:=λ{v u} h=>h.keep (Bt.jW Q.fresh) (λb hb hx=>hx.resolve_left (by omega)) H.keeps
  have ke:=tb w (E:=E) (cap:=cap) kl ol L.newsLen (w.drew.alloc (.cells cells E)) w.heap.size (qa _ _);have G:=hp.Ge (pl:=⟨w.heap.size,bj⟩) (λhm=>ec _ (Q.mlt _ hm)) (Ev _ _) (ob:=.cells (dh new A tr) bj (A+new.length) B) rfl (k6.imp id λh=>⟨E,h.1,_,ke,.inl rfl⟩) k7 hy hg (λo' J d f l h3=>absurd (.inr ⟨o',J,d,f,l,h3⟩) hN)
   (.inr λo' J f=>by
    obtain⟨d,a1,a2⟩:=Q.obj o' J f;exact⟨d,a1,a2.keep (Bt.le_refl _) (λb hb hx=>hx.resolve_left (by show¬b=w.heap.size;omega)) H.keeps (gN w _ (Q.lt _ _ a1).2)⟩)
   (by
    refine .cells _ bj _ _ cells E (0,0) (aV _) (qa _ _) (.inl rfl) (by simp only[cells,Pm,I0,bZ];rw[ol,L.newsLen];omega) λk v a1 a2 V=>?_
    rw[fC]at V;have xm:cells[k-bj]?=(oV++i)[k-bj]?:=by simp only[cells];rw[Ew (by simp only[I0,bZ];rw[ol,L.newsLen];omega)];simp
    rw[xm];by_cases k0:A<=k/\k<A+new.length
    .rw[au k0]at V;have k1:k-A<i.length:=by rw[L.newsLen,<-km];omega
     refine⟨k5 v (cE V),i[k-A],?_,I (ks.2 (k-A) v _ V (aX k1))⟩;rw[iZ (by omega),show k-bj-oV.length=k-A by omega];exact aX k1
    rw[ar k0]at V;obtain⟨b1,u,b2,b3⟩:=ha k v a1 (by omega) V;exact⟨b1,u,by rw[dD (by omega)];exact b2,I b3⟩)
  refine⟨_,_,_,Z,G,x1.trans ⟨Bt.jW Q.fresh,H.keeps,?_,H.os,H.tape,H.output,H.loops,by show s2.nx.toNat<=s2.nx.succ.toNat;rw[Ky.aS];omega,H.oP⟩,?_⟩
  .rintro b kx (hm|⟨o',J,d,f,l,rfl⟩)
   .exact .inl hm
   simp only[af]at f;unfold Bt.add at l;by_cases e:o'=s2.nx
   .rw[au e]at l;cases l;exact absurd kx (ec _)
   rw[ar e]at f l;exact .inr ⟨o',J,d,f,l,rfl⟩
  have k2:=tb w (E:=E) (cap:=cap) kl ol L.newsLen (w.drew.alloc (.cells cells E)) w.heap.size (qa _ _);have:=λN=>HR.sl (β:=β.add s2.nx ⟨w.heap.size,bj⟩) (N:=N) s2.nx bj (len+ea) info.size (grownCap w (len+ea) cap E) _ ⟨w.heap.size,bj⟩ (by simp[Bt.add]) (aV _) xk ⟨E,k2⟩ (by simp)
  rw[<-h9];simpa using this _
 cases hx with
 |pY _ _ _ b k=>have xn:oV=[]:=ja (by rw[ol];simp);exact grow _ 0 rfl (by omega) (by rw[xn];simp[Builtin.firstCells,loadCells,loadCellsFrom])
 |sl _ _ _ _ cap n c k8 k9 hl k2 ko=>
  have xo:c=pl:=by have:=x1.le _ _ k8;rw[O]at this;cases this;rfl
  subst xo;by_cases X:len+ea<=cap
  .
   obtain⟨E1,y3,y4,q1,q2⟩:=k2;rw[hb]at q1;cases q1;have xp:q.size=n:=q2;have hmul:(len+ea)*info.size<=cap*info.size:=ji _ X;rw[oR]at hmul;have ka:(A-c.s)+i.length<=q.size:=by rw[L.newsLen];omega
   have ky:i.length=new.length:=by rw[L.newsLen,km]
   have k3:∀j,j<i.length->(w.cell? ⟨c.b,bj-c.s+len*info.size+j,none⟩).isSome=true:=λj hj=>by
    have:bj-c.s+len*info.size+j<q.size:=by omega
    simp[World.cell?,hb,fW this]
   have kz:∀j,j<i.length->w.frozen? ⟨c.b,bj-c.s+len*info.size+j,none⟩=false:=λj hj=>by
    simp only[World.frozen?,hb];rcases hf with rfl|hf
    .simp
    simp;omega
   have Z:=run_append_room_src (P:=P) w t tx ty E info ht hi c.b (bj-c.s) len cap y ea i L X k3 kz;have e0:bj-c.s+len*info.size=A-c.s:=by omega
   have xq:=run_storeCells_cells (P:=P) c.b (bj-c.s+len*info.size) i 0 w (by simpa using k3) (by simpa using kz) L.one;have kg:=jb (P:=P) c.b (bj-c.s+len*info.size) T fr i 0 w q hb hf (by omega) L.one;rw[xq]at kg;simp only[iB,Result.ok.injEq,true_and]at kg;have xr:w.setCells c.b (bj-c.s+len*info.size) i=dG w c.b (.cells (nz q (A-c.s) i) T fr):=by rw[kg,e0];rfl
   rw[xr]at Z;obtain⟨r2,x2⟩:=Q.spare hb D (p:=A-c.s) (vs:=i) ka (λx d t1 ki x0 g1 Y k4 xt k a1 a2=>by
    obtain⟨xw,y1,y2⟩:=Q.obj _ _ Y;rw[k4]at y1;cases y1;have xf:d.s<=ki:=by cases y2;assumption
    by_cases ex:x=o
    .subst ex;rw[h6]at Y;cases Y;rw[O]at k4;cases k4;omega
    obtain⟨z1,_,_,_,_,_,_,_,z2,z3⟩:=Q.apart x o _ _ d c Y h6 k4 O ex xt;cases z2;cases z3;have x3:aj h' x=some (.cells t1 ki x0 B):=by rw[<-h5]at Y;simp only[af]at Y;rwa[ar ex]at Y
    have:=c5 x t1 ki x0 ex x3;rw[z1,ky];omega)
   have kj:(dG w c.b (.cells (nz q (A-c.s) i) T fr)).heap[c.b]?=some (.cells (nz q (A-c.s) i) T fr):=fE hb;have x4:=rR i q (A-c.s);have I:∀{v u},HR β (Live M s2 β) w v u->HR (β.add s2.nx c) (λx=>x=c.b∨Live M s2 β x) (dG w c.b (.cells (nz q (A-c.s) i) T fr)) v u:=λ{v u} h=>
    h.keep (Bt.jW Q.fresh) (λb hb hx=>by
     rcases hx with rfl|hx
     .exact W
     exact hx) x2.keeps
   have kk:l7 tg o s=s2.ty∨∃E,l7 tg o s=av (some (E,0)) s2.nx s2.ty/\zk (dG w c.b (.cells (nz q (A-c.s) i) T fr)) c.b E 0:=by
    rcases k6 with h|⟨f,n,l⟩
    .exact .inl h
    obtain⟨d,h3,⟨m,h4,_⟩,_⟩:=hr.zl o E n l;rw[k8]at h3;cases h3;exact .inr ⟨E,f,m,x2.keeps.has _ _ _ h4,.inl rfl⟩
   have G:=r2.Ge (pl:=c) (λhm=>Q.sO _ hm D) (lt_of_block kj) (ob:=.cells (dh new A tr) bj (A+new.length) B) rfl kk k7 hy hg (λo' J d f l h3=>by
     by_cases ex:o'=o
     .subst ex;rw[h6]at f;cases f;rw[O]at l;cases l;exact⟨rfl,_,_,_,rfl⟩
     obtain⟨z1,_,_,_,_,_,_,_,z2,z3⟩:=Q.apart o' o _ _ d c f h6 l O ex h3;cases z3;exact⟨z1,_,_,_,z2⟩)
    (.inl W)
    (by
     refine .cells _ bj _ _ _ T fr k9 kj (by rw[fe];exact hf) (by rw[fe];omega) λk v a1 a2 V=>?_
     rw[fC]at V;rw[x4 (k-c.s) ka];by_cases k0:A<=k/\k<A+new.length
     .rw[au k0]at V;rw[au (by omega)];have k1:k-A<i.length:=by omega
      refine⟨k5 v (cE V),i[k-A],?_,I (ks.2 (k-A) v _ V (aX k1))⟩;rw[show k-c.s-(A-c.s)=k-A by omega];exact aX k1
     rw[ar k0]at V;rw[ar (by omega)];obtain⟨b1,u,b2,b3⟩:=ha k v a1 (by omega) V;refine⟨b1,u,?_,I b3⟩;have:=Gf (k-bj) (by omega);rw[show bj-c.s+(k-bj)=k-c.s by omega]at this;rw[this];exact b2)
   refine⟨_,_,_,Z,G,x1.trans ⟨Bt.jW Q.fresh,x2.keeps,?_,x2.os,x2.tape,x2.output,x2.loops,by show s2.nx.toNat<=s2.nx.succ.toNat;rw[Ky.aS];omega,x2.oP⟩,?_⟩
   .rintro b kx (hm|⟨o',J,d,f,l,rfl⟩)
    .exact .inl hm
    simp only[af]at f;unfold Bt.add at l;by_cases e:o'=s2.nx
    .rw[au e]at l;cases l;exact W
    rw[ar e]at f l;exact .inr ⟨o',J,d,f,l,rfl⟩
   rw[<-h9];exact HR.sl s2.nx bj (len+ea) info.size cap n c (by simp[Bt.add]) k9 X ⟨T,_,fr,kj,by rw[fe];exact xp⟩ ko
  refine grow _ cap rfl (by omega) ?_;have hle:bj-c.s+len*info.size<=q.size:=by omega
  have xu:=run_loadCells P w.drew c.b (bj-c.s) (len*info.size) (λj=>oV.getD j Go.undef) (λj hj=>by
   have f:du w.drew c.b (bj-c.s+j)=q[bj-c.s+j]?:=iN (E:=T) (fr:=fr) hb;rw[f,Gf j hj];have:j<oV.length:=by omega
   simp[List.getD,this])
  simp only[Builtin.firstCells];rw[xu]
  congr 1
  apply sW;apply Pj;intro j;by_cases hj:j<len*info.size
  .have:j<oV.length:=by omega
   simp[hj,List.getD,this]
  simp[hj];omega
def oU.Vc{go:Oper}{run:Result Value}{r:cX}(h:oU M C β s w run r)(b:(execOp a.eval go).run P w=run.andThen (λv w'=>.ok (.value v) w')):ov M C P β s w a go r:=by cases r with|v v s'=>obtain⟨u,w',c,d,g,i,j⟩:=h;exact⟨u,w',c,.inl (by rw[b,d];rfl),g,i,j⟩|bad=>trivial|call f l=>exact h.elim|round l m=>exact h.elim
def zS{E:TypeId}{sz bI:Nat}(d:dI P E=some sz)(b:oN P E bI=true)(f:T4 P E sz=true):
  ∃info z,P.info? E=some info/\info.zero=some z/\z.cells.size=info.size/\info.size=sz/\bI*info.bytes<=140737488355328/\bI<=140737488355328:=by
 unfold dI at d;unfold oN at b;unfold T4 at f;cases g:P.info? E with
 |none=>simp[g]at d
 |some i=>simp only[g,me,bQ]at d;simp only[g,aL,bY]at b;simp only[g,Ey]at f;cases c:i.zero with|none=>simp[c]at f|some z=>simp only[c,bU]at f;exact⟨i,z,rfl,c,by rw[f,d],d,b.1,b.2⟩
def Po(t:bW M C β s w){tx e':TypeId}(y:P.underlying tx=some (.slice e')){o:Ky}{bj len sz h:Nat}{u:Value}(z:HR β (Live M s β) w (.sl o bj len h) u){l:ai}(A:s.bF o bj (len*sz)=some l)(i:len≠0):
  ∃m,Src P sz tx u len m w/\eQ β (Live M s β) w l m/\∀x∈l,x.one=true:=by
 cases z with
 |pY=>exact absurd rfl i
 |sl _ _ _ _ cap n pl k F G H B=>
  obtain⟨I,p,q,g,D,E⟩:=t.bF k A;have f:eQ β (Live M s β) w l (List.ofFn (n:=len*sz) λj=>g j):=by
   refine⟨by simp[p],λj v x r d=>?_⟩;have c:j<len*sz:=by rw[<-p];exact(aU.1 r).1
   simp only[sY,c,dite_true,bQ]at d;subst d;exact E j v r
  refine⟨_,Src.ofSlice w y ⟨pl.b,bj-pl.s,none⟩ len cap _ (by simp) (λj x d=>?_) (f.AS q),f,q⟩;have c:j<len*sz:=by have:=(aU.1 d).1;simpa using this
  simp only[sY,c,dite_true,bQ]at d;subst d;rw[gA];exact D j c
def Gg(_:bW M C β s w){tx e':TypeId}(t:P.underlying tx=some (.slice e')){ak:aP}{sz:Nat}{u:Value}(B:HR β (Live M s β) w (.psl ak) u)(L:dk sz ak=true)(y:ak.length≠0):
  ∃F,Src P sz tx u ak.length F w/\eQ β (Live M s β) w (aD ak) F/\∀x∈aD ak,x.one=true:=by
 have hlen:=iD L;obtain⟨G,H⟩:=gO hlen;generalize D:HV.psl ak=p at B;cases B<;>first|(cases D;done)|skip
 .cases D;exact absurd rfl y
 rename_i I b o cap c g Q N J E h0 O B;cases D;have z:c=sz:=by cases ak with|nil=>exact absurd rfl y|cons r l=>rw[<-E 0 r rfl];exact hlen r dr
 subst z;have f:∀x∈aD ak,x.one=true:=λx i=>by obtain⟨k,t,rfl⟩:=oQ i;obtain⟨_,row,m,q⟩:=H k _ (aX t);exact h0 row (cE m) _ (cE q)
 have A:eQ β (Live M s β) w (aD ak) (List.ofFn (n:=ak.length*c) λk=>g (k/c) (k%c)):=by
  refine⟨by simp[G],λk v x t i=>?_⟩;have d:k<ak.length*c:=by rw[<-G];exact(aU.1 t).1
  simp only[sY,d,dite_true,bQ]at i;subst i;obtain⟨_,row,m,q⟩:=H k v t;exact B _ _ _ _ m q
 refine⟨_,Src.ofSlice w t ⟨b,o,none⟩ ak.length cap _ (by simp) (λk x i=>?_) (A.AS f),A,f⟩;have d:k<ak.length*c:=by have:=(aU.1 i).1;simpa using this
 simp only[sY,d,dite_true,bQ]at i;subst i;rw[gA];have j:0<c:=by
  rcases Nat.eq_zero_or_pos c with h|h
  .subst h;simp at d
  exact h
 have:=O (k/c) (k%c) (by rw[Nat.div_lt_iff_lt_mul j];exact d) (Nat.mod_lt _ j);rw[Nat.div_add_mod']at this;exact this
def oW(k:bW M C β s w){go:Oper}{t u E ty:TypeId}{sz bI:Nat}(l:P.underlying t=some (.slice E))(A:dI P E=some sz)(j:oN P E bI=true)(B:T4 P E sz=true){m:bL}(d:∀F,m=some F->F=E)
  {x:HV}{n y:Value}(o:HR β (Live M s β) w x n){ea:Nat}{p:List Value}(b:Src P sz u y ea p w){new:ai}(q:eQ β (Live M s β) w new p)(c:∀x∈new,x.one=true)
  (D:(execOp a.eval go).run P w=((Builtin.append_ #[t,u] ty #[n,y]).run P w).andThen (λv w'=>.ok (.value v) w')):ov M C P β s w a go (s.append sz bI m x new ea):=by
 obtain⟨info,z,r,f,g,rfl,h,i⟩:=zS A j B;refine oU.Vc ?_ D;cases x<;>first|trivial|skip
 .cases o;exact jN k d l r f g h i b q c
 exact mC k d l r f g h i b q c o
def qN{N:aG}{v:HV}{u:Value}(b:HR β N w v u)(h:gZ v=true):∃A l c,u=.slice A l c/\l<=c:=by
 cases b<;>first|(cases h;done)|skip
 .exact⟨_,_,_,rfl,aV _⟩
 .exact⟨_,_,_,rfl,‹_›⟩
 exact⟨_,_,_,rfl,aV _⟩
def lS(j:bW M C β s w){go:Oper}{t u E ty:TypeId}{sz bI:Nat}(k:P.underlying t=some (.slice E))(m:dI P E=some sz)(d:oN P E bI=true)(n:T4 P E sz=true)
  {x:HV}{h y:Value}(i:HR β (Live M s β) w x h)(f:gZ x=true)(b:Src P sz u y 0 [] w)
  (o:(execOp a.eval go).run P w=((Builtin.append_ #[t,u] ty #[h,y]).run P w).andThen (λv w'=>.ok (.value v) w')):ov M C P β s w a go (.v x s):=by
 obtain⟨info,z,p,q,r,rfl,B,D⟩:=zS m d n;obtain⟨A,l,c,rfl,g⟩:=qN i f;exact oU.Vc (C:=C) ⟨_,w,β,run_append_nothing (P:=P) w t u ty E info k p A l c g y b,j,Ext.refl _ _ _,i⟩ o
def Pp(z:bW M C β s w)(he:dN β (Live M s β) w e a){go:Oper}{sz bI:Nat}{T:bL}{x y:X}(B:ba P (.app sz bI T x y) go.op=true):ov M C P β s w a go (Hd sz bI T x y e s):=by
 cases I:go.op<;>rw[I]at B<;>try cases B
 rename_i cl;simp only[ba,aL]at B;obtain⟨⟨hb,B⟩,Q⟩:=B
 split at hb
 case h_2=>cases hb
 rename_i J;obtain⟨x',y',ha,hx,hy⟩:=p0 B
 split at Q
 case h_2=>cases Q
 rename_i t u f;have f:cl.argTypes= #[t,u]:=by rw[<-Array.toList_inj];exact f
 simp only[aL]at Q;obtain⟨j,L⟩:=Q
 split at j
 case h_2=>cases j
 rename_i E D;simp only[aL,bU]at j;obtain⟨⟨⟨N,i⟩,O⟩,k⟩:=j;have k:∀F,T=some F->F=E:=λF hF=>by subst hF;simpa using(Eq.symm (by simpa using k):F=E)
 split at L
 case h_2=>cases L
 rename_i E2 c;have D:=iP D;have r:∃ty,(execOp a.eval go).run P w=((Builtin.append_ #[t,u] ty #[a.eval x',a.eval y']).run P w).andThen (λv w'=>.ok (.value v) w'):=by refine⟨go.type,?_⟩;simp[execOp,I,resolve,J,ha,f,invoke,builtin]
 obtain⟨ty,r⟩:=r;unfold Hd;cases h1:bw x e with
 |none=>trivial
 |some p=>
 cases h2:bw y e with
 |none=>trivial
 |some q=>
 have H:=aH he hx h1;have d:=aH he hy h2;simp only[];cases G:gZ p with
 |false=>trivial
 |true=>
 simp only[cond_true];generalize hq:a.eval y'=yv at d r;cases q<;>first|trivial|skip
 .cases d;exact lS z D N i O H G (Src.ofNil w c 0) r
 .rename_i o V len W;simp only[];cases h0:Nat.beq len 0 with
  |true=>rw[bf]at h0;subst h0;simp only[cond_true];refine lS z D N i O H G ?_ r;cases d with|sl _ _ _ _ cap n pl h6 h7 hl h8 h9=>exact Src.ofSlice w c _ 0 cap [] (by simp) (by simp) (by simp)|pY=>exact Src.ofSlice w c _ 0 0 [] (by simp) (by simp) (by simp)
  |false=>
   have h0:len≠0:=λh=>by rw[h]at h0;cases h0
   simp only[cond_false];cases Y:s.bF o V (len*sz)with|none=>trivial|some l=>obtain⟨nv,Z,a2,a3⟩:=Po z c d Y h0;exact oW z D N i O k H Z a2 a3 r
 rename_i m;simp only[];cases h0:Nat.beq (aM m) 0 with
 |true=>
  rw[bf,bK]at h0;have:m=[]:=ja h0;subst this;simp only[cond_true];refine lS z D N i O H G ?_ r;generalize hp:HV.psl []=p' at d;cases d<;>first|(cases hp;done)|skip
  .rename_i A cap hn;cases A with|none=>rw[hn rfl];exact Src.ofNil w c 0|some A=>exact Src.ofSlice w c A 0 cap [] (by simp) (by simp) (by simp)
  rename_i h4 b o cap W g hN hd h5 hf h0 B H;cases hp;exact Src.ofSlice w c _ 0 cap [] (by simp) (by simp) (by simp)
 |false=>
  have h0:m.length≠0:=λh=>by rw[bK,h]at h0;cases h0
  simp only[cond_false];cases h3:dk sz m with|false=>trivial|true=>obtain⟨nv,Z,a2,a3⟩:=Gg z c d h3 h0;simp only[cond_true];rw[bK];exact oW z D N i O k H Z a2 a3 r
def qv{N:aG}(b:ByteArray):eQ β N w (fO (eb b)) (byteCells b)/\∀x∈fO (eb b),x.one=true:=by
 have key:∀l:List UInt8,eQ β N w (fO (l.map UInt8.toNat)) (l.map λb=>Value.int .u8 b.toNat)/\∀x∈fO (l.map UInt8.toNat),x.one=true:=by
  intro l
  induction l with
  |nil=>exact⟨.nil,by simp[fO]⟩
  |cons x l d=>
   refine⟨.cons (.int _ _) d.1,?_⟩;intro y c;simp only[bX,fO,bk]at c;rcases c with rfl|c
   .rfl
   exact d.2 y c
 exact key b.data.toList
def Pq(D:bW M C β s w)(G:dN β (Live M s β) w e a){go:Oper}{bI:Nat}{z:bL}{x y:X}(h:ba P (.aps bI z x y) go.op=true):ov M C P β s w a go (Hi bI z x y e s):=by
 cases i:go.op<;>rw[i]at h<;>try cases h
 rename_i Q;simp only[ba,aL]at h;obtain⟨⟨H,h⟩,o⟩:=h
 split at H
 case h_2=>cases H
 rename_i j;obtain⟨T,I,V,W,Y⟩:=p0 h
 split at o
 case h_2=>cases o
 rename_i t u d;have d:Q.argTypes= #[t,u]:=by rw[<-Array.toList_inj];exact d
 simp only[aL]at o;obtain⟨f,k⟩:=o
 split at f
 case h_2=>cases f
 rename_i E r;simp only[aL,bU]at f;obtain⟨⟨⟨J,l⟩,L⟩,g⟩:=f;have g:∀F,z=some F->F=E:=λF Z=>by subst Z;simpa using(Eq.symm (by simpa using g):F=E)
 split at k
 case h_2=>cases k
 rename_i A;have r:=iP r;have m:∃ty,(execOp a.eval go).run P w=((Builtin.append_ #[t,u] ty #[a.eval T,a.eval I]).run P w).andThen (λv w'=>.ok (.value v) w'):=by refine⟨go.type,?_⟩;simp[execOp,i,resolve,j,V,d,invoke,builtin]
 obtain⟨ty,m⟩:=m;unfold Hi;cases h1:bw x e with
 |none=>trivial
 |some p=>
 cases h2:bw y e with
 |none=>trivial
 |some q=>
 have O:=aH G W h1;have n:=aH G Y h2;simp only[];cases B:gZ p with
 |false=>trivial
 |true=>
 simp only[cond_true];generalize hq:a.eval I=yv at n m;cases n<;>first|trivial|skip
 rename_i b;simp only[];rw[bK,gC];have c:=Src.ofString (P:=P) w A b;cases h0:Nat.beq b.size 0 with|true=>rw[bf]at h0;simp only[cond_true];rw[h0]at c;have:byteCells b=[]:=ja (by rw[byteCells_length,h0]);rw[this]at c;exact lS D r J l L O B c m|false=>simp only[cond_false];obtain⟨o1,o2⟩:=qv (β:=β) (N:=Live M s β) (w:=w) b;exact oW D r J l L g O c o1 o2 m
def wC(z:ai):∀(n:Nat),(mu z n).length=n*z.length/\∀j v,(mu z n)[j]?=some v->z[j%z.length]?=some v
 |0=>⟨by simp[mu],by simp[mu]⟩
 |n+1=>by
  obtain⟨f,g⟩:=wC z n;refine⟨by simp[mu,f,iR];omega,λj v b=>?_⟩;simp only[mu]at b;rcases jF j z.length with c|d
  .rw[dD c]at b;rw[Em c];exact b
  rw[iZ d]at b;have:=g _ _ b;rw[Nat.mod_eq_sub_mod d];exact this
def I1(q:bW M C β s w){w1:World}(g:w1.heap=w.heap)(r:w1.os=w.os)(i:w1.tape=w.tape)(k:w1.output=w.output){go:Oper}{l:ai}{cs:Array Value}{E:TypeId}{fr:Nat×Nat}{len sz cap:Nat}(t:IB fr cs.size)(x:l.length<=cs.size)(y:∀(j:Nat) (v:HV),l[j]?=some v->v.one=true/\∃u,cs[j]?=some u/\HR β (Live M s β) w v u)
  (m:len<=cap)(b:cap*sz<=cs.size)
  (c:(execOp a.eval go).run P w=.ok (.value (.slice (some ⟨w.heap.size,0,none⟩) len cap)) {w1 with heap:=w1.heap.push (.cells cs E fr)}):ov M C P β s w a go (s.new l (λo=>.sl o 0 len sz)):=by
 rw[wA];have z:bW M C β s w1:=q.drawn g;have d:Ext M β s w β s w1:=Ext.drawn g r i k;obtain⟨n,A,B,p⟩:=z.newRow (l:=l) (cs:=cs) (E:=E) (fr:=fr) (.inl rfl) t x (λj v D=>by
  obtain⟨F,u,G,H⟩:=y j v D;exact⟨F,u,G,H.ext d⟩)
 rw[g]at p;refine⟨_,_,n,.inl c,A,d.trans B,?_⟩;have f:Has {w1 with heap:=w1.heap.push (.cells cs E fr)} w.heap.size cs.size:=⟨E,cs,fr,by show(w1.heap.push _)[w.heap.size]?=_;rw[g];simp,rfl⟩;simpa using HR.sl (β:=n) (N:=Live M {h:=av (some (.cells (dh l 0 .lf) 0 (aM l) s.nx)) s.nx s.h,nx:=s.nx.succ,gr:=av (some [s.nx]) s.nx s.gr,ty:=s.ty} n) s.nx 0 len sz cap cs.size ⟨w.heap.size,0⟩ p (aV _) m f (by simpa using b)
def zU{E:TypeId}{sz:Nat}{z:ai}(f:dI P E=some sz)(c:rJ P E z=true)(h:z.length=sz):
  ∃info d,P.info? E=some info/\info.zero=some d/\d.cells.size=sz/\info.size=sz/\iY z d.cells.toList=true:=by
 unfold dI at f;unfold rJ at c;cases g:P.info? E with
 |none=>simp[g]at f
 |some i=>simp only[g,me,bQ]at f;simp only[g,Ey]at c;cases b:i.zero with|none=>simp[b]at c|some d=>simp only[b]at c;have:=(dK c (λ_=>none) (λ_=>False) default).1;exact⟨i,d,rfl,b,by simp at this;omega,f,c⟩
def Pr(hr:bW M C β s w)(T:dN β (Live M s β) w e a){go:Oper}{sz bI:Nat}{z:ai}{l c:X}(F:ba P (.mks sz bI z l c) go.op=true):ov M C P β s w a go (He sz bI z l c e s):=by
 cases h:go.op<;>rw[h]at F<;>try cases F
 rename_i t l' c';simp only[ba,aL]at F;obtain⟨⟨hl,H⟩,G⟩:=F
 split at G
 case h_2=>cases G
 rename_i E I;simp only[aL,bU,bY]at G;obtain⟨⟨⟨⟨hs,i⟩,hz⟩,d⟩,h4⟩:=G;have I:=iP I;obtain⟨info,o,V,J,r,f,x⟩:=zU hs hz d;unfold oN at i;simp only[V,aL,bY]at i;unfold He;cases W:bw l e with
 |none=>trivial
 |some p=>
 cases Y:bw c e with
 |none=>cases p<;>first|trivial|(rename_i k n;cases n<;>trivial)
 |some q=>
 have Z:=aH T hl W;have y:=aH T H Y;generalize hu:a.eval l'=u at Z;generalize L:a.eval c'=u2 at y;cases Z<;>first|trivial|skip
 rename_i k n;cases n with
 |negSucc n=>trivial
 |ofNat n=>
 cases y<;>first|trivial|skip
 rename_i k2 m;cases m with
 |negSucc m=>trivial
 |ofNat m=>
 simp only[];cases b:(Nat.ble n m&&Nat.ble m bI)with
 |false=>trivial
 |true=>
 simp only[aL,ej]at b;simp only[cond_true];have N:(info.bytes:Int)*(m:Int)<=281474976710656:=by
  have W:m*info.bytes<=bI*info.bytes:=ji _ b.2;have Y:info.bytes*m=m*info.bytes:=Et _ _;have h3:((info.bytes*m:Nat):Int)<=281474976710656:=by omega
  rwa[Int.natCast_mul]at h3
 have A:=run_make (P:=P) w t E info o I V J k k2 (Int.ofNat n) (Int.ofNat m) (by simp) (by simpa using b.1) (by simpa using N) (by simp;omega);obtain⟨f1,f2⟩:=wC z n;have B:=kP z _ x;have O:=dK x β (Live M s β) w;refine I1 (w1:=w) (cs:=madeCells o.cells (m*info.size)) (cap:=m) (E:=E) (fr:=(0,0)) hr rfl rfl rfl rfl (.inl rfl) (by rw[size_madeCells,f1,d,f];exact ji _ b.1) (λj v hj=>?_) b.1 (by rw[size_madeCells,f];exact aV _) ?_
 .have g:=f2 j v hj;have Q:j<m*info.size:=by have:=(aU.1 hj).1;rw[f1,d]at this;rw[f];exact dJ this (ji sz b.1)
  refine⟨B v (cE g),o.cells[j%o.cells.size]!,by simp[madeCells,Q],?_⟩;have D:j%z.length<o.cells.size:=by rw[r,<-d];exact(aU.1 g).1
  refine O.2 (j%z.length) v _ g ?_;rw[d]at D ⊢;rw[r];simp[D]
 simp only[execOp,h,hu,L];rw[Sem.run_bind,A];simp
def Pt(m:bW M C β s w)(j:dN β (Live M s β) w e a){go:Oper}{d:Bool}{op:BinOp}{x y:X}(f:ba P (.bin d op x y) go.op=true):ov M C P β s w a go (uV d op x y e s):=by
 cases c:go.op<;>rw[c]at f<;>try cases f
 rename_i n t g h I;simp only[ba,aL,bU]at f;obtain⟨⟨⟨rfl,o⟩,v⟩,A⟩:=f;unfold uV;cases B:bw x e with
 |none=>trivial
 |some p=>
 cases D:bw y e with
 |none=>trivial
 |some q=>
 have E:=aH j o B;have i:=aH j v D;show ov M C P β s w a go (rv s (Ha d op p q));cases F:Ha d op p q with
 |none=>trivial
 |some r=>
  obtain⟨z,b,G⟩:=Lp (P:=P) (x:=g) (y:=h) F E i A;refine .val m ?_ G;simp only[execOp,c];rw[Sem.run_bind]at b;simp only[Sem.run_bind];cases l:(eqGuard op t g h (a.eval g) (a.eval h)).run P w with
  |ok u H=>rw[l]at b;simp only[Result.andThen_ok]at b ⊢;rw[b];rfl
  |halt k H=>rw[l]at b;cases b
def I2(m n:Nat):(bif Nat.ble m n then m else n)=Nat.min n m:=by
 cases h:Nat.ble m n with
 |true=>rw[ej]at h;exact(Nat.min_eq_right h).symm
 |false=>
  have:¬m<=n:=λb=>by rw[<-ej,h]at b;cases b
  exact(Ez (by omega:n<=m)).symm
def wD{t E:TypeId}{i:Array TypeId}{ty:TypeId}{sz n:Nat}{A:Option Addr}{j dc sl:Nat}{c:Value}{news:List Value}{w':World}(f:i[0]?=some t)(k:P.underlying t=some (.slice E))(l:dI P E=some sz)
  (hlen:(Builtin.lenOf c).run P w=.ok sl w)(m:Nat.min sl j=n)(b:(Builtin.firstCells sz n c).run P w=.ok news.toArray w)
  (g:∀a,A=some a->(storeCells a news).run P w=.ok () w')(d:A=none->w'=w):
  (Builtin.copy_ i ty #[.slice A j dc,c]).run P w=.ok (.int .i64 n) w':=by
 have h:=ga (w:=w) l;unfold Builtin.copy_;simp[f,run_underlying k,hlen,m,h,b];cases A with|none=>rw[d rfl];simp[goInt]|some a=>simp[g a rfl,goInt]
def wE(A:Addr):(storeCells A []).run P w=.ok () w:=by simp[storeCells]
def Pu(hr:bW M C β s w)(he:dN β (Live M s β) w e a){go:Oper}{sz:Nat}{x y:X}(W:ba P (.cpy sz x y) go.op=true):ov M C P β s w a go (Hl sz x y e s):=by
 cases h4:go.op<;>rw[h4]at W<;>try cases W
 rename_i cl;simp only[ba,aL]at W;obtain⟨⟨hb,W⟩,ht⟩:=W
 split at hb
 case h_2=>cases hb
 rename_i h5;obtain⟨x',y',ha,hx,hy⟩:=p0 W
 split at ht
 case h_2=>cases ht
 rename_i t tr u;have u:cl.argTypes[0]?=some t:=by rw[<-Array.getElem?_toList,u];rfl
 split at ht
 case h_2=>cases ht
 rename_i E Y;have hs:=bU.1 ht;have Y:=iP Y;have hk:∃ty,(execOp a.eval go).run P w=((Builtin.copy_ cl.argTypes ty #[a.eval x',a.eval y']).run P w).andThen (λv w'=>.ok (.value v) w'):=by refine⟨go.type,?_⟩;simp[execOp,h4,resolve,h5,ha,invoke,builtin]
 obtain⟨ty,hk⟩:=hk;unfold Hl;cases h1:bw x e with
 |none=>trivial
 |some p=>
 cases h2:bw y e with
 |none=>cases p<;>trivial
 |some q=>
 have Z:=aH he hx h1;have f:=aH he hy h2;generalize hu:a.eval x'=xv at Z hk;generalize kr:a.eval y'=yv at f hk;have fin:∀(n:Nat) (s':HS) (w':World),(Builtin.copy_ cl.argTypes ty #[xv,yv]).run P w=.ok (.int .i64 n) w'->bW M C β s' w'->Ext M β s w β s' w'->ov M C P β s w a go (.v (.int .i64 (.ofNat n)) s'):=
  λn s' w' h1 h2 h3=>⟨_,w',β,.inl (by rw[hk,h1];rfl),h2,h3,.int _ _⟩
 have zero:∀(n0:Nat) (A:Option Addr) (l c:Nat),xv=.slice A l c->(Builtin.lenOf yv).run P w=.ok n0 w->Nat.min n0 l=0->(Builtin.firstCells sz 0 yv).run P w=.ok #[] w->ov M C P β s w a go (.v (.int .i64 0) s):=by intro n0 A l c hq hlen hn D;have:=wD (ty:=ty) (dc:=c) (news:=[]) (w':=w) u Y hs hlen hn D (λa _=>wE a) (λ_=>rfl) (A:=A);exact fin 0 s w (by rw[hq];exact this) hr (Ext.refl _ _ _)
 have F:∀A:Addr,(loadCells A 0).run P w=.ok #[] w:=λA=>by simp[loadCells,loadCellsFrom]
 cases p<;>first|trivial|skip
 .
  cases Z;cases q<;>first|trivial|skip
  .cases f;exact zero 0 none 0 0 rfl (by simp[Builtin.lenOf]) rfl (by simp[Builtin.firstCells])
  .cases f with|sl _ _ _ _ cap n pl ks kt hl ku kv=>exact zero _ none 0 0 rfl (by simp[Builtin.lenOf];rfl) (by simp) (by simp[Builtin.firstCells,F])|pY=>exact zero 0 none 0 0 rfl (by simp[Builtin.lenOf]) rfl (by simp[Builtin.firstCells,F])
  generalize L:HV.psl _=p' at f;cases f<;>first|(cases L;done)|skip
  .rename_i A cap hn;cases A with|none=>exact zero 0 none 0 0 rfl (by simp[Builtin.lenOf]) rfl (by simp[Builtin.firstCells])|some A=>exact zero 0 none 0 0 rfl (by simp[Builtin.lenOf]) rfl (by simp[Builtin.firstCells,F])
  exact zero _ none 0 0 rfl (by simp[Builtin.lenOf];rfl) (by simp) (by simp[Builtin.firstCells,F])
 rename_i o h6 len h7;obtain⟨A,k,c0,G,_⟩:=qN Z rfl;have hz:k=len/\A≠none:=by subst G;cases Z with|sl=>exact⟨rfl,by simp⟩|pY=>exact⟨rfl,by simp⟩
 obtain⟨rfl,hA⟩:=hz;cases q<;>first|trivial|skip
 .
  cases f;exact zero 0 A k c0 G (by simp[Builtin.lenOf]) (by simp) (by simp[Builtin.firstCells])
 .rename_i o2 Q h8 kx;simp only[];cases B:Nat.beq sz h7 with
  |false=>trivial
  |true=>
  rw[bf]at B;subst B;simp only[mB,cond_false,I2];obtain⟨O,I,c2,m,_⟩:=qN f rfl;have h9:I=h8/\∃a2,O=some a2:=by subst m;cases f with|sl=>exact⟨rfl,_,rfl⟩|pY=>exact⟨rfl,_,rfl⟩
  obtain⟨rfl,a2,rfl⟩:=h9;cases h0:Nat.beq (Nat.min I k) 0 with
  |true=>rw[bf]at h0;exact zero I A k c0 G (by rw[m];simp[Builtin.lenOf]) h0 (by rw[m];simp[Builtin.firstCells,F])
  |false=>
   have h0:Nat.min I k≠0:=λh=>by rw[h]at h0;cases h0
   simp only[cond_false];cases D:s.bF o2 Q (Nat.min I k*sz)with
   |none=>trivial
   |some l=>
    simp only[];cases T:s.store o h6 l with
    |none=>trivial
    |some s'=>
     simp only[];subst m;cases f with
     |pY=>exact absurd (by simp) h0
     |sl _ _ _ _ _ n2 hd hf ky h9 kz kn=>
      obtain⟨d1,d2,d3,g,d4,d5⟩:=hr.bF hf D;subst G;cases Z with
      |pY=>exact absurd (by simp) h0
      |sl _ _ _ _ _ n1 k0 H k5 k6 k7 hg=>
       have k8:eQ β (Live M s β) w l (List.ofFn (n:=Nat.min I k*sz) λj=>g j):=by
        refine⟨by simp[d2],λj v x hj hx=>?_⟩;have k9:j<Nat.min I k*sz:=by rw[<-d2];exact(aU.1 hj).1
        simp only[sY,k9,dite_true,bQ]at hx;subst hx;exact d5 j v hj
       obtain⟨k1,w',k2,k3,k4⟩:=jM (P:=P) hr H k8 d3 T;refine fin _ s' w' ?_ k3 k4;have ka:=run_loadCells P w hd.b (Q-hd.s) (Nat.min I k*sz) (λj=>g j) d4;refine wD (news:=List.ofFn (n:=Nat.min I k*sz) λj=>g j) (sz:=sz) (sl:=I) u Y hs (by simp[Builtin.lenOf]) rfl ?_ (λa ha=>?_) (λh=>by cases h)
       .simp only[Builtin.firstCells];rw[ka];congr 1;apply sW;simp
       cases ha;exact k2
 rename_i d;simp only[];cases B:Nat.beq sz h7 with
 |false=>trivial
 |true=>
 rw[bf]at B;subst B;simp only[mB,cond_false,I2,bK,jJ];have kb:∃O c2,yv=.slice O d.length c2/\(O=none->d.length=0):=by
  generalize L:HV.psl d=p' at f;cases f<;>first|(cases L;done)|skip
  .cases L;exact⟨_,_,rfl,λ_=>rfl⟩
  cases L;exact⟨_,_,rfl,λh=>by cases h⟩
 obtain⟨O,c2,m,kc⟩:=kb;cases h0:Nat.beq (Nat.min d.length k) 0 with
 |true=>rw[bf]at h0;refine zero d.length A k c0 G (by rw[m];simp[Builtin.lenOf]) h0 ?_;rw[m];cases O with|none=>simp[Builtin.firstCells]|some O=>simp[Builtin.firstCells,F]
 |false=>
  have h0:Nat.min d.length k≠0:=λh=>by rw[h]at h0;cases h0
  simp only[cond_false];cases kd:dk sz d with
  |false=>trivial
  |true=>
  simp only[cond_true];have hlen:=iD kd;have ho:dk sz (d.take (Nat.min d.length k))=true:=by
   have:∀(l:aP),(∀row∈l,row.length=sz)->dk sz l=true:=by
    intro l
    induction l with|nil=>intro _;rfl|cons r l ih=>intro h;simp only[dk,aL,bf,bK];exact⟨h r dr,ih λrow z=>h row (cY _ z)⟩
   exact this _ λrow z=>hlen row (ag1 z)
  cases T:s.store o h6 (aD (d.take (Nat.min d.length k)))with
  |none=>trivial
  |some s'=>
   simp only[];have V:∃A' c',yv=.slice A' d.length c2/\A'=O/\HR β (Live M s β) w (.psl (d.take (Nat.min d.length k))) (.slice O (Nat.min d.length k) c'):=by
    have hle:(Nat.min d.length k)<=d.length:=EA _ _;generalize L:HV.psl d=p' at f;cases f<;>first|(cases L;done)|skip
    .cases L;exact absurd (by simp) h0
    rename_i ko b o3 kp ke g hN kg kq B ki kj kk;cases L;cases m;refine⟨_,c2,rfl,rfl,?_⟩;have hl:(d.take (Nat.min d.length k)).length=Nat.min d.length k:=by rw[od];exact Ez hle
    have:=HR.psl (β:=β) (N:=Live M s β) (w:=w) (d.take (Nat.min d.length k)) b o3 c2 ke g hN kg (by omega) (λi row J=>B i row (by
      rw[Pv]at J
      split at J
      .exact J
      .cases J)) (λrow z=>ki row (ag1 z)) (λi j J hj=>kj i j (by omega) hj) (λi row j a J hj=>kk i row j a (by
      rw[Pv]at J
      split at J
      .exact J
      cases J) hj)
    rw[hl]at this;exact this
   obtain⟨A',c',x0,rfl,kl⟩:=V;have km:(d.take (Nat.min d.length k)).length≠0:=by rw[od];have:Nat.min d.length k<=d.length:=EA _ _;omega
   obtain⟨nv,e1,e2,e3⟩:=Gg hr (tx:=t) (e':=E) Y kl ho km;subst G;cases Z with
   |pY=>exact absurd (by simp) h0
   |sl _ _ _ _ _ n1 k0 H k5 k6 k7 hg=>
    obtain⟨k1,w',k2,k3,k4⟩:=jM (P:=P) hr H e2 e3 T;refine fin _ s' w' ?_ k3 k4;have D:=e1.cells;have hl:(d.take (Nat.min d.length k)).length=Nat.min d.length k:=by rw[od];have:Nat.min d.length k<=d.length:=EA _ _;exact Ez this
    rw[hl]at D;rw[m];refine wD (news:=nv) (sz:=sz) (sl:=d.length) u Y hs (by simp[Builtin.lenOf]) rfl ?_ (λa ha=>?_) (λh=>by cases h)
    .cases A' with|none=>exact absurd (by have:=kc rfl;simp[this]) h0|some A'=>simpa[Builtin.firstCells]using D
    cases ha;exact k2
def dQ(P:Program)(f:FuncId):Prop:=∃fn,P.funcs[f]?=some fn/\fn.body.isSome=true/\(fn.name== "runtime.NumGoroutine")=false
def nA{P:Program}{f:FuncId}(c:dQ P f)(args:Array Value)(w:World):(callFunc f args).run P w=.ok (.enter f args) w:=by
 obtain⟨fn,d,h,g⟩:=c;unfold callFunc;simp only[Sem.run_bind,run_program,Result.andThen_ok,d];have b:fn.body.isNone=false:=by cases i:fn.body<;>simp_all
 simp[g,b]
def Lt(m:dN β (Live M s β) w e a){go:Oper}{f:Nat}{xs:List X}(c:ba P (.call f xs) go.op=true):ov M C P β s w a go (zG f xs e s):=by
 cases d:go.op<;>rw[d]at c<;>try cases c
 rename_i n;simp only[ba,aL]at c;obtain⟨⟨j,c⟩,h⟩:=c
 split at j
 case h_2=>cases j
 rename_i g i;have:=bU.1 j;subst this
 split at h
 case h_2=>cases h
 rename_i fn k;simp only[aL,wv,ne_eq]at h;have b:dQ P f:=⟨fn,k,h.1,by simpa using h.2⟩;unfold zG;cases o:gx xs e with|none=>trivial|some l=>have p:=kW m c o;refine⟨n.args.toList.map a.eval,?_,p⟩;simp[execOp,d,resolve,i,Act.eval,Deferred.ofValue,invoke,nA b];simp[<-Array.toList_map]
def Px(G:dN β (Live M s β) w e a){go:Oper}{x:X}{xs:List X}(h:ba P (.dyn x xs) go.op=true)(c:∀f l,Ec x xs e s=.call f l->dQ P f):ov M C P β s w a go (Ec x xs e s):=by
 cases d:go.op<;>rw[d]at h<;>try cases h
 rename_i k;simp only[ba,aL]at h;obtain⟨z,h⟩:=h
 split at z
 case h_2=>cases z
 rename_i y m;unfold Ec at c ⊢;cases q:bw x e with
 |none=>trivial
 |some p=>
 cases t:gx xs e with
 |none=>cases p<;>trivial
 |some l=>
 rw[q,t]at c;have g:=aH G z q;have n:=kW G h t;generalize i:a.eval y=u at g;cases p<;>first|trivial|skip
 .rename_i f O Q;cases g with|fn _ _ _ I A q t J L=>
   have B:=c f _ rfl;refine⟨I.toList++k.args.toList.map a.eval++A.toList,?_,?_⟩
   .simp[execOp,d,resolve,m,i,Deferred.ofValue,invoke,nA B]
   refine(eQ.append ⟨by simp[q],λj v u g i=>J j v u g (by simpa using i)⟩ n).append ⟨by simp[t],λj v u g i=>L j v u g (by simpa using i)⟩
 rename_i r;cases g with
 |iK _ pl D=>
  refine⟨pl,k.args.toList.map a.eval,D,n,λH E F=>?_⟩;have N:(getObj pl.b).run P w=.ok (.loop H) w:=eL E rfl;have o:k.args.size=H.params.size:=by rw[F];simp
  simp[execOp,d,resolve,m,i,Deferred.ofValue,invoke,Instr.yield,Instr.getLoop,N,o];rw[show(List.map a.eval k.args.toList).toArray=Array.map a.eval k.args by apply sW;simp]
end sound
end Go.Proofs.YtcfbbbjhnaienaaGreatDoor.K.Hm
