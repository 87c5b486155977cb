/- PactEach returns true, part 1. -/
import Derived.Below
import Derived.RangeFuncLeaves
import Derived.OrdersIn
import Derived.Laws.Entries
import Derived.WalkKit
import Derived.Laws.BytesString
import Derived.Laws.Slices
import Derived.Laws.StructEq
import Derived.Laws.Cover3
import Derived.Laws.Pointers
import Derived.Deep.AppendSrc
import Derived.Deep.Upon
import Derived.Laws.MakeOwn
import Derived.Laws.IdiomStrings
set_option linter.all false
open List renaming length_nil->aE,length_cons->aA,mem_of_mem_drop->Pn,extract_eq_take_drop->PC,foldl_cons->nO,cons_append->bB,drop_eq_nil_of_le->PJ,ext_getElem?->PW
open Nat renaming add_zero->fR,add_assoc->Po,pred_succ->PT
open Option renaming getD_some->iY,map_some->ml,isSome_none->Jp,map_none->PA,bind_some->EV
open Array renaming toList_inj->Pp,toList_extract->PB,size_append->PY
open Int renaming ofNat_eq_natCast->nM,negSucc_eq->Pq,toNat_natCast->jy
namespace Go.Proofs
def aO:=@List.getElem?_eq_getElem
def aV:=@List.getElem?_eq_some_iff
def aL:=@Bool.and_eq_true
def aq:=@if_neg
def dF:=@List.getD_eq_getElem?_getD
def cH:=@List.mem_of_getElem?
def ar:=@if_pos
def aY:=@Nat.le_refl
def bX:=@List.getElem_mem
def bw:=@Nat.zero_add
def bL:=@decide_eq_true_eq
def bT:=@Option.some.injEq
def bm:=@List.mem_cons
def eW:=@List.take_succ_eq_append_getElem
def bH:=@List.length_map
def cy:=@Bool.false_eq_true
def cE:=@List.length_append
def dh:=@List.mem_cons_of_mem
def ek:=@List.getElem?_append_left
def cu:=@decide_eq_false
def cG:=@List.mem_append
def fN:=@Array.getD_eq_getD_getElem?
def dy:=@List.mem_cons_self
def dE:=@List.mem_singleton
def fX:=@Array.getElem?_eq_getElem
def eH:=@List.mem_iff_getElem
def gu:=@List.getElem?_append_right
def cV:=@decide_eq_true
def iJ:=@List.eq_nil_of_length_eq_zero
def cL:=@List.map_cons
def ej:=@Nat.lt_of_lt_of_le
def bp:=@if_false
def bZ:=@beq_iff_eq
def gF:=@List.getElem?_set_self
def bf:=@if_true
def eD:=@List.map_append
def dA:=@List.mem_map
def fw:=@List.all_eq_true
def iZ:=@List.take_of_length_le
def fW:=@List.getElem?_map
def oZ:=@Array.getElem?_setIfInBounds_ne
def gS:=@List.getElem?_set
def ct:=@congrArg
def ju:=@List.getElem?_set_ne
def jU:=@Nat.mul_le_mul_right
def ly:=@List.eq_nil_or_concat
def fh:=@Nat.le_trans
def wL:=@Array.getElem?_setIfInBounds_self_of_lt
def mG:=@Option.bind_eq_some_iff
def gy:=@List.mem_range
def mK:=@Option.map_eq_some_iff
def eV:=@decide_true
def oY:=@List.drop_eq_getElem_cons
def iM:=@List.length_set
def lR:=@List.mem_of_mem_take
def mI:=@Array.getElem?_toList
def gR:=@Nat.lt_irrefl
def qL:=@List.mem_or_eq_of_mem_set
def fD:=@Nat.zero_le
def j0:=@List.take_length
def oA:=@Nat.eq_of_beq_eq_true
def rS:=@Array.getElem?_eq_some_iff
def df:=@eq_true
def iI:=@Bool.true_and
def mH:=@List.getElem?_drop
def kH:=@Option.some.inj
def rV:=@List.getElem?_take_of_lt
def ni:=@List.flatMap_cons
def oW:=@List.getElem_of_mem
def jS:=@Bool.and_true
def hU:=@Nat.mul_one
def mO:=@List.any_eq_true
def mJ:=@Bool.or_eq_true
def mN:=@List.nodup_cons
def jM:=@Nat.lt_or_ge
def jV:=@Nat.succ_mul
def uK:=@List.mem_iff_getElem?
def kI:=@List.map_set
def oX:=@List.length_take
def yA:=@List.length_eq_zero_iff
def zc:=@List.getElem?_replicate
def lb:=@decide_false
def qM:=@List.ext_getElem
def AX:=@List.eq_of_mem_replicate
def yD:=@List.concat_eq_append
def As:=@decide_eq_false_iff_not
def oC:=@Bool.not_true
def oD:=@Prod.mk.injEq
def qI:=@Bool.eq_iff_iff
def Df:=@Classical.byContradiction
def uB:=@Bool.not_eq_true'
def GX:=@List.take_append_of_le_length
def vb:=@of_decide_eq_true
def Af:=@Nat.ble_eq_true_of_le
def Ah:=@UInt8.lt_iff_toNat_lt
def An:=@Array.getElem?_modify
def Av:=@List.getElem?_eq_none
def DS:=@List.getElem_append_left
def wX:=@Nat.eq_or_lt_of_le
def uU:=@List.mem_flatMap
def pY:=@List.countP_cons
def lg:=@Nat.sub_self
def rA:=@List.any_eq_false
def uc:=@List.flatMap_append
def y8:=@List.set_getElem_self
def tc:=@List.getElem?_ofFn
def qU:=@List.cons.injEq
def yB:=@List.length_pos_iff
def Br:=@List.drop_of_length_le
def uh:=@List.prefix_refl
def EU:=@Array.getElem?_append_left
def yV:=@List.prefix_append
def Cf:=@List.dropLast_sublist
def Cm:=@List.length_replicate
def FQ:=@List.mem_of_find?_eq_some
def F5:=@List.getElem?_eq_none_iff
def Gg:=@List.getElem_append_right
def tp:=@List.mem_filter
def pc:=@List.map_map
def Bv:=@List.mem_append_left
def pz:=@Nat.le_of_eq
def B7:=@Bool.or_eq_false_iff
def yG:=@List.append_assoc
def Cl:=@List.pairwise_append
def qT:=@Nat.beq_refl
def qX:=@List.map_nil
def Bm:=@Array.ext_getElem?
def rz:=@Nat.le_of_lt
def FN:=@List.find?_cons_of_neg
def Cw:=@List.getElem_range
def ED:=@Nat.le_of_ble_eq_true
def EM:=@List.take_append_drop
def BD:=@List.nodup_append
def Cx:=@List.length_range
def qW:=@Nat.add_mul
def yJ:=@Bool.false_and
def yK:=@Bool.and_false
def yO:=@Bool.not_false
def jB:=@Ne.symm
def By:=@List.drop_length
def Ch:=@List.getElem_map
def Cq:=@Bool.not_eq_true
def Gb:=@List.map_eq_nil_iff
def wI:=@Bool.false_or
def Co:=@List.append_nil
def EH:=@Nat.lt_trichotomy
def wZ:=@Nat.add_comm
def JH:=@List.mem_append_right
def KY:=@List.dropLast_eq_take
def K8:=@List.length_filter_le
def sZ:=@Array.ext'
def EI:=@beq_self_eq_true
def EJ:=@Nat.mod_eq_of_lt
def TJ:=@List.mem_eraseIdx_iff_getElem?
def Km:=@List.getElem?_append
def KR:=@List.dropLast_concat
def Le:=@List.idxOf_eq_length
def EW:=@Nat.min_eq_left
def EX:=@Nat.min_le_left
def FH:=@List.findIdx_eq
def FI:=@List.range_succ
def Ue:=@List.countP_eq_length_filter
def Ut:=@List.dropLast_concat_getLast
def Jg:=@Array.getElem?_push
def Ks:=@Int.toNat_of_nonneg
def KP:=@List.IsPrefix.trans
def K7:=@Nat.add_le_add_left
def Lm:=@List.getElem_set_ne
def Cv:=@List.set_set
def Uh:=@List.idxOf_lt_length_of_mem
def Jk:=@List.map_inj_right
def FE:=@Bool.and_assoc
def KD:=@List.find?_eq_none
def TK:=@List.length_eraseIdx_of_lt
def TS:=@List.tail_append_of_ne_nil
def PQ:=@Array.mapM_eq_mapM_toList
def Ql:=@List.getElem?_zip_eq_some
def T0:=@List.getLast?_eq_getElem?
def JC:=@List.size_toArray
def Kp:=@List.all_eq_false
def KV:=@List.count_append
def EK:=@List.map_take
def FU:=@Bool.or_false
def Jj:=@List.length_drop
def K6:=@List.not_mem_nil
def Bk:=@bne_iff_ne
def ER:=@Nat.mul_comm
def FZ:=@Bool.or_comm
def Jl:=@UInt8.toNat_inj
def Kq:=@Bool.decide_and
def Kr:=@List.sum_append
def Jw:=@List.drop_drop
def Lr:=@List.take_succ
def Bq:=@true_and
abbrev dH:=List (List Nat)
abbrev ay:=List Nat
abbrev aQ:=List Int
abbrev bG:=Option Nat
abbrev ck:=List Bool
abbrev aG:=Nat->Prop
end Go.Proofs
set_option maxRecDepth 10000
noncomputable section
namespace Go.Proofs.YtclepinjnoiakaaGreatDoor.K.Hm
open Go
inductive Ky where
 |e
 |z (k:Ky)
 |o (k:Ky)
 deriving Inhabited,DecidableEq
abbrev cg:=Ky->Prop
abbrev cm:=List Ky
abbrev bc:=Ky->bG
def Ky.succ(k:Ky):Ky:=Ky.rec (motive:=λ_=>Ky) (.z .e) (λk _=>.o k) (λ_ ih=>.z ih) k
def Ky.beq(a:Ky):Ky->Bool:=Ky.rec (motive:=λ_=>Ky->Bool)
 (λb=>Ky.rec (motive:=λ_=>Bool) true (λ_ _=>false) (λ_ _=>false) b)
 (λ_ ih b=>Ky.rec (motive:=λ_=>Bool) false (λk _=>ih k) (λ_ _=>false) b)
 (λ_ ih b=>Ky.rec (motive:=λ_=>Bool) false (λ_ _=>false) (λk _=>ih k) b) a
inductive Tr(α:Type) where
 |lf
 |nd (v:Option α) (l r:Tr α)
 deriving Inhabited
section O9
variable{α:Type}
def ao(t:Tr α):Ky->Option α:=
 Tr.rec (motive:=λ_=>Ky->Option α) (λ_=>none) (λv _ _ b gr k=>Ky.rec (motive:=λ_=>Option α) v (λk' _=>b k') (λk' _=>gr k') k) t
def tv(t:Tr α):Option α:=Tr.rec (motive:=λ_=>Option α) none (λv _ _ _ _=>v) t
def tl(t:Tr α):Tr α:=Tr.rec (motive:=λ_=>Tr α) .lf (λ_ l _ _ _=>l) t
def tr(t:Tr α):Tr α:=Tr.rec (motive:=λ_=>Tr α) .lf (λ_ _ r _ _=>r) t
def av(x:Option α)(k:Ky):Tr α->Tr α:=
 Ky.rec (motive:=λ_=>Tr α->Tr α) (λt=>.nd x (tl t) (tr t)) (λ_ ih t=>.nd (tv t) (ih (tl t)) (tr t)) (λ_ ih t=>.nd (tv t) (tl t) (ih (tr t))) k
def fP(t:Tr α):Nat->Option α:=
 Tr.rec (motive:=λ_=>Nat->Option α) (λ_=>none)
  (λv _ _ b gr k=>Bool.rec (motive:=λ_=>Option α) (Bool.rec (motive:=λ_=>Option α) (gr (Nat.div (Nat.pred k) 2)) (b (Nat.div k 2)) (Nat.beq (Nat.mod k 2) 1)) v (Nat.beq k 0)) t
def nD(x:Option α)(n:Nat):Nat->Tr α:=Nat.rec (motive:=λ_=>Nat->Tr α) (λ_=>.lf)
 (λ_ ih k=>Bool.rec (motive:=λ_=>Tr α) (Bool.rec (motive:=λ_=>Tr α) (.nd none .lf (ih (Nat.div (Nat.pred k) 2))) (.nd none (ih (Nat.div k 2)) .lf) (Nat.beq (Nat.mod k 2) 1)) (.nd x .lf .lf) (Nat.beq k 0)) n
def jv(x:Option α)(t:Tr α):Nat->Tr α:=
 Tr.rec (motive:=λ_=>Nat->Tr α) (λk=>nD x (Nat.succ k) k)
  (λv l r sl b k=>Bool.rec (motive:=λ_=>Tr α) (Bool.rec (motive:=λ_=>Tr α) (.nd v l (b (Nat.div (Nat.pred k) 2))) (.nd v (sl (Nat.div k 2)) r) (Nat.beq (Nat.mod k 2) 1)) (.nd x l r) (Nat.beq k 0)) t
end O9
inductive HV where
 |int (k:IntKind) (n:Int)
 |bool (b:Bool)
 |str (s:ay)
 |ai|dZ|gU|fV|gj|undef
 |ptr (o:Ky) (k:Nat)
 |sl (o:Ky) (bo len sz:Nat)
 |mp (o:Ky)
 |fn (f:Nat) (Pa abA:List HV)
 |jk (l:Ky)
 |agg (l:List HV)
 |bN (l:List HV)
 |psl (au:List (List HV))
 |ax (cells:List HV)
 deriving Inhabited
abbrev dV:=List (Ky×List HV)
abbrev bV:=Option HV
abbrev ak:=List HV
abbrev aR:=List ak
inductive X where
 |t (n:Nat)
 |k (v:HV)
 deriving Inhabited
inductive Pc where
 |z (l:ak)
 |x (o:X) (n:Nat)
 deriving Inhabited
structure Kd where
 ag:Bool
 ks:ay
 deriving Inhabited
inductive lO where
 |mv (x:X)
 |pick (c a b:X)
 |alloc (z:ak)
 |alb (t:Nat) (z:ak)
 |box (x:X)
 |fbx (x:X)
 |build (ps:List Pc)
 |bsl (sz:Nat) (xs:List X)
 |fbl (sz:Nat) (xs:List X)
 |ld (x:X) (n:bG)
 |st (n:Nat) (a x:X)
 |fa (x:X) (bo:Nat)
 |ia (x i:X) (sz:Nat)
 |idx (x i:X)
 |len (k:Nat) (x:X)
 |bin (bl:Bool) (op:BinOp) (x y:X)
 |un (op:UnOp) (x:X)
 |mkf (g:Nat) (Pa abA:List X)
 |ext (x:X) (i:Nat)
 |cnv (k:IntKind) (x:X)
 |nck (x:X)
 |mm (aik:Bool) (x y:X)
 |app (sz bx:Nat) (tg:bG) (x ys:X)
 |mks (sz bx:Nat) (z:ak) (l c:X)
 |mkm
 |lkp (K:Kd) (m k:X) (z:HV) (ok:Bool)
 |mup (K:Kd) (m k v:X)
 |eqs (K:Kd) (neg:Bool) (x y:X)
 |niq (k:Nat) (neg:Bool) (x:X)
 |slc (x:X) (lo hi mx:Option X) (sz:Nat)
 |sls (x:X) (lo hi:Option X)
 |call (f:Nat) (xs:List X)
 |dyn (x:X) (xs:List X)
 |cis (x:X)
 |cbs (x:X)
 |csb (x:X)
 |men (K:Kd) (m k:X) (z:HV)
 |mes (m st v:X)
 |aps (bx:Nat) (tg:bG) (x y:X)
 |cpy (sz:Nat) (x y:X)
 |clr (sz:Nat) (z:ak) (x:X)
 |cap (x:X)
 |cvs (x:X)
 |bad
 deriving Inhabited
structure aU where
 d:bG
 op:lO
 g:Option (Nat×Bool)
 deriving Inhabited
inductive DK where
 |r
 |l (lo hi:Nat)
 |a
 |e
 deriving Inhabited
structure dW where
 i:Nat
 o:aU
 k:DK
 deriving Inhabited
inductive HC where
 |skip|ret
 |exit (i:Nat)
 |seq (a b:HC)
 |cond (x:X) (a b:HC)
 |block (i:Nat) (c:HC)
 |loop (c:HC)
 |rg (outs:ay) (mA:List aU)
 |LZ (outs:ay) (main:List dW) (cx:List aU)
 |rf (x:X) (ps:ay) (jl body:HC)
 |LO (ts:ay)
 |Pb (t bo n:Nat)
 |gh (keep:ay)
 deriving Inhabited
inductive Rs where
 |tmp (n:Nat)
 |cell (n:Nat) (sz:bG)
 deriving Inhabited
structure HF where
 nt:Nat
 np:Nat
 keep:ay
 rs:List Rs
 c:HC
 pu:Bool:=false
 deriving Inhabited
inductive En where
 |nil
 |cons (n:Nat) (v:HV) (r:En)
 deriving Inhabited
inductive Ob where
 |cells (t:Tr HV) (lo hi:Nat) (g:Ky)
 |mp (es:List (HV×HV))
 |loop (st:Nat) (wB:Option HC) (tm:En) (ps:ay) (jl body:HC)
 deriving Inhabited
structure HS where
 h:Tr Ob
 nx:Ky
 gr:Tr cm
 ty:Tr (Nat×Nat)
def look(e:En)(k:Nat):bV:=
 En.rec (motive:=λ_=>bV) none (λn v _ ih=>Bool.rec (motive:=λ_=>bV) ih (some v) (Nat.beq n k)) e
def En.qw(e:En)(k:Nat)(x:HV):En:=
 En.rec (motive:=λ_=>En) (.cons k x .nil) (λn v r ih=>Bool.rec (motive:=λ_=>En) (.cons n v ih) (.cons n x r) (Nat.beq n k)) e
def bq(x:X)(e:En):bV:=X.rec (motive:=λ_=>bV) (λn=>look e n) (λv=>some v) x
def ob{α β:Type}(f:α->Option β)(o:Option α):Option β:=Option.rec (motive:=λ_=>Option β) none f o
def gp(l:List X)(e:En):Option ak:=
 List.rec (motive:=λ_=>Option ak) (some []) (λx _ ih=>Option.rec (motive:=λ_=>Option ak) none (λv=>Option.rec (motive:=λ_=>Option ak) none (λl=>some (v::l)) ih) (bq x e)) l
def dq(l:ak):Nat->Tr HV->Tr HV:=
 List.rec (motive:=λ_=>Nat->Tr HV->Tr HV) (λ_ t=>t) (λv _ ih k t=>ih (Nat.succ k) (jv (some v) t k)) l
def nE(t:Tr HV)(n:Nat):Nat->Option ak:=
 Nat.rec (motive:=λ_=>Nat->Option ak) (λ_=>some [])
  (λ_ ih k=>Option.rec (motive:=λ_=>Option ak) none (λv=>Option.rec (motive:=λ_=>Option ak) none (λl=>some (v::l)) (ih (Nat.succ k))) (fP t k)) n
def aM{α:Type}(l:List α):Nat:=List.rec (motive:=λ_=>Nat) 0 (λ_ _ n=>Nat.succ n) l
inductive da where
 |v (x:HV) (s:HS)
 |call (f:Nat) (args:ak)
 |round (l:Ky) (args:ak)
 |bad
def rv(s:HS)(o:bV):da:=Option.rec (motive:=λ_=>da) .bad (λv=>.v v s) o
def HS.new(s:HS)(l:ak)(K:Ky->HV):da:=
 .v (K s.nx) {h:=av (some (.cells (dq l 0 .lf) 0 (aM l) s.nx)) s.nx s.h,nx:=s.nx.succ,gr:=av (some [s.nx]) s.nx s.gr,ty:=s.ty}
section elim
variable{β:Type}
def HV.kV(v:HV)(f:Ky->Nat->β)(d:β):β:=HV.casesOn (motive_1:=λ_=>β) v (λ_ _=>d) (λ_=>d) (λ_=>d) d d d d d d (λo k=>f o k) (λ_ _ _ _=>d) (λ_=>d) (λ_ _ _=>d) (λ_=>d) (λ_=>d) (λ_=>d) (λ_=>d) (λ_=>d)
def HV.asInt(v:HV)(f:IntKind->Int->β)(d:β):β:=HV.casesOn (motive_1:=λ_=>β) v (λk n=>f k n) (λ_=>d) (λ_=>d) d d d d d d (λ_ _=>d) (λ_ _ _ _=>d) (λ_=>d) (λ_ _ _=>d) (λ_=>d) (λ_=>d) (λ_=>d) (λ_=>d) (λ_=>d)
def HV.asBool(v:HV)(t f d:β):β:=HV.casesOn (motive_1:=λ_=>β) v (λ_ _=>d) (λb=>Bool.rec (motive:=λ_=>β) f t b) (λ_=>d) d d d d d d (λ_ _=>d) (λ_ _ _ _=>d) (λ_=>d) (λ_ _ _=>d) (λ_=>d) (λ_=>d) (λ_=>d) (λ_=>d) (λ_=>d)
def HV.Pd(v:HV)(f:Ky->Nat->Nat->Nat->β)(d:β):β:=HV.casesOn (motive_1:=λ_=>β) v (λ_ _=>d) (λ_=>d) (λ_=>d) d d d d d d (λ_ _=>d) (λo a b c=>f o a b c) (λ_=>d) (λ_ _ _=>d) (λ_=>d) (λ_=>d) (λ_=>d) (λ_=>d) (λ_=>d)
def HV.Oq(v:HV)(f:ak->β)(d:β):β:=HV.casesOn (motive_1:=λ_=>β) v (λ_ _=>d) (λ_=>d) (λ_=>d) d d d d d d (λ_ _=>d) (λ_ _ _ _=>d) (λ_=>d) (λ_ _ _=>d) (λ_=>d) (λ_=>d) (λl=>f l) (λ_=>d) (λ_=>d)
def HV.VW(v:HV)(f:ay->β)(d:β):β:=HV.casesOn (motive_1:=λ_=>β) v (λ_ _=>d) (λ_=>d) (λl=>f l) d d d d d d (λ_ _=>d) (λ_ _ _ _=>d) (λ_=>d) (λ_ _ _=>d) (λ_=>d) (λ_=>d) (λ_=>d) (λ_=>d) (λ_=>d)
end elim
def cellsOf(v:HV):Option ak:=HV.casesOn (motive_1:=λ_=>Option ak) v (λ_ _=>some [v]) (λ_=>some [v]) (λ_=>some [v]) (some [v]) (some [v]) (some [v]) (some [v]) (some [v]) none (λ_ _=>some [v]) (λ_ _ _ _=>some [v]) (λ_=>some [v]) (λ_ _ _=>some [v]) (λ_=>some [v]) (λl=>some l) (λ_=>none) (λ_=>some [v]) (λ_=>some [v])
def Ob.vG{β:Type}(b:Ob)(f:Tr HV->Nat->Nat->Ky->β)(d:β):β:=Ob.rec (motive:=λ_=>β) (λt lo hi g=>f t lo hi g) (λ_=>d) (λ_ _ _ _ _ _=>d) b
def gP{β:Type}(b:Bool)(x y:β):β:=Bool.rec (motive:=λ_=>β) y x b
def bU{α β:Type}(o:Option α)(f:α->β)(d:β):β:=Option.rec (motive:=λ_=>β) d f o
def HS.cell(s:HS)(o:Ky)(k:Nat):bV:=
 bU (ao s.h o) (λb=>b.vG (λt c d _=>gP (Nat.ble c k) (gP (Nat.blt k d) (fP t k) none) none) none) none
def HS.bE(s:HS)(o:Ky)(k n:Nat):Option ak:=
 bU (ao s.h o) (λb=>b.vG (λt c d _=>gP (Nat.ble c k) (gP (Nat.ble (Nat.add k n) d) (nE t n k) none) none) none) none
def HS.load(s:HS)(o:Ky)(k:Nat)(n:bG):bV:=
 bU n (λm=>bU (s.bE o k m) (λl=>some (.agg l)) none) (s.cell o k)
def bP(h:Tr Ob)(o:Ky)(a b:Nat):cm->(Tr Ob×List Ky)
 |[]=>(h,[])
 |m::r=>match bP h o a b r with
  |(c,l)=>bif m.beq o then(c,m::l)else match ao c m with|some (.cells _ d f _)=>bif Nat.blt d b&&Nat.blt a f then(av none m c,l)else(c,m::l)|_=>(c,l)
def HS.kW(s:HS)(o:Ky)(k:Nat)(l:ak)(t:Tr HV)(c d:Nat)(g:Ky):cm->Option HS:=λms=>
 match ms with
 |[_]=>some {h:=av (some (.cells (dq l k t) c d g)) o s.h,nx:=s.nx,gr:=s.gr,ty:=s.ty}
 |ms=>match bP s.h o k (Nat.add k (aM l)) ms with|(f,b)=>some {h:=av (some (.cells (dq l k t) c d g)) o f,nx:=s.nx,gr:=av (some b) g s.gr,ty:=s.ty}
def HS.store(s:HS)(o:Ky)(k:Nat)(l:ak):Option HS:=
 bU (ao s.h o) (λb=>b.vG (λt c d g=>gP (Nat.ble c k) (gP (Nat.ble (Nat.add k (aM l)) d) (bU (ao s.gr g) (s.kW o k l t c d g) none) none) none) none) none
def gQ{α}:Nat->List α->List α
 |0,_=>[]
 |_+1,[]=>[]
 |n+1,x::r=>x::gQ n r
def iB{α}:Nat->List α->List α
 |0,l=>l
 |_+1,[]=>[]
 |n+1,_::r=>iB n r
def jn(o:Ky):cm->Bool
 |[]=>false
 |m::r=>bif m.beq o then true else jn o r
def eU(h:Tr Ob):Nat->cm->(Tr Ob×List Ky)
 |0,[]=>(h,[])
 |0,m::r=>eU (av none m h) 0 r
 |_+1,[]=>(h,[])
 |n+1,m::r=>match eU h n r with|(b,l)=>(b,m::l)
def Ez(b:bG)(s:HS):Tr (Nat×Nat):=match b with|none=>s.ty|some E=>av (some (E,0)) s.nx s.ty
def mf(b:bG)(o:Ky)(s:HS):Tr (Nat×Nat):=match b with
 |none=>s.ty
 |some E=>match ao s.ty o with|some (c,_)=>bif Nat.beq c E then av (some (E,0)) s.nx s.ty else s.ty|none=>s.ty
def HS.CJ(s:HS)(ty:Tr (Nat×Nat))(l:ak)(K:Ky->HV):da:=
 .v (K s.nx) {h:=av (some (.cells (dq l 0 .lf) 0 (aM l) s.nx)) s.nx s.h,nx:=s.nx.succ,gr:=av (some [s.nx]) s.nx s.gr,ty:=ty}
def HS.append(s:HS)(sz bx:Nat)(i:bG)(x:HV)(new:ak)(dX:Nat):da:=
 match x with
 |.ai=>bif Nat.beq dX 0 then .v .ai s else bif Nat.ble dX bx then s.CJ (Ez i s) new (λo=>.sl o 0 dX sz)else .bad
 |.sl o b len d=>bif Nat.beq dX 0 then .v x s else bif !(Nat.beq sz d)then .bad else(
  match ao s.h o with
  |some (.cells _ _ _ g)=>
   match ao s.gr g with
   |some l=>
    match eU s.h 12 l with
    |(h0,f)=>match bP h0 o (b+len*sz) (b+len*sz+aM new) f with
     |(j,c)=>match ao j o with
      |some (.cells t k m _)=>
       bif jn o c&&Nat.ble k b&&Nat.ble (b+len*sz) m&&Nat.ble (len+dX) bx then
        .v (.sl s.nx b (len+dX) sz) {h:=av (some (.cells (dq new (b+len*sz) t) b (b+len*sz+aM new) g)) s.nx (av (some (.cells t k (b+len*sz) g)) o j),nx:=s.nx.succ,gr:=av (some (s.nx::c)) g s.gr,ty:=mf i o s}
       else .bad
      |_=>.bad
   |none=>.bad
  |_=>.bad)
 |_=>.bad
def nG(a b:Int):Bool:=Int.rec (motive:=λ_=>Bool) (λx=>Int.rec (motive:=λ_=>Bool) (λy=>Nat.beq x y) (λ_=>false) b) (λx=>Int.rec (motive:=λ_=>Bool) (λ_=>false) (λy=>Nat.beq x y) b) a
def kJ(a b:Int):Bool:=Int.rec (motive:=λ_=>Bool) (λx=>Int.rec (motive:=λ_=>Bool) (λy=>Nat.ble x y) (λ_=>false) b) (λx=>Int.rec (motive:=λ_=>Bool) (λ_=>true) (λy=>Nat.ble y x) b) a
def qx:ay->ay->Bool
 |[],[]=>true
 |x::r,y::s=>Nat.beq x y&&qx r s
 |_,_=>false
def uv:ay->ay->Bool
 |[],[]=>false
 |[],_=>true
 |_,[]=>false
 |x::r,y::s=>bif Nat.blt x y then true else bif Nat.beq x y then uv r s else false
def mg:Nat->HV->Bool
 |0,.int _ _=>true
 |1,.bool _=>true
 |2,.str _=>true
 |_,_=>false
def ds:ay->ak->Bool
 |[],[]=>true
 |k::r,v::l=>mg k v&&ds r l
 |_,_=>false
def HV.zB:HV->HV->Option Bool
 |.int k a,.int j b=>bif decide (k=j)then some (nG a b)else none
 |.bool a,.bool b=>some (a==b)
 |.str a,.str b=>some (qx a b)
 |_,_=>none
def sU:ak->ak->Option Bool
 |[],[]=>some true
 |x::r,y::s=>match x.zB y with|some true=>sU r s|some false=>some false|none=>none
 |_,_=>none
def qB(K:Kd)(x y:HV):Option Bool:=bif K.ag
 then(match x,y with|.agg l,.agg m=>bif ds K.ks l&&ds K.ks m then sU l m else none|_,_=>none)
 else bif ds K.ks [x]&&ds K.ks [y]then x.zB y else none
def bR(k:IntKind)(n:Int):Int:=match k,n with|.i64,.ofNat m=>bif Nat.blt m 9223372036854775808 then .ofNat m else k.wrap n|.i64,.negSucc m=>bif Nat.blt m 9223372036854775808 then .negSucc m else k.wrap n|k,n=>k.wrap n
def wC(a b:Int):Int:=match a,b with|.ofNat x,.ofNat y=>.ofNat (Nat.add x y)|a,b=>Int.add a b
def Jb(a b:Int):Int:=match a,b with|.ofNat x,.ofNat y=>bif Nat.ble y x then .ofNat (Nat.sub x y)else .negSucc (Nat.sub y (Nat.succ x))|a,b=>Int.sub a b
def jw:IntKind->Bool
 |.i64=>true
 |.u64=>true
 |_=>false
def Pe(op:BinOp)(k:IntKind)(a b:Int):bV:=match op with
  |.add=>some (.int k (bR k (wC a b)))
  |.sub=>some (.int k (bR k (Jb a b)))
  |.mul=>some (.int k (bR k (a*b)))
  |.eql=>some (.bool (nG a b))
  |.neq=>some (.bool (!nG a b))
  |.lss=>some (.bool (!kJ b a))
  |.leq=>some (.bool (kJ a b))
  |.gtr=>some (.bool (!kJ a b))
  |.geq=>some (.bool (kJ b a))
  |.rem=>bif nG b 0 then none else some (.int k (a.tmod b))
  |.and=>(match a,b with|.ofNat x,.ofNat y=>bif Nat.blt x 9223372036854775808&&Nat.blt y 9223372036854775808&&jw k then some (.int k (.ofNat (Nat.land x y)))else none|_,_=>none)
  |.quo=>bif nG b 0 then none else some (.int k (bR k (a.tdiv b)))
  |_=>none
def Pf(op:BinOp)(a b:Bool):bV:=match op with|.eql=>some (.bool (a==b))|.neq=>some (.bool (a != b))|_=>none
def Pg(op:BinOp)(a b:ay):bV:=match op with|.eql=>some (.bool (qx a b))|.neq=>some (.bool (!qx a b))|.add=>gP (Nat.ble (Nat.add (aM a) (aM b)) 9223372036854775807) (some (.str (a++b))) none|.lss=>some (.bool (uv a b))|.gtr=>some (.bool (uv b a))|.leq=>some (.bool (!uv b a))|.geq=>some (.bool (!uv a b))|_=>none
def HJ(c:Bool)(op:BinOp)(x y:HV):bV:=
  x.asInt (λk a=>y.asInt (λj b=>match op with
      |.shr=>(match a,b with|.ofNat x,.ofNat y=>bif Nat.blt y 64&&jw k then some (.int k (.ofNat (Nat.shiftRight x y)))else none|_,_=>none)
      |.shl=>(match a,b with|.ofNat x,.ofNat y=>bif Nat.blt y 64&&jw k then some (.int k (bR k (.ofNat (Nat.shiftLeft x y))))else none|_,_=>none)
      |op=>bif decide (k=j)then Pe op k a b else none) none)
    (match x,y with
     |.bool a,.bool b=>bif c then Pf op a b else none
     |.str a,.str b=>Pg op a b
     |_,_=>none)
def Aa{α:Type}(l:List α):Nat->Option α:=List.rec (motive:=λ_=>Nat->Option α) (λ_=>none) (λx _ ih k=>Nat.rec (motive:=λ_=>Option α) (some x) (λp _=>ih p) k) l
def qC(K:Kd)(k:HV):Bool:=bif K.ag then(match k with|.agg l=>ds K.ks l|_=>false)else ds K.ks [k]
def de(K:Kd)(m:List (HV×HV))(k:HV)(i:Nat):Option (Nat×Option HV):=match m with
 |[]=>some (i,none)
 |(a,v)::r=>match qB K k a with|some true=>some (i,some v)|some false=>de K r k (Nat.succ i)|none=>none
def lJ:List (HV×HV)->Nat->HV->List (HV×HV)
 |[],_,_=>[]
 |(a,x)::r,i,v=>bif Nat.beq i 0 then(a,v)::r else(a,x)::lJ r (Nat.pred i) v
def eJ(e:En):List Pc->Option ak
 |[]=>some []
 |.z l::r=>match eJ e r with|some m=>some (l++m)|none=>none
 |.x o n::r=>match bq o e with|some v=>(match cellsOf v,eJ e r with|some l,some m=>bif Nat.beq (aM l) n then some (l++m)else none|_,_=>none)|none=>none
def flat(sz:Nat):ak->Option ak
 |[]=>some []
 |v::r=>match cellsOf v,flat sz r with|some l,some m=>bif Nat.beq (aM l) sz then some (l++m)else none|_,_=>none
def mB(z:ak):Nat->ak
 |0=>[]
 |n+1=>z++mB z n
def Ot:HV->bG
 |.int _ (.ofNat n)=>some n
 |_=>none
def fI(e:En)(d:Nat):Option X->bG
 |none=>some d
 |some x=>match bq x e with|some v=>Ot v|none=>none
def mC(l:ay)(b c:Nat):ay:=gQ (c-b) (l.drop b)
def bytesOf:ak->Option ay
 |[]=>some []
 |.int .u8 (.ofNat n)::r=>bif Nat.blt n 256 then(match bytesOf r with|some l=>some (n::l)|none=>none)else none
 |_=>none
def fQ:ay->ak
 |[]=>[]
 |n::r=>.int .u8 (.ofNat n)::fQ r
def dR:Nat->Nat->ay
 |0,_=>[]
 |f+1,n=>bif Nat.blt n 10 then [48+n]else dR f (n/10)++[48+n%10]
def itoa:Int->ay
 |.ofNat n=>dR 25 n
 |.negSucc n=>45::dR 25 (n+1)
def U0(x:X)(e:En)(s:HS):da:=rv s (bq x e)
def lP(c a b:X)(e:En)(s:HS):da:=bU (bq c e) (λv=>v.asBool (rv s (bq a e)) (rv s (bq b e)) .bad) .bad
def EA(z:ak)(_:En)(s:HS):da:=s.new z (λo=>.ptr o 0)
def Ph(t:Nat)(z:ak)(_:En)(s:HS):da:=s.CJ (av (some (t,aM z)) s.nx s.ty) z (λo=>.ptr o 0)
def HK(x:X)(e:En)(s:HS):da:=bU (bq x e) (λv=>bU (cellsOf v) (λl=>s.new l (λo=>.ptr o 0)) .bad) .bad
def vc(x:X)(e:En)(s:HS):da:=bU (bq x e) (λv=>bU (cellsOf v) (λl=>.v (.ax l) s) .bad) .bad
def mh(ps:List Pc)(e:En)(s:HS):da:=bU (eJ e ps) (λl=>.v (.agg l) s) .bad
def HL(sz:Nat)(xs:List X)(e:En)(s:HS):da:=bU (gp xs e) (λl=>bU (flat sz l) (λm=>s.new m (λo=>.sl o 0 (aM xs) sz)) .bad) .bad
def jK(sz:Nat):ak->Option aR
 |[]=>some []
 |v::r=>match cellsOf v,jK sz r with|some l,some m=>bif Nat.beq (aM l) sz then some (l::m)else none|_,_=>none
def vd(sz:Nat)(xs:List X)(e:En)(s:HS):da:=bU (gp xs e) (λl=>bU (jK sz l) (λm=>.v (.psl m) s) .bad) .bad
def mD(v:HV)(n:bG):bV:=match v with|.ax c=>bU n (λm=>gP (Nat.ble m (aM c)) (some (.agg (gQ m c))) none) (Aa c 0)|_=>none
def Ou(x:X)(n:bG)(e:En)(s:HS):da:=bU (bq x e) (λv=>v.kV (λo k=>rv s (s.load o k n)) (rv s (mD v n))) .bad
def U1(n:Nat)(a x:X)(e:En)(s:HS):da:=bU (bq a e) (λp=>p.kV (λo k=>bU (bq x e) (λv=>bU (cellsOf v) (λl=>gP (Nat.beq (aM l) n) (bU (s.store o k l) (λs'=>.v .undef s') .bad) .bad) .bad) .bad) .bad) .bad
def faP(v:HV)(bo:Nat):bV:=match v with|.ax c=>gP (Nat.ble bo (aM c)) (some (.ax (iB bo c))) none|_=>none
def I4(x:X)(bo:Nat)(e:En)(s:HS):da:=bU (bq x e) (λv=>v.kV (λo k=>.v (.ptr o (Nat.add k bo)) s) (rv s (faP v bo))) .bad
def U2(v:HV)(i:bV)(sz:Nat):bV:=match v,i with
  |.psl b,some (.int _ (.ofNat n))=>(match Aa b n with|some r=>gP (Nat.beq (aM r) sz) (some (.ax r)) none|none=>none)
  |_,_=>none
def CD(x i:X)(sz:Nat)(e:En)(s:HS):da:=bU (bq x e) (λv=>v.Pd (λo bo len Et=>bU (bq i e) (λq=>q.asInt (λ_ z=>Int.rec (motive:=λ_=>da) (λn=>gP (Nat.blt n len) (gP (Nat.beq sz Et) (.v (.ptr o (Nat.add bo (Nat.mul n sz))) s) .bad) .bad) (λ_=>.bad) z) .bad) .bad) (rv s (U2 v (bq i e) sz))) .bad
def hIdx(x i:X)(e:En)(s:HS):da:=bU (bq x e) (λv=>v.VW (λl=>bU (bq i e) (λq=>q.asInt (λ_ z=>Int.rec (motive:=λ_=>da) (λn=>bU (Aa l n) (λb=>.v (.int .u8 (.ofNat b)) s) .bad) (λ_=>.bad) z) .bad) .bad) .bad) .bad
def L9(k:Nat)(s:HS)(v:HV):bG:=match k,v with
  |0,.ai=>some 0
  |0,.sl _ _ n _=>some n
  |0,.psl b=>some (aM b)
  |1,.str l=>some (aM l)
  |2,.fV=>some 0
  |2,.mp o=>(match ao s.h o with|some (.mp c)=>some (aM c)|_=>none)
  |_,_=>none
def CK(k:Nat)(x:X)(e:En)(s:HS):da:=bU (bq x e) (λv=>bU (L9 k s v) (λn=>.v (.int .i64 (.ofNat n)) s) .bad) .bad
def ve(c:Bool)(op:BinOp)(x y:X)(e:En)(s:HS):da:=bU (bq x e) (λa=>bU (bq y e) (λb=>rv s (HJ c op a b)) .bad) .bad
def U3(op:UnOp)(x:X)(e:En)(s:HS):da:=match bq x e with
  |some (.bool b)=>(match op with|.not=>.v (.bool (!b)) s|_=>.bad)
  |some (.int k n)=>(match op with|.neg=>.v (.int k (bR k (0-n))) s|_=>.bad)
  |_=>.bad
def vg(g:Nat)(c cs:List X)(e:En)(s:HS):da:=bU (gp c e) (λa=>bU (gp cs e) (λb=>.v (.fn g a b) s) .bad) .bad
def vh(x:X)(i:Nat)(e:En)(s:HS):da:=bU (bq x e) (λv=>v.Oq (λl=>rv s (Aa l i)) .bad) .bad
def vi(k:IntKind)(x:X)(e:En)(s:HS):da:=bU (bq x e) (λv=>v.asInt (λ_ n=>.v (.int k (bR k n)) s) .bad) .bad
def vj(x:X)(e:En)(s:HS):da:=bU (bq x e) (λv=>v.kV (λo k=>.v (.ptr o k) s) (match v with|.ax c=>.v (.ax c) s|_=>.bad)) .bad
def U4(m:Bool)(x y:X)(e:En)(s:HS):da:=match bq x e,bq y e with|some (.int k a),some (.int _ b)=>.v (.int k (bif m then(bif kJ a b then b else a)else(bif kJ a b then a else b))) s|_,_=>.bad
def aD:aR->ak
 |[]=>[]
 |r::l=>r++aD l
def dt(sz:Nat):aR->Bool
 |[]=>true
 |r::l=>Nat.beq (aM r) sz&&dt sz l
def iS:HV->Bool
 |.ai=>true
 |.sl .. =>true
 |_=>false
def HM(sz bx:Nat)(f:bG)(x ys:X)(e:En)(s:HS):da:=match bq x e,bq ys e with
  |some a,some b=>bif iS a then(match b with
   |.ai=>.v a s
   |.sl o d len _=>bif Nat.beq len 0 then .v a s else bU (s.bE o d (len*sz)) (λl=>s.append sz bx f a l len) .bad
   |.psl c=>bif Nat.beq (aM c) 0 then .v a s else bif dt sz c then s.append sz bx f a (aD c) (aM c)else .bad
   |_=>.bad)else .bad
  |_,_=>.bad
def HN(sz bx:Nat)(z:ak)(l c:X)(e:En)(s:HS):da:=match bq l e,bq c e with|some (.int _ (.ofNat n)),some (.int _ (.ofNat m))=>bif Nat.ble n m&&Nat.ble m bx then s.new (mB z n) (λo=>.sl o 0 n sz)else .bad|_,_=>.bad
def HS.VX(s:HS)(o:Ob)(K:Ky->HS->da):da:=K s.nx {h:=av (some o) s.nx s.h,nx:=s.nx.succ,gr:=s.gr,ty:=s.ty}
def HS.aK(s:HS)(o:Ky)(b:Ob):HS:={h:=av (some b) o s.h,nx:=s.nx,gr:=s.gr,ty:=s.ty}
def HS.kill(s:HS)(o:Ky):HS:={h:=av none o s.h,nx:=s.nx,gr:=s.gr,ty:=s.ty}
def VY(_:En)(s:HS):da:=s.VX (.mp []) (λo s'=>.v (.mp o) s')
def CL(K:Kd)(m k:X)(z:HV)(ok:Bool)(e:En)(s:HS):da:=match bq m e,bq k e with
  |some .fV,some key=>bif qC K key then .v (bif ok then .bN [z,.bool false]else z) s else .bad
  |some (.mp o),some key=>bif qC K key then(match ao s.h o with
   |some (.mp b)=>(match de K b key 0 with
    |some (_,some v)=>.v (bif ok then .bN [v,.bool true]else v) s
    |some (_,none)=>.v (bif ok then .bN [z,.bool false]else z) s
    |none=>.bad)
   |_=>.bad)else .bad
  |_,_=>.bad
def HO(K:Kd)(m k v:X)(e:En)(s:HS):da:=match bq m e,bq k e,bq v e with
  |some (.mp o),some key,some v=>bif qC K key then(match ao s.h o with
   |some (.mp b)=>(match de K b key 0 with
    |some (i,some _)=>.v .undef (s.aK o (.mp (lJ b i v)))
    |some (_,none)=>.v .undef (s.aK o (.mp (b++[(key,v)])))
    |none=>.bad)
   |_=>.bad)else .bad
  |_,_,_=>.bad
def HP(K:Kd)(neg:Bool)(x y:X)(e:En)(s:HS):da:=match bq x e,bq y e with|some a,some b=>(match qB K a b with|some q=>.v (.bool (q != neg)) s|none=>.bad)|_,_=>.bad
def ox(k:Nat)(v:HV):Option Bool:=match k,v with|0,.ai=>some true|0,.sl .. =>some false|0,.psl (_::_)=>some false|1,.fV=>some true|1,.mp _=>some false|2,.gU=>some true|2,.fn .. =>some false|2,.jk _=>some false|3,.dZ=>some true|3,.ptr .. =>some false|3,.ax _=>some false|_,_=>none
def vk(k:Nat)(neg:Bool)(x:X)(e:En)(s:HS):da:=bU (bq x e) (λv=>bU (ox k v) (λq=>.v (.bool (q != neg)) s) .bad) .bad
def CM(x:X)(d f g:Option X)(sz:Nat)(e:En)(s:HS):da:=match bq x e with
  |some (.sl o h len i)=>(match fI e 0 d,fI e len f,g with
   |some a,some b,none=>bif Nat.ble a b&&Nat.ble b len&&Nat.beq sz i then .v (.sl o (h+a*sz) (b-a) sz) s else .bad
   |_,_,_=>.bad)
  |some (.psl c)=>(match fI e 0 d,fI e (aM c) f,g with
   |some a,some b,none=>bif Nat.ble a b&&Nat.ble b (aM c)&&dt sz c then .v (.psl (gQ (b-a) (iB a c))) s else .bad
   |_,_,_=>.bad)
  |some .ai=>(match fI e 0 d,fI e 0 f,g with|some 0,some 0,none=>.v .ai s|_,_,_=>.bad)
  |_=>.bad
def CN(x:X)(c d:Option X)(e:En)(s:HS):da:=match bq x e with
  |some (.str l)=>(match fI e 0 c,fI e (aM l) d with
   |some a,some b=>bif Nat.ble a b&&Nat.ble b (aM l)then .v (.str (mC l a b)) s else .bad
   |_,_=>.bad)
  |_=>.bad
def CO(x:X)(e:En)(s:HS):da:=match bq x e with|some (.int _ (.ofNat n))=>bif Nat.blt n 128 then .v (.str [n]) s else bif Nat.blt n 2048 then .v (.str [192+n/64,128+n%64]) s else .bad|_=>.bad
def CP(x:X)(e:En)(s:HS):da:=match bq x e with
  |some .ai=>.v (.str []) s
  |some (.sl o d len _)=>(match s.bE o d len with|some l=>(match bytesOf l with|some b=>.v (.str b) s|none=>.bad)|none=>.bad)
  |some (.psl c)=>bif dt 1 c then(match bytesOf (aD c)with|some b=>.v (.str b) s|none=>.bad)else .bad
  |_=>.bad
def HQ(x:X)(e:En)(s:HS):da:=match bq x e with|some (.str l)=>s.new (fQ l) (λo=>.sl o 0 (aM l) 1)|_=>.bad
def HT(bx:Nat)(c:bG)(x y:X)(e:En)(s:HS):da:=match bq x e,bq y e with
  |some a,some b=>bif iS a then(match b with
   |.str l=>bif Nat.beq (aM l) 0 then .v a s else s.append 1 bx c a (fQ l) (aM l)
   |_=>.bad)else .bad
  |_,_=>.bad
def HU(K:Kd)(m k:X)(z:HV)(e:En)(s:HS):da:=match bq m e,bq k e with
  |some (.mp o),some key=>bif qC K key then(match ao s.h o with
   |some (.mp b)=>(match de K b key 0 with
    |some (i,some v)=>.v (.bN [v,.int .i64 (.ofNat i)]) s
    |some (_,none)=>.v (.bN [z,.int .i64 (.ofNat (aM b))]) (s.aK o (.mp (b++[(key,z)])))
    |none=>.bad)
   |_=>.bad)else .bad
  |_,_=>.bad
def HW(m i v:X)(e:En)(s:HS):da:=match bq m e,bq i e,bq v e with
  |some (.mp o),some (.int _ (.ofNat i)),some v=>(match ao s.h o with
   |some (.mp b)=>bif Nat.blt i (aM b)then .v .undef (s.aK o (.mp (lJ b i v)))else .bad
   |_=>.bad)
  |_,_,_=>.bad
def HX(sz:Nat)(x y:X)(e:En)(s:HS):da:=match bq x e,bq y e with
    |some (.sl o d len f),some (.sl h g b _)=>
      bif !(Nat.beq sz f)then .bad else
      bif Nat.beq (bif Nat.ble len b then len else b) 0 then .v (.int .i64 0) s else
      (match s.bE h g ((bif Nat.ble len b then len else b)*sz)with
       |some l=>(match s.store o d l with|some s'=>.v (.int .i64 (.ofNat (bif Nat.ble len b then len else b))) s'|none=>.bad)
       |none=>.bad)
    |some (.sl o d len f),some (.psl c)=>
      bif !(Nat.beq sz f)then .bad else
      bif Nat.beq (bif Nat.ble len (aM c)then len else aM c) 0 then .v (.int .i64 0) s else bif dt sz c then
      (match s.store o d (aD (gQ (bif Nat.ble len (aM c)then len else aM c) c))with|some s'=>.v (.int .i64 (.ofNat (bif Nat.ble len (aM c)then len else aM c))) s'|none=>.bad)else .bad
    |some (.sl ..),some .ai=>.v (.int .i64 0) s
    |some .ai,some .ai=>.v (.int .i64 0) s
    |some .ai,some (.sl ..)=>.v (.int .i64 0) s
    |some .ai,some (.psl _)=>.v (.int .i64 0) s
    |_,_=>.bad
def HY(z:ak)(x:X)(e:En)(s:HS):da:=match bq x e with
  |some .ai=>.v .undef s
  |some (.sl o b len _)=>bif Nat.beq len 0 then .v .undef s else(match s.store o b (mB z len)with|some s'=>.v .undef s'|none=>.bad)
  |_=>.bad
def Ab(f:Nat)(xs:List X)(e:En)(_:HS):da:=bU (gp xs e) (λl=>.call f l) .bad
def EB(x:X)(xs:List X)(e:En)(_:HS):da:=match bq x e,gp xs e with|some (.fn f a b),some l=>.call f (a++l++b)|some (.jk r),some l=>.round r l|_,_=>.bad
def CQ(x:X)(e:En)(s:HS):da:=match bq x e with|some (.str l)=>.v (.str l) s|_=>.bad
def VZ(_:En)(_:HS):da:=.bad
def cO(op:lO):En->HS->da:=
 lO.rec (motive:=λ_=>En->HS->da) U0 lP EA Ph HK vc mh HL vd Ou U1 I4 CD hIdx CK ve U3 vg vh vi vj U4 HM HN VY CL HO HP vk CM CN Ab EB CO CP HQ HU HW HT HX (λ_ z x=>HY z x) (λ_=>VZ) CQ VZ op
def fB(h:Tr Ob):cm->Tr Ob
 |[]=>h
 |m::r=>av none m (fB h r)
mutual
def cr:HV->Bool
 |.ptr _ _=>false
 |.sl _ _ _ _=>false
 |.mp _=>false
 |.jk _=>false
 |.fn _ a b=>cC a&&cC b
 |.agg l=>cC l
 |.bN l=>cC l
 |.ax l=>cC l
 |.psl c=>im c
 |_=>true
def cC:ak->Bool
 |[]=>true
 |v::r=>cr v&&cC r
def im:aR->Bool
 |[]=>true
 |l::r=>cC l&&im r
end
mutual
def eh:HV->Bool
 |.ptr _ _=>false
 |.sl _ _ _ _=>false
 |.mp _=>false
 |.jk _=>false
 |.ai=>false
 |.fn _ a b=>du a&&du b
 |.agg l=>du l
 |.bN l=>du l
 |.ax l=>du l
 |.psl c=>eu c
 |_=>true
def du:ak->Bool
 |[]=>true
 |v::r=>eh v&&du r
def eu:aR->Bool
 |[]=>true
 |l::r=>du l&&eu r
end
mutual
def nn:HV->HV
 |.ai=>.psl []
 |.agg l=>.agg (oN l)
 |.bN l=>.bN (oN l)
 |.ax l=>.ax (oN l)
 |.psl b=>.psl (qy b)
 |v=>v
def oN:ak->ak
 |[]=>[]
 |v::r=>nn v::oN r
def qy:aR->aR
 |[]=>[]
 |l::r=>oN l::qy r
end
def fg:HV->Bool
 |.int _ _=>true
 |.bool _=>true
 |.str _=>true
 |.ai=>true
 |.dZ=>true
 |.gU=>true
 |.fV=>true
 |.gj=>true
 |.psl []=>true
 |_=>false
def eX:HV->Bool
 |.bN l=>l.all fg
 |.agg l=>l.all fg
 |v=>fg v
def jL(sz:Nat):Nat->ak->aR
 |0,_=>[]
 |n+1,l=>gQ sz l::jL sz n (iB sz l)
section vw
variable(s:HS)
def oO(f:HV->Option (HV×List Ky)):ak->Option (List HV×List Ky)
 |[]=>some ([],[])
 |v::r=>match f v,oO f r with|some (b,t),some (c,d)=>some (b::c,t++d)|_,_=>none
def vw:Nat->HV->Option (HV×List Ky)
 |0,_=>none
 |n+1,v=>bif eh v then some (v,[])else match v with
  |.ai=>some (.psl [],[])
  |.psl d=>bif im d then some (.psl (qy d),[])else none
  |.ax l=>bif cC l then some (.ax (oN l),[])else none
  |.sl o g len i=>bif Nat.beq len 0 then some (.psl [],[])else(match s.bE o g (len*i)with
   |some l=>(match oO (vw n) l with
    |some (c,t)=>some (.psl (jL i len c),o::t)
    |none=>none)
   |none=>none)
  |.ptr o k=>(match ao s.h o with
   |some (.cells _ _ j _)=>bif Nat.ble k j then(match s.bE o k (j-k)with
    |some l=>(match oO (vw n) l with
     |some (c,t)=>some (.ax c,o::t)
     |none=>none)
    |none=>none)else none
   |_=>none)
  |.agg l=>(match oO (vw n) l with|some (c,t)=>some (.agg c,t)|none=>none)
  |.bN l=>(match oO (vw n) l with|some (c,t)=>some (.bN c,t)|none=>none)
  |.fn f a b=>(match oO (vw n) a,oO (vw n) b with|some (m,t),some (p,q)=>some (.fn f m p,t++q)|_,_=>none)
  |v=>bif cr v then some (v,[])else none
end vw
def br(s:HS):cm->HS
 |[]=>s
 |o::r=>match br s r with
  |s'=>(match ao s.h o with
   |some (.cells _ _ _ g)=>(match ao s.gr g with
    |some b=>{h:=fB s'.h b,nx:=s'.nx,gr:=s'.gr,ty:=s'.ty}
    |none=>s')
   |_=>s')
def qD(s:HS)(e:En):ay->Option (En×HS)
 |[]=>some (e,s)
 |t::r=>match qD s e r with
  |some (b,s')=>(match look b t with
   |some v=>(match vw s' 16 v with
    |some (c,l)=>some (b.qw t c,br s' l)
    |none=>none)
   |none=>none)
  |none=>none
def uw(s:HS)(e:En)(t bo n:Nat):Option HS:=match look e t with
 |some (.ptr o k)=>(match s.bE o (k+bo) n with
  |some l=>(match oO (vw s 16) l with
   |some (c,b)=>bif jn o b then none else(match br s b with
    |s'=>(match ao s'.h o with
     |some (.cells tr d f g)=>some {h:=av (some (.cells (dq c (k+bo) tr) d f g)) o s'.h,nx:=s'.nx,gr:=s'.gr,ty:=s'.ty}
     |_=>none))
   |none=>none)
  |none=>none)
 |_=>none
mutual
def ids:HV->cm
 |.ptr o _=>[o]
 |.sl o _ _ _=>[o]
 |.mp o=>[o]
 |.jk o=>[o]
 |.fn _ a b=>EC a++EC b
 |.agg l=>EC l
 |.bN l=>EC l
 |.ax l=>EC l
 |.psl c=>Ov c
 |_=>[]
def EC:ak->cm
 |[]=>[]
 |v::r=>ids v++EC r
def Ov:aR->cm
 |[]=>[]
 |l::r=>EC l++Ov r
end
def Pj:Tr HV->cm
 |.lf=>[]
 |.nd v l r=>(match v with|some x=>ids x|none=>[])++(Pj l++Pj r)
def V0:List (HV×HV)->cm
 |[]=>[]
 |(k,v)::r=>ids k++(ids v++V0 r)
def HZ(s:HS):Nat->cm->cm->Option cm
 |0,_,_=>none
 |_+1,[],b=>some b
 |n+1,o::r,b=>bif jn o b then HZ s n r b else(match ao s.h o with
  |some (.cells t _ _ _)=>HZ s n (Pj t++r) (b++[o])
  |some (.mp c)=>HZ s n (V0 c++r) (b++[o])
  |_=>none)
def zC:Nat->Ky
 |0=>.e
 |n+1=>(zC n).succ
def Ow(o:Ky):List (Ky×Ky)->Option Ky
 |[]=>none
 |(a,b)::r=>bif a.beq o then some b else Ow o r
def vl:Nat->cm->List (Ky×Ky)
 |_,[]=>[]
 |n,o::r=>(o,zC n)::vl (n+1) r
mutual
def oy(r:List (Ky×Ky)):HV->bV
 |.ptr o k=>match Ow o r with|some g=>some (.ptr g k)|none=>none
 |.sl o a b c=>match Ow o r with|some g=>some (.sl g a b c)|none=>none
 |.mp o=>match Ow o r with|some g=>some (.mp g)|none=>none
 |.jk _=>none
 |.fn f a b=>match vm r a,vm r b with|some i,some j=>some (.fn f i j)|_,_=>none
 |.agg l=>match vm r l with|some d=>some (.agg d)|none=>none
 |.bN l=>match vm r l with|some d=>some (.bN d)|none=>none
 |.ax l=>match vm r l with|some d=>some (.ax d)|none=>none
 |.psl h=>match Ac r h with|some d=>some (.psl d)|none=>none
 |v=>some v
def vm(r:List (Ky×Ky)):ak->Option ak
 |[]=>some []
 |v::l=>match oy r v,vm r l with|some b,some c=>some (b::c)|_,_=>none
def Ac(r:List (Ky×Ky)):aR->Option aR
 |[]=>some []
 |v::l=>match vm r v,Ac r l with|some b,some c=>some (b::c)|_,_=>none
end
def zD(r:List (Ky×Ky)):Tr HV->Option (Tr HV)
 |.lf=>some .lf
 |.nd none l m=>match zD r l,zD r m with|some b,some c=>some (.nd none b c)|_,_=>none
 |.nd (some v) l m=>match oy r v,zD r l,zD r m with|some d,some b,some c=>some (.nd (some d) b c)|_,_,_=>none
def H0(r:List (Ky×Ky)):List (HV×HV)->Option (List (HV×HV))
 |[]=>some []
 |(k,v)::l=>match oy r k,oy r v,H0 r l with|some b,some c,some d=>some ((b,c)::d)|_,_,_=>none
def CS(r:List (Ky×Ky))(e:En):ay->Option En
 |[]=>some .nil
 |t::l=>match CS r e l with
  |some b=>(match look e t with
   |some v=>(match oy r v with|some c=>some (.cons t c b)|none=>none)
   |none=>some b)
  |none=>none
def CU(s:HS)(r:List (Ky×Ky)):List (Ky×Ky)->Option (Tr Ob×Tr cm×Tr (Nat×Nat)×List Ky)
 |[]=>some (.lf,.lf,.lf,[])
 |(o,k)::l=>match CU s r l with
  |some (h,d,ty,b)=>(match ao s.h o with
   |some (.cells t f i g)=>bif jn g b then none else(match zD r t with
    |some j=>some (av (some (.cells j f i k)) k h,av (some [k]) k d,(match ao s.ty o with|some p=>av (some p) k ty|none=>ty),g::b)
    |none=>none)
   |some (.mp m)=>(match H0 r m with
    |some c=>some (av (some (.mp c)) k h,d,ty,b)
    |none=>none)
   |_=>none)
  |none=>none
def Jc(e:En):ay->cm
 |[]=>[]
 |t::l=>(match look e t with|some v=>ids v|none=>[])++Jc e l
def canon(keep:ay)(e:En)(s:HS):Option (En×HS):=match HZ s 500 (Jc e keep) []with
 |some b=>(match CS (vl 0 b) e keep,CU s (vl 0 b) (vl 0 b)with
  |some d,some (h,c,ty,_)=>some (d,{h:=h,nx:=zC (aM b),gr:=c,ty:=ty})
  |_,_=>none)
 |none=>none
inductive Ex where
 |normal|ret
 |exit (i:Nat)
inductive Task where
 |call (f:Nat) (args:ak) (s:HS)
 |round (l:Ky) (args:ak) (s:HS)
 |loop (c:HC) (e:En) (s:HS)
 |oP (c:HC) (e:En) (s:HS)
inductive Out where
 |val (v:HV) (s:HS)
 |code (x:Ex) (e:En) (s:HS)
 |bad (why:Nat)
def Out.oz{β:Type}(o:Out)(f:HV->HS->β)(d:β):β:=Out.rec (motive:=λ_=>β) (λv s=>f v s) (λ_ _ _=>d) (λ_=>d) o
def Out.ch(o:Out)(f:En->HS->Out):Out:=Out.rec (motive:=λ_=>Out) (λ_ _=>o) (λx e s=>Ex.rec (motive:=λ_=>Out) (f e s) o (λ_=>o) x) (λ_=>o) o
def En.put(e:En)(d:bG)(v:HV):En:=Option.rec (motive:=λ_=>En) e (λn=>.cons n v e) d
def gX(outs:ay)(l:En):En->En:=List.rec (motive:=λ_=>En->En) (λe=>e) (λn _ ih e=>ih (bU (look l n) (λv=>e.qw n v) e)) outs
def kX(e:En)(g:Option (Nat×Bool)):Option Bool:=
 Option.rec (motive:=λ_=>Option Bool) (some true) (λp=>match look e p.1 with|some (.bool q)=>some (q==p.2)|some .undef=>some false|_=>none) g
def one(ih:Task->Out)(o:aU)(e:En)(s:HS)(K:En->HS->Out):Out:=
 bU (kX e o.g) (λw=>Bool.rec (motive:=λ_=>Out) (K (e.put o.d .undef) s)
   (da.rec (motive:=λ_=>Out) (λv s'=>K (e.put o.d v) s') (λf l=>(ih (.call f l s)).oz (λv s'=>K (e.put o.d v) s') (.bad 1)) (λf l=>(ih (.round f l s)).oz (λv s'=>K (e.put o.d v) s') (.bad 2)) (.bad 3) (cO o.op e s)) w) (.bad 4)
def mA(ih:Task->Out)(K:En->HS->Out)(l:List aU):En->HS->Out:=
 List.rec (motive:=λ_=>En->HS->Out) K (λo _ rest e s=>one ih o e s rest) l
def kY(ih:Task->Out)(K:En->HS->List HS->Out)(l:List dW):En->HS->List HS->Out:=
 List.rec (motive:=λ_=>En->HS->List HS->Out) K (λd _ rest e s vs=>one ih d.o e s (λe' s'=>rest e' s' (DK.rec (motive:=λ_=>List HS) vs (λ_ _=>vs) (vs++[s']) (vs++[s']) d.k))) l
def fL:HV->HV->Bool
 |.int k a,.int j b=>decide (k=j)&&nG a b
 |.bool a,.bool b=>a==b
 |.str a,.str b=>qx a b
 |.ai,.ai=>true
 |.dZ,.dZ=>true
 |.gU,.gU=>true
 |.fV,.fV=>true
 |.gj,.gj=>true
 |.ptr o k,.ptr p j=>o.beq p&&Nat.beq k j
 |.sl o a b c,.sl p d e f=>o.beq p&&Nat.beq a d&&Nat.beq b e&&Nat.beq c f
 |.mp o,.mp p=>o.beq p
 |.fn f a b,.fn g c d=>Nat.beq f g&&iD a c&&iD b d
 |.jk a,.jk b=>a.beq b
 |.agg a,.agg b=>iD a b
 |.bN a,.bN b=>iD a b
 |.ax a,.ax b=>iD a b
 |.psl a,.psl b=>qS a b
 |.undef,.undef=>true
 |_,_=>false
where
 iD:ak->ak->Bool
 |[],[]=>true
 |x::r,y::s=>fL x y&&iD r s
 |_,_=>false
 qS:aR->aR->Bool
 |[],[]=>true
 |x::r,y::s=>iD x y&&qS r s
 |_,_=>false
def ic(o:aU)(e:En)(n:Nat):List HS->Bool
 |[]=>true
 |s::r=>(match o.d with
   |some d=>(match look e d,cO o.op e s with
    |some v,.v u _=>fL v u
    |_,_=>false)
   |none=>false)&&(match n with|0=>true|m+1=>ic o e m r)
def cd(e:En)(vs:List HS):List dW->Bool
 |[]=>true
 |d::r=>(match d.k with
   |.l b c=>(match kX e d.o.g with|some true=>ic d.o e (c-b) (vs.drop b)|some false=>true|none=>false)
   |_=>true)&&cd e vs r
def Ox(ih:Task->Out)(outs:ay)(main:List dW)(b:List aU)(e0:En)(s:HS):Out:=
 kY ih (λe s' d=>gP (cd e d main) (mA ih (λf c=>.code .normal (gX outs f e0) c) b e s') (.bad 14)) main e0 s [s]
def lK(ih:Task->Out)(x:X)(ps:ay)(jl body:HC)(e:En)(s:HS):Out:=
 match bq x e with
 |some (.fn f a b)=>(match ih (.call f (a++[HV.jk s.nx]++b) {h:=av (some (.loop 0 none e ps jl body)) s.nx s.h,nx:=s.nx.succ,gr:=s.gr,ty:=s.ty})with
  |.val _ s2=>(match ao s2.h s.nx with
   |some (.loop d c ..)=>bif Nat.beq d 2 then .bad 15 else(match c with
    |none=>.code .normal e (s2.kill s.nx)
    |some .ret=>.code .ret e (s2.kill s.nx)
    |some (.exit i)=>.code (.exit i) e (s2.kill s.nx)
    |_=>.bad 5)
   |_=>.bad 5)
  |_=>.bad 6)
 |_=>.bad 7
def ev(ih:Task->Out)(c:HC):En->HS->Out:=
 HC.rec (motive:=λ_=>En->HS->Out)
  (λe s=>.code .normal e s) (λe s=>.code .ret e s) (λi e s=>.code (.exit i) e s)
  (λ_ _ d f e s=>(d e s).ch f)
  (λx _ _ d f e s=>bU (bq x e) (λv=>v.asBool (d e s) (f e s) (.bad 8)) (.bad 8))
  (λi _ g e s=>Out.rec (motive:=λ_=>Out) (λ_ _=>.bad 9) (λx e' s'=>Ex.rec (motive:=λ_=>Out) (.code .normal e' s') (.code .ret e' s') (λj=>gP (Nat.beq i j) (.code .normal e' s') (.code (.exit j) e' s')) x) (λw=>.bad w) (g e s))
  (λc g e s=>(g e s).ch (λe' s'=>ih (.loop c e' s')))
  (λouts l e s=>mA ih (λe' s'=>.code .normal (gX outs e' e) s') l e s)
  (λouts main b e s=>Ox ih outs main b e s)
  (λx ps jl body _ _ e s=>lK ih x ps jl body e s)
  (λh e s=>bU (qD s e h) (λp=>.code .normal p.1 p.2) (.bad 50))
  (λt bo n e s=>bU (uw s e t bo n) (λs'=>.code .normal e s') (.bad 51))
  (λ_ _ _=>.bad 52) c
def bK(ih:Task->Out)(c:HC):En->HS->Out:=
 HC.rec (motive:=λ_=>En->HS->Out)
  (λe s=>.code .normal e s) (λe s=>.code .ret e s) (λi e s=>.code (.exit i) e s)
  (λ_ _ d f e s=>(d e s).ch f)
  (λx _ _ d f e s=>bU (bq x e) (λv=>v.asBool (d e s) (f e s) (.bad 8)) (.bad 8))
  (λi _ g e s=>Out.rec (motive:=λ_=>Out) (λ_ _=>.bad 9) (λx e' s'=>Ex.rec (motive:=λ_=>Out) (.code .normal e' s') (.code .ret e' s') (λj=>gP (Nat.beq i j) (.code .normal e' s') (.code (.exit j) e' s')) x) (λw=>.bad w) (g e s))
  (λc g e s=>(g e s).ch (λe' s'=>ih (.oP c e' s')))
  (λouts l e s=>mA ih (λe' s'=>.code .normal (gX outs e' e) s') l e s)
  (λouts main b e s=>Ox ih outs main b e s)
  (λx ps jl body _ _ e s=>lK ih x ps jl body e s)
  (λh e s=>bU (qD s e h) (λp=>.code .normal p.1 p.2) (.bad 50))
  (λt bo n e s=>bU (uw s e t bo n) (λs'=>.code .normal e s') (.bad 51))
  (λkeep e s=>bU (canon keep e s) (λp=>.code .normal p.1 p.2) (.bad 52)) c
def bn(l:ak):Nat->En:=List.rec (motive:=λ_=>Nat->En) (λ_=>.nil) (λv _ ih i=>.cons i v (ih (Nat.succ i))) l
def oQ(e:En):ay->ak->En
 |p::q,v::r=>.cons p v (oQ e q r)
 |_,_=>e
def dY(e:En)(s:HS):List Rs->Option ak
 |[]=>some []
 |.tmp n::r=>match look e n,dY e s r with|some v,some l=>some (v::l)|_,_=>none
 |.cell n b::r=>match look e n with
  |some (.ptr o k)=>(match s.load o k b,dY e s r with|some v,some l=>some (v::l)|_,_=>none)
  |some (.ax c)=>(match mD (.ax c) b,dY e s r with|some v,some l=>some (v::l)|_,_=>none)
  |_=>none
def leave(F:HF)(e:En)(s:HS):Out:=match dY e s F.rs with|some [v]=>.val v s|some l=>.val (.bN l) s|none=>.bad 10
def s0:HS:={h:=.lf,nx:=.e,gr:=.lf,ty:=.lf}
def jo(F:HF)(ih:Task->Out)(args:ak):bV:=
 gP (Nat.beq (aM args) F.np) (match bK ih F.c (bn args 0) s0 with
  |.code (.exit _) _ _=>none
  |.code _ e s=>(match leave F e s with
   |.val v s'=>(match vw s' 16 v with|some (b,_)=>some b|none=>none)
   |_=>none)
  |_=>none) none
def vn(f:HV->Bool):ak->Bool
 |[]=>true
 |v::r=>f v&&vn f r
def vH(s:HS):Nat->HV->Bool
 |0,_=>false
 |n+1,v=>bif fg v then true else(match v with
  |.sl o b len c=>bif Nat.beq len 0 then true else(match s.bE o b (len*c)with|some l=>vn (vH s n) l|none=>false)
  |.agg l=>vn (vH s n) l
  |.bN l=>vn (vH s n) l
  |_=>false)
def gq(F:HF)(ih:Task->Out)(args:ak):Bool:=
 match bK ih F.c (bn args 0) s0 with
  |.code (.exit _) _ _=>false
  |.code _ e s=>(match leave F e s with
   |.val v s'=>vH s' 16 v
   |_=>false)
  |_=>false
def bW(F:HF)(ih:Task->Out)(args:ak)(s:HS):Out:=
  bif cC args then bU (jo F ih (bif du args then args else oN args)) (λv=>.val v s) (.bad 40)else
    (match oO (vw s 16) args with
     |some (l,_)=>bU (jo F ih l) (λv=>bif eX v then .val v s else bif gq F ih l then .val v s else .bad 41) (.bad 42)
     |none=>.bad 43)
def dD(F:HF)(ih:Task->Out)(args:ak)(s:HS):Out:=
 gP (Nat.beq (aM args) F.np) (Out.rec (motive:=λ_=>Out) (λ_ _=>.bad 11) (λx e s'=>Ex.rec (motive:=λ_=>Out) (leave F e s') (leave F e s') (λ_=>.bad 12) x) (λw=>.bad w) (ev ih F.c (bn args 0) s)) (.bad 32)
def bu(P:Nat->Option HF)(ih:Task->Out)(f:Nat)(args:ak)(s:HS):Out:=
 bU (P f) (λF=>bif F.pu then bW F ih args s else dD F ih args s) (.bad 13)
structure jx where
 bt:Nat
 I5:Nat
 dx:Nat
 str:Nat
 fmt:Nat
 vI:bG:=none
 Jd:ay:=[]
def ux(L:jx)(args:ak)(s:HS):Out:=match args with
      |[.ptr o 0]=>(match ao s.ty o with
        |some (E,n)=>bif Nat.beq E L.bt&&Nat.beq n 2 then(match s.cell o 0 with
          |some .dZ=>(match s.store o 0 [.ptr o 0]with|some s'=>.val .undef s'|none=>.bad 26)
          |some (.ptr p j)=>bif p.beq o&&Nat.beq j 0 then .val .undef s else .bad 27
          |_=>.bad 28)else .bad 30
        |none=>.bad 31)
      |_=>.bad 29
def mj(L:jx)(args:ak)(s:HS):Out:=match args with
      |[.ptr o 0]=>(match s.load o 1 none with
        |some .ai=>.val (.str []) s
        |some (.sl c 0 len _)=>(match ao s.ty c with
          |some (E,_)=>bif Nat.beq E L.I5&&(Nat.blt 0 len&&Nat.ble len 4611686018427387904)then(match s.bE c 0 len with
            |some l=>(match bytesOf l with
              |some b=>(match ao s.h c with
                |some (.cells _ _ _ g)=>(match ao s.gr g with
                  |some d=>.val (.str b) {h:=fB s.h d,nx:=s.nx,gr:=s.gr,ty:=s.ty}
                  |none=>.bad 33)
                |_=>.bad 34)
              |none=>.bad 20)
            |none=>.bad 21)else .bad 35
          |none=>.bad 36)
        |_=>.bad 23)
      |_=>.bad 24
def wD(args:ak)(s:HS):Out:=match args with|[.int .i64 (.ofNat n),.int .i64 (.ofNat b)]=>bif Nat.blt n 9223372036854775808&&Nat.beq b 10 then .val (.str (dR 25 n)) s else .bad 25|[.int .i64 (.negSucc n),.int .i64 (.ofNat b)]=>bif Nat.blt n 9223372036854775808&&Nat.beq b 10 then .val (.str (45::dR 25 (Nat.succ n))) s else .bad 25|_=>.bad 25
def lQ(args:ak)(s:HS):Out:=match args with|[]=>.val (.bool true) s|_=>.bad 60
def Be(f:Nat)(l:ay):Bool:=List.rec (motive:=λ_=>Bool) false (λa _ r=>bif Nat.beq f a then true else r) l
def iq(L:jx)(f:Nat)(args:ak)(s:HS)(K:Out):Out:=bif Be f L.Jd then(match args with
      |[.psl []]=>.val (.psl []) s
      |_=>K)else K
def Ae(L:jx)(f:Nat)(args:ak)(s:HS):(∀K,iq L f args s K=K)∨(Be f L.Jd=true/\args=[.psl []]/\∀K,iq L f args s K=.val (.psl []) s):=by
 unfold iq;cases Be f L.Jd with
 |false=>exact .inl λK=>rfl
 |true=>
  simp only[cond_true]
  split
  .exact .inr ⟨by simp,rfl,λK=>rfl⟩
  exact .inl λK=>rfl
def sQ(L:jx)(f:Nat)(args:ak)(s:HS)(K:Out):Out:=
 bif Nat.beq f L.dx then ux L args s else bif Nat.beq f L.str then mj L args s else bif Nat.beq f L.fmt then wD args s else bU L.vI (λt=>bif Nat.beq f t then lQ args s else iq L f args s K) (iq L f args s K)
def kZ(l:Ky)(d:Nat)(b:Option HC)(s:HS):Out:=match ao s.h l with|some (.loop _ _ e f c body)=>.val (.bool (Nat.beq d 0)) (s.aK l (.loop d b e f c body))|_=>.bad 16
def gH(ih:Task->Out)(l:Ky)(args:ak)(s:HS):Out:=match ao s.h l with
  |some (.loop _ _ e g d body)=>bif Nat.beq (aM args) (aM g)then(match ev ih d (oQ e g args) s with
   |.code .normal k j=>(match ao j.h l with
    |some (.loop m n o f c b)=>bif Nat.beq m 0 then(match ev ih body k (j.aK l (.loop 2 n o f c b))with
     |.code .normal _ s2=>kZ l 0 none s2
     |.code .ret _ s2=>kZ l 1 (some .ret) s2
     |.code (.exit i) _ s2=>kZ l 1 (some (.exit i)) s2
     |_=>.bad 11)else .bad 17
    |_=>.bad 18)
   |_=>.bad 12)else .bad 19
  |_=>.bad 13
def step(L:jx)(P:Nat->Option HF)(ih:Task->Out)(t:Task):Out:=
 Task.rec (motive:=λ_=>Out) (λf args s=>sQ L f args s (bu P ih f args s)) (λl args s=>gH ih l args s)
  (λc e s=>(ev ih c e s).ch (λe' s'=>ih (.loop c e' s')))
  (λc e s=>(bK ih c e s).ch (λe' s'=>ih (.oP c e' s'))) t
def run(L:jx)(P:Nat->Option HF)(n:Nat):Task->Out:=Nat.rec (motive:=λ_=>Task->Out) (λ_=>.bad 99) (λ_ ih=>step L P ih) n
def isTrue(o:Out):Bool:=o.oz (λv _=>v.asBool true false false) false
def Ky.toNat:Ky->Nat
 |.e=>0
 |.z k=>2*k.toNat+1
 |.o k=>2*k.toNat+2
def Ky.ba(k:Ky):k.succ.toNat=k.toNat+1:=by induction k with|e=>rfl|z k _=>rfl|o k b=>have:(Ky.o k).succ=.z k.succ:=rfl;rw[this];simp only[Ky.toNat,b];omega
def Ky.beq_iff(a:Ky):∀b:Ky,a.beq b=true↔a=b:=by
 induction a with
 |e=>intro b;cases b<;>simp[Ky.beq]
 |z a c=>intro b;cases b with|z b=>have:(Ky.z a).beq (.z b)=a.beq b:=rfl;rw[this,c];simp|_=>simp[Ky.beq]
 |o a c=>intro b;cases b with|o b=>have:(Ky.o a).beq (.o b)=a.beq b:=rfl;rw[this,c];simp|_=>simp[Ky.beq]
section O9
variable{α:Type}
def wE(t:Tr α):ao t .e=tv t:=by cases t<;>rfl
def sV(t:Tr α)(k:Ky):ao t (.z k)=ao (tl t) k:=by cases t<;>rfl
def sW(t:Tr α)(k:Ky):ao t (.o k)=ao (tr t) k:=by cases t<;>rfl
def af(x:Option α)(k:Ky):∀(t:Tr α) (j:Ky),ao (av x k t) j=if j=k then x else ao t j:=by
 induction k with
 |e=>intro t j;have:av x .e t=.nd x (tl t) (tr t):=rfl;rw[this];cases j with|e=>simp[wE,tv]|z j=>rw[sV,sV];simp[tl]|o j=>rw[sW,sW];simp[tr]
 |z k b=>intro t j;have:av x (.z k) t=.nd (tv t) (av x k (tl t)) (tr t):=rfl;rw[this];cases j with|e=>rw[wE,wE];simp[tv]|z j=>rw[sV,sV];have:=b (tl t) j;simp only[tl]at this ⊢;rw[this];simp|o j=>rw[sW,sW];simp[tr]
 |o k b=>intro t j;have:av x (.o k) t=.nd (tv t) (tl t) (av x k (tr t)):=rfl;rw[this];cases j with|e=>rw[wE,wE];simp[tv]|z j=>rw[sV,sV];simp[tl]|o j=>rw[sW,sW];have:=b (tr t) j;simp only[tr]at this ⊢;rw[this];simp
def vJ(k:Nat):fP (Tr.lf:Tr α) k=none:=rfl
def iW(v:Option α)(l r:Tr α)(k:Nat):fP (.nd v l r) k=if k=0 then v else if k%2=1 then fP l (k/2)else fP r ((k-1)/2):=by
 have h:fP (.nd v l r) k=Bool.rec (Bool.rec (fP r (Nat.div (Nat.pred k) 2)) (fP l (Nat.div k 2)) (Nat.beq (Nat.mod k 2) 1)) v (Nat.beq k 0):=rfl;rw[h];cases hk:Nat.beq k 0 with
 |true=>have:=oA hk;simp[this]
 |false=>
  have b:k≠0:=by rintro rfl;simp at hk
  simp only[b,bp];cases hm:Nat.beq (Nat.mod k 2) 1 with|true=>have:=oA hm;rw[ar (by exact this)];rfl|false=>rw[aq (by intro h;have c:Nat.mod k 2=1:=h;rw[c]at hm;simp at hm)];rfl
def H2(x:Option α):∀(n k:Nat),k<n->∀j,fP (nD x n k) j=if j=k then x else none:=by
 intro n
 induction n with
 |zero=>intro k h;omega
 |succ n ih=>
  intro k hk j;have h:nD x (n+1) k=Bool.rec (Bool.rec (.nd none .lf (nD x n (Nat.div (Nat.pred k) 2))) (.nd none (nD x n (Nat.div k 2)) .lf) (Nat.beq (Nat.mod k 2) 1)) (.nd x .lf .lf) (Nat.beq k 0):=rfl;rw[h];cases c:Nat.beq k 0 with
  |true=>have:=oA c;subst this;simp only[iW,vJ];split<;>simp_all
  |false=>
   have g:k≠0:=by rintro rfl;simp at c
   have i:Nat.div k 2=k/2:=rfl;have l:Nat.div (Nat.pred k) 2=(k-1)/2:=rfl;cases hm:Nat.beq (Nat.mod k 2) 1 with
   |true=>
    have f:k%2=1:=oA hm;simp only[iW,vJ,i];rw[ih (k/2) (by omega)];by_cases h0:j=0
    .simp only[h0,bf];rw[aq (by omega)]
    by_cases d:j%2=1
    .simp only[h0,d,bf,bp];by_cases b:j=k
     .rw[ar (by rw[b]),ar b]
     rw[aq (by omega),aq b]
    simp only[h0,d,bp];rw[aq (by omega)]
   |false=>
    have f:k%2≠1:=by intro h;have m:Nat.mod k 2=1:=h;rw[m]at hm;simp at hm
    simp only[iW,vJ,l];rw[ih ((k-1)/2) (by omega)];by_cases h0:j=0
    .simp only[h0,bf];rw[aq (by omega)]
    by_cases d:j%2=1
    .simp only[h0,d,bf,bp];rw[aq (by omega)]
    simp only[h0,d,bp];by_cases b:j=k
    .rw[ar (by rw[b]),ar b]
    rw[aq (by omega),aq b]
def H3(x:Option α)(t:Tr α):∀(k j:Nat),fP (jv x t k) j=if j=k then x else fP t j:=by
 induction t with
 |lf=>intro k j;exact H2 x (k+1) k (by omega) j
 |nd v l r f g=>
  intro k j;have h:jv x (.nd v l r) k=Bool.rec (Bool.rec (.nd v l (jv x r (Nat.div (Nat.pred k) 2))) (.nd v (jv x l (Nat.div k 2)) r) (Nat.beq (Nat.mod k 2) 1)) (.nd x l r) (Nat.beq k 0):=rfl;rw[h];have m:Nat.div k 2=k/2:=rfl;have n:Nat.div (Nat.pred k) 2=(k-1)/2:=rfl;cases c:Nat.beq k 0 with
  |true=>have:=oA c;subst this;simp only[iW];split<;>simp_all
  |false=>
   have o:k≠0:=by rintro rfl;simp at c
   cases hm:Nat.beq (Nat.mod k 2) 1 with
   |true=>
    have i:k%2=1:=oA hm;simp only[iW,m];rw[f (k/2)];by_cases h0:j=0
    .simp only[h0,bf];rw[aq (by omega)]
    by_cases d:j%2=1
    .simp only[h0,d,bf,bp];by_cases b:j=k
     .rw[ar (by rw[b]),ar b]
     rw[aq (by omega),aq b]
    simp only[h0,d,bp];rw[aq (by omega)]
   |false=>
    have i:k%2≠1:=by intro h;have p:Nat.mod k 2=1:=h;rw[p]at hm;simp at hm
    simp only[iW,n];rw[g ((k-1)/2)];by_cases h0:j=0
    .simp only[h0,bf];rw[aq (by omega)]
    by_cases d:j%2=1
    .simp only[h0,d,bf,bp];rw[aq (by omega)]
    simp only[h0,d,bp];by_cases b:j=k
    .rw[ar (by rw[b]),ar b]
    rw[aq (by omega),aq b]
end O9
def bF{α:Type}(l:List α):aM l=l.length:=by induction l with|nil=>rfl|cons x l b=>have:aM (x::l)=(aM l).succ:=rfl;rw[this,b];rfl
def wF{α:Type}(l:List α):∀k,Aa l k=l[k]?:=by
 induction l with
 |nil=>intro k;rfl
 |cons x l b=>intro k;cases k with|zero=>rfl|succ k=>have:Aa (x::l) (k+1)=Aa l k:=rfl;rw[this,b];simp
def fC(l:ak):∀(k:Nat) (t:Tr HV) (j:Nat),fP (dq l k t) j=if k<=j/\j<k+l.length then l[j-k]?else fP t j:=by
 induction l with
 |nil=>intro k t j;simp only[aE];rw[aq (by omega)];rfl
 |cons v l d=>
  intro k t j;have:dq (v::l) k t=dq l (k+1) (jv (some v) t k):=rfl;rw[this,d,H3];simp only[aA];by_cases b:j=k
  .subst b;rw[aq (by omega),ar rfl,ar (by omega)];simp
  by_cases c:k+1<=j/\j<k+1+l.length
  .rw[ar c,ar (by omega),show j-k=(j-(k+1))+1 by omega];simp
  rw[aq c,aq b,aq (by omega)]
def H4{t:Tr HV}:∀{n k:Nat} {l:ak},nE t n k=some l->l.length=n/\∀i,i<n->fP t (k+i)=l[i]?:=by
 intro n
 induction n with
 |zero=>intro k l h;have:nE t 0 k=some []:=rfl;rw[this]at h;cases h;simp
 |succ n ih=>
  intro k l h;have he:nE t (n+1) k=Option.rec none (λv=>Option.rec none (λl=>some (v::l)) (nE t n (k+1))) (fP t k):=rfl;rw[he]at h;cases c:fP t k with
  |none=>rw[c]at h;cases h
  |some v=>
   cases d:nE t n (k+1)with
   |none=>rw[c,d]at h;cases h
   |some m=>rw[c,d]at h;cases h;obtain⟨a,b⟩:=ih d;refine⟨by simp[a],λi hi=>?_⟩;cases i with|zero=>simpa using c|succ i=>have:=b i (by omega);rw[show k+(i+1)=k+1+i by omega,this];simp
def ei(n:Nat)(v:HV)(r:En)(k:Nat):look (.cons n v r) k=if n=k then some v else look r k:=by have h:look (.cons n v r) k=Bool.rec (look r k) (some v) (Nat.beq n k):=rfl;rw[h];cases hb:Nat.beq n k with|true=>rw[ar (oA hb)]|false=>rw[aq (by rintro rfl;simp at hb)]
def rO(e:En)(k:Nat)(x:HV)(j:Nat):look (e.qw k x) j=if j=k then some x else look e j:=by
 induction e with
 |nil=>
  have h:En.qw .nil k x=.cons k x .nil:=rfl;rw[h,ei];by_cases b:j=k
  .rw[ar b,ar b.symm]
  rw[aq b,aq (λe=>b e.symm)]
 |cons n v r ih=>
  have h:En.qw (.cons n v r) k x=Bool.rec (.cons n v (r.qw k x)) (.cons n x r) (Nat.beq n k):=rfl;rw[h];cases hb:Nat.beq n k with
  |true=>
   have:=oA hb;subst this;simp only[ei];by_cases b:j=n
   .simp[b]
   have c:¬n=j:=λe=>b e.symm
   simp[b,c]
  |false=>
   have d:n≠k:=by rintro rfl;simp at hb
   simp only[ei,ih];by_cases b:j=k
   .subst b;rw[aq d,ar rfl,ar rfl]
   simp[b]
def oR(e:En)(d:bG)(v:HV)(j:Nat):look (e.put d v) j=if d=some j then some v else look e j:=by cases d with|none=>simp[En.put]|some n=>have:e.put (some n) v=.cons n v e:=rfl;rw[this,ei];simp
def rP(a b:Int):nG a b=true↔a=b:=by
 cases a with
 |ofNat x=>cases b with
  |ofNat y=>
   have:nG (.ofNat x) (.ofNat y)=Nat.beq x y:=rfl;rw[this];constructor
   .intro h;rw[oA h]
   intro h;cases h;exact qT x
  |negSucc y=>have:nG (.ofNat x) (.negSucc y)=false:=rfl;rw[this];simp
 |negSucc x=>cases b with|ofNat y=>have:nG (.negSucc x) (.ofNat y)=false:=rfl;rw[this];simp|negSucc y=>
   have:nG (.negSucc x) (.negSucc y)=Nat.beq x y:=rfl;rw[this];constructor
   .intro h;rw[oA h]
   intro h;cases h;exact qT x
def vK(a b:Int):nG a b=decide (a=b):=by
 by_cases h:a=b
 .rw[(rP a b).2 h];simp[h]
 cases c:nG a b with|true=>exact absurd ((rP a b).1 c) h|false=>simp[h]
def Bf(a b:Int):kJ a b=decide (a<=b):=by
 cases a with
 |ofNat x=>cases b with
  |ofNat y=>
   have:kJ (.ofNat x) (.ofNat y)=Nat.ble x y:=rfl;rw[this];by_cases h:x<=y
   .rw[Af h];simp[h]
   have:Nat.ble x y=false:=by cases c:Nat.ble x y with|true=>exact absurd (ED c) h|false=>rfl
   rw[this];simp;omega
  |negSucc y=>have:kJ (.ofNat x) (.negSucc y)=false:=rfl;rw[this];simp;omega
 |negSucc x=>cases b with|ofNat y=>have:kJ (.negSucc x) (.ofNat y)=true:=rfl;rw[this];simp;omega|negSucc y=>
   have:kJ (.negSucc x) (.negSucc y)=Nat.ble y x:=rfl;rw[this];by_cases h:y<=x
   .rw[Af h];simp;omega
   have:Nat.ble y x=false:=by cases c:Nat.ble y x with|true=>exact absurd (ED c) h|false=>rfl
   rw[this];simp;omega
def oS:∀(a b:ay),qx a b=true↔a=b:=by
 intro a
 induction a with
 |nil=>intro b;cases b<;>simp[qx]
 |cons x a c=>intro b;cases b with|nil=>simp[qx]|cons y b=>
   simp only[qx,aL,c,qU];constructor
   .rintro⟨h,rfl⟩;exact⟨oA h,rfl⟩
   rintro⟨rfl,rfl⟩;exact⟨qT x,rfl⟩
def Ma(a b:Int):wC a b=a+b:=by unfold wC;split<;>rfl
def Mb(a b:Int):Jb a b=a-b:=by
 unfold Jb
 split
 .rename_i x y;cases h:Nat.ble y x with|true=>have:=ED h;simp only[cond_true];show(Int.ofNat (x-y))=_;simp;omega|false=>
   have:¬y<=x:=λc=>by rw[Af c]at h;cases h
   simp only[cond_false];show Int.negSucc (y-(x+1))=_;simp;omega
 rfl
def eb(s:ByteArray):ay:=s.data.toList.map UInt8.toNat
def Bg:HV->Value->Bool
 |.int k n,.int c d=>k==c&&n==d
 |.bool b,.bool f=>b==f
 |.str l,.string s=>eb s==l
 |.ai,.slice none 0 0=>true
 |.dZ,.pointer none=>true
 |.gU,.nilFunc=>true
 |.fV,.map none=>true
 |.gj,.nilIface=>true
 |_,_=>false
def iX:ak->List Value->Bool
 |[],[]=>true
 |x::r,y::s=>Bg x y&&iX r s
 |_,_=>false
def cZ:X->Operand->Bool
 |.t n,.tmp m=>n==m
 |.k (.fn g [] []),.func h=>g==h
 |.k v,.const u=>Bg v u
 |_,_=>false
def fM:List X->List Operand->Bool
 |[],[]=>true
 |x::r,y::s=>cZ x y&&fM r s
 |_,_=>false
def qE:Option X->Option Operand->Bool
 |none,none=>true
 |some x,some y=>cZ x y
 |_,_=>false
def dK(P:Program)(t:TypeId):Option Bool:=match P.underlying t with|some (.struct _)|some (.array _ _)=>some true|some _=>some false|none=>none
def dI(P:Program)(t:TypeId):bG:=(P.info? t).map (·.size)
def rQ(P:Program)(t:TypeId)(z:ak):Bool:=match(P.info? t).bind (·.zero)with|some v=>iX z v.cells.toList|none=>false
def oT(P:Program)(t:TypeId)(bx:Nat):Bool:=match P.info? t with|some i=>decide (bx*i.bytes<=140737488355328)&&decide (bx<=140737488355328)|none=>false
def U5(P:Program)(t:TypeId)(n:Nat):Bool:=match(P.info? t).bind (·.zero)with|some z=>z.cells.size==n|none=>false
def oB(P:Program)(t:TypeId):Option TypeId:=match P.underlying t with|some (.slice e)=>some e|_=>none
def sX(P:Program)(g:TypeId->Option ay):List Field->Nat->Option ay
 |[],_=>some []
 |f::r,b=>if f.name != "_" &&f.offset==b then(match g f.type with
   |some l=>if dI P f.type==some l.length then(match sX P g r (b+l.length)with|some m=>some (l++m)|none=>none)else none
   |none=>none)else none
def eY(P:Program):Nat->TypeId->Option ay
 |0,_=>none
 |d+1,t=>match P.underlying t with|some (.int _)=>some [0]|some .bool=>some [1]|some .string=>some [2]|some (.struct b)=>if P.stoodInHeld t then none else sX P (eY P d) b.toList 0|_=>none
def eY.wG(P:Program)(d:Nat)(l:List Field)(bo:Nat):Option ay:=sX P (eY P d) l bo
def nH(P:Program)(K:Kd)(t:TypeId):Bool:=eY P 8 t==some K.ks&&dK P t==some K.ag
def eK(P:Program)(c:List Value):Nat->List Field->List Pc->List (Nat×Operand)->Nat->Bool
 |_,[],[],[],_=>true
 |i,f::d,.z z::g,l,b=>f.offset==b&&dI P f.type==some z.length&&iX z ((c.drop b).take z.length)&&eK P c (i+1) d g l (b+z.length)
 |i,f::d,.x o n::g,(j,y)::l,b=>f.offset==b&&dI P f.type==some n&&i==j&&cZ o y&&eK P c (i+1) d g l (b+n)
 |_,_,_,_,_=>false
def sY:List Pc->Nat
 |[]=>0
 |.z z::r=>z.length+sY r
 |.x _ n::r=>n+sY r
def bb(P:Program):lO->Op->Bool
 |.mv x,.move y=>cZ x y
 |.mv x,.assign y=>cZ x y
 |.pick c a b,.pick N a' b'=>cZ c N&&cZ a a'&&cZ b b'
 |.alloc z,.alloc t=>rQ P t z
 |.alb t z,.alloc t'=>t==t'&&rQ P t z
 |.box x,.box _ y=>cZ x y
 |.fbx x,.box _ y=>cZ x y
 |.bsl d q,.buildSlice t n B=>(match oB P t with|some E=>dI P E==some d&&decide (n*d<=16777216)&&((P.info? E).bind (·.zero)).isSome|none=>false)&&n==q.length&&B.toList.map (·.1)==List.range n&&fM q (B.toList.map (·.2))
 |.fbl d q,.buildSlice t n B=>(match oB P t with|some E=>dI P E==some d&&decide (n*d<=16777216)&&((P.info? E).bind (·.zero)).isSome|none=>false)&&n==q.length&&B.toList.map (·.1)==List.range n&&fM q (B.toList.map (·.2))
 |.build B,.build t l=>(match P.underlying t with|some (.struct I)=>(match(P.info? t).bind (·.zero)with|some z=>eK P z.cells.toList 0 I.toList B l.toList 0&&decide (z.cells.size=sY B)|none=>false)|_=>false)
 |.ld x none,.load t y=>cZ x y&&dK P t==some false
 |.ld x (some n),.load t y=>cZ x y&&dK P t==some true&&dI P t==some n
 |.st n x v,.store t y u=>cZ x y&&cZ v u&&dI P t==some n
 |.fa x O,.fieldAddr t y i=>cZ x y&&(match P.underlying t with|some (.struct I)=>(match I[i]?with|some f=>f.offset==O&&(match dI P f.type with|some n=>n != 0|none=>false)|none=>false)|_=>false)
 |.ia x i d,.indexAddr t y j=>cZ x y&&cZ i j&&(match oB P t with|some E=>dI P E==some d|none=>false)
 |.idx x i,.index t y j=>cZ x y&&cZ i j&&(match P.underlying t with|some .string=>true|_=>false)
 |.len k x,.call c=>(match c.callee with|.builtin .len=>true|_=>false)&&(match c.args.toList,c.argTypes.toList with|[y],[t]=>cZ x y&&(match k,P.underlying t with|0,some (.slice _)=>true|1,some .string=>true|2,some (.map _ _)=>true|_,_=>false)|_,_=>false)
 |.bin bl op x y,.binOp D t h p _=>op==D&&cZ x h&&cZ y p&&(match P.underlying t with|some .bool=>bl|some (.int _)|some .string=> !bl|_=>false)
 |.un op x,.unOp D _ y=>op==D&&cZ x y
 |.ext x i,.extract y j=>cZ x y&&i==j
 |.cnv k x,.convert s t y=>cZ x y&&(match P.underlying s,P.underlying t with|some _,some (.int r)=>k==r|_,_=>false)
 |.nck x,.nilCheck y=>cZ x y
 |.mm m x y,.call c=>(match c.callee with|.builtin .max=>m|.builtin .min=> !m|_=>false)&&fM [x,y] c.args.toList
 |.mkf g I J,.makeFunc (.func g') Q V=>g==g'&&fM I Q.toList&&fM J V.toList
 |.app d o W x y,.call c=>(match c.callee with|.builtin .append=>true|_=>false)&&fM [x,y] c.args.toList&&(match c.argTypes.toList with
   |[t,u]=>(match oB P t with|some E=>dI P E==some d&&oT P E o&&U5 P E d&&(match W with|some F=>E==F|none=>true)|none=>false)&&(match P.underlying u with|some (.slice _)=>true|_=>false)
   |_=>false)
 |.aps o W x y,.call c=>(match c.callee with|.builtin .append=>true|_=>false)&&fM [x,y] c.args.toList&&(match c.argTypes.toList with
   |[t,u]=>(match oB P t with|some E=>dI P E==some 1&&oT P E o&&U5 P E 1&&(match W with|some F=>E==F|none=>true)|none=>false)&&(match P.underlying u with|some .string=>true|_=>false)
   |_=>false)
 |.mks d o z l c,.makeSlice t l' N=>cZ l l'&&cZ c N&&(match oB P t with|some E=>dI P E==some d&&oT P E o&&rQ P E z&&z.length==d&&decide (o<=9223372036854775807)|none=>false)
 |.mkm,.makeMap _ none=>true
 |.lkp K m k z ok,.lookup t A r X=>cZ m A&&cZ k r&&ok==X&&(match P.underlying t with|some (.map T E)=>nH P K T&&(match(P.info? E).bind (·.zero)with|some (.agg J)=>(match z with|.agg l=>iX l J.toList|_=>false)|some v=>Bg z v|none=>false)|_=>false)
 |.mup K m k v,.mapUpdate t A r L=>cZ m A&&cZ k r&&cZ v L&&(match P.underlying t with|some (.map T _)=>nH P K T|_=>false)
 |.mup K m k v,.insert t A r L=>cZ m A&&cZ k r&&cZ v L&&(match P.underlying t with|some (.map T _)=>nH P K T|_=>false)
 |.men K m k z,.mapEntry t A r=>cZ m A&&cZ k r&&(match P.underlying t with|some (.map T E)=>nH P K T&&(match(P.info? E).bind (·.zero)with|some (.agg J)=>(match z with|.agg l=>iX l J.toList|_=>false)|some v=>Bg z v|none=>false)|_=>false)
 |.mes m i v,.entryStore _ A i' L=>cZ m A&&cZ i i'&&cZ v L
 |.eqs K neg x y,.binOp op t h p _=>cZ x h&&cZ y p&&(match op with|.eql=> !neg|.neq=>neg|_=>false)&&nH P K t&&K.ag&& !P.eqGuardType P.depth t
 |.niq k neg x,.binOp op t h p _=>(match op with|.eql=> !neg|.neq=>neg|_=>false)&&(match k,P.underlying t with
   |0,some (.slice _)=>(cZ x h&&(match p with|.const (.slice none 0 0)=>true|_=>false))||(cZ x p&&(match h with|.const (.slice none 0 0)=>true|_=>false))
   |1,some (.map _ _)=>(cZ x h&&(match p with|.const (.map none)=>true|_=>false))||(cZ x p&&(match h with|.const (.map none)=>true|_=>false))
   |2,some (.func _ _ _)=>(cZ x h&&(match p with|.const .nilFunc=>true|_=>false))||(cZ x p&&(match h with|.const .nilFunc=>true|_=>false))
   |3,some (.pointer _)=>(cZ x h&&(match p with|.const (.pointer none)=>true|_=>false))||(cZ x p&&(match h with|.const (.pointer none)=>true|_=>false))
   |_,_=>false)
 |.slc x Y Z mx d,.slice t h G H h1=>cZ x h&&qE Y G&&qE Z H&&qE mx h1&&(match oB P t with|some E=>dI P E==some d|none=>false)
 |.sls x Y Z,.slice t h G H none=>cZ x h&&qE Y G&&qE Z H&&(match P.underlying t with|some .string=>true|_=>false)
 |.call f q,.call c=>(match c.callee with|.value (.func g)=>f==g|_=>false)&&fM q c.args.toList&&(match P.funcs[f]?with|some fn=>fn.body.isSome&&fn.name != "runtime.NumGoroutine" |none=>false)
 |.dyn x q,.call c=>(match c.callee with|.value y=>cZ x y|_=>false)&&fM q c.args.toList
 |.cis x,.convert s t y=>cZ x y&&(match P.underlying s,P.underlying t with|some (.int _),some .string=>true|_,_=>false)
 |.cbs x,.convert s t y=>cZ x y&&(match P.underlying s,P.underlying t with|some (.slice e),some .string=>(match P.underlying e with|some (.int .u8)=>true|_=>false)|_,_=>false)
 |.csb x,.convert s t y=>cZ x y&&(match P.underlying s,P.underlying t with|some .string,some (.slice e)=>(match P.underlying e with|some (.int .u8)=>true|_=>false)|_,_=>false)
 |.cpy d x y,.call c=>(match c.callee with|.builtin .copy=>true|_=>false)&&fM [x,y] c.args.toList&&(match c.argTypes.toList with
   |t::_=>(match oB P t with|some E=>dI P E==some d|none=>false)
   |_=>false)
 |.clr d z x,.call c=>(match c.callee with|.builtin .clear=>true|_=>false)&&fM [x] c.args.toList&&(match c.argTypes.toList with
   |[t]=>(match oB P t with|some E=>dI P E==some d&&rQ P E z&&z.length==d|none=>false)
   |_=>false)
 |.cvs x,.convert s t y=>cZ x y&&(match P.underlying s,P.underlying t with|some .string,some .string=>true|_,_=>false)
 |.bad,_=>true
 |.cap _,_=>true
 |_,_=>false
def EE(mA:Array Oper):Option (Nat×Bool)->Option (Nat×Bool)->Bool
 |none,none=>true
 |some (t,b),some (j,c)=>b==c&&(match mA[j]?with|some o=>o.dst==some t|none=>false)
 |_,_=>false
def U6(b:Nat):bG->Bool
 |some d=>d<b
 |none=>true
def Mc(keep outs:ay):bG->Bool
 |some d=>outs.contains d|| !keep.contains d
 |none=>true
def zE(P:Program)(b:Nat)(keep outs:ay)(mA:Array Oper)(o:aU)(go:Oper):Bool:=
 o.d==go.dst&&U6 b go.dst&&Mc keep outs go.dst&&bb P o.op go.op&&EE mA o.g go.guard
def rR(P:Program)(b:Nat)(keep outs:ay)(mA:Array Oper):List aU->List Oper->Bool
 |[],[]=>true
 |o::r,go::s=>zE P b keep outs mA o go&&rR P b keep outs mA r s
 |_,_=>false
def H5(l keep:ay):Bool:=l.all keep.contains
structure Pl where
 b:Nat
 s:Nat
abbrev Bt:=Ky->Option Pl
def dv(w:World)(b k:Nat):Option Value:=w.cell? ⟨b,k,none⟩
def iE{w:World}{b k:Nat}{cs:Array Value}{E:TypeId}{fr:Nat×Nat}(h:w.heap[b]?=some (.cells cs E fr)):dv w b k=cs[k]?:=by simp[dv,World.cell?,h]
def nI{w w':World}{b k:Nat}(h:w'.heap[b]?=w.heap[b]?):dv w' b k=dv w b k:=by simp[dv,World.cell?,h]
def lt_of_block{w:World}{b:Nat}{o:Obj}(h:w.heap[b]?=some o):b<w.heap.size:=(rS.1 h).1
def rT{w:World}{b k:Nat}{v:Value}(h:dv w b k=some v):b<w.heap.size:=by
 rcases jM b w.heap.size with c|d
 .exact c
 simp[dv,World.cell?,Array.getElem?_eq_none d]at h
def Je(fr:Nat×Nat)(n:Nat):Prop:=fr=(0,0)∨n<=fr.1
def oU(w:World)(b:Nat)(E:TypeId)(n:Nat):Prop:=∃c d,w.heap[b]?=some (.cells c E d)/\c.size=n
def Has(w:World)(b n:Nat):Prop:=∃E,oU w b E n
def HV.one:HV->Bool
 |.agg _|.bN _|.undef=>false
 |_=>true
inductive HR(β:Bt)(N:aG)(w:World):HV->Value->Prop
 |int (k n):HR β N w (.int k n) (.int k n)
 |bool (b):HR β N w (.bool b) (.bool b)
 |str (s:ByteArray):HR β N w (.str (eb s)) (.string s)
 |ai:HR β N w .ai (.slice none 0 0)
 |dZ:HR β N w .dZ (.pointer none)
 |gU:HR β N w .gU .nilFunc
 |fV:HR β N w .fV (.map none)
 |gj:HR β N w .gj .nilIface
 |undef:HR β N w .undef Go.undef
 |ptr (o:Ky) (k:Nat) (pl:Pl) (h:β o=some pl) (hk:pl.s<=k):HR β N w (.ptr o k) (.pointer (some ⟨pl.b,k-pl.s,none⟩))
 |sl (o:Ky) (bo len sz cap n:Nat) (pl:Pl) (h:β o=some pl) (hs:pl.s<=bo) (hl:len<=cap) (hb:Has w pl.b n) (hc:bo-pl.s+cap*sz<=n):
   HR β N w (.sl o bo len sz) (.slice (some ⟨pl.b,bo-pl.s,none⟩) len cap)
 |p8 (o:Ky) (bo sz:Nat) (b k:Nat):HR β N w (.sl o bo 0 sz) (.slice (some ⟨b,k,none⟩) 0 0)
 |mp (o:Ky) (pl:Pl) (h:β o=some pl):HR β N w (.mp o) (.map (some pl.b))
 |fn (f:FuncId) (fi ca:ak) (fs cps:Array Value) (h1:fs.size=fi.length) (h2:cps.size=ca.length)
   (h3:∀(i:Nat) (v:HV) (u:Value),fi[i]?=some v->fs[i]?=some u->HR β N w v u)
   (h4:∀(i:Nat) (v:HV) (u:Value),ca[i]?=some v->cps[i]?=some u->HR β N w v u):HR β N w (.fn f fi ca) (.func (.func f) fs cps)
 |jk (l:Ky) (pl:Pl) (h:β l=some pl):HR β N w (.jk l) (.func (.yield pl.b) #[] #[])
 |agg (l:ak) (cs:Array Value) (h0:∀v∈l,v.one=true) (h1:cs.size=l.length) (h2:∀(i:Nat) (v:HV) (u:Value),l[i]?=some v->cs[i]?=some u->HR β N w v u):HR β N w (.agg l) (.agg cs)
 |bN (l:ak) (cs:Array Value) (h1:cs.size=l.length) (h2:∀(i:Nat) (v:HV) (u:Value),l[i]?=some v->cs[i]?=some u->HR β N w v u):HR β N w (.bN l) (.tuple cs)
 |psl0 (A:Option Addr) (cap:Nat) (hn:A=none->cap=0):HR β N w (.psl []) (.slice A 0 cap)
 |psl (au:aR) (b o cap sz:Nat) (g:Nat->Nat->Value) (hN:¬N b) (hlt:b<w.heap.size) (hcap:au.length<=cap)
   (hsz:∀(i:Nat) (row:ak),au[i]?=some row->row.length=sz) (h0:∀row∈au,∀v∈row,v.one=true)
   (hc:∀i j,i<au.length->j<sz->dv w b (o+(i*sz+j))=some (g i j))
   (hv:∀(i:Nat) (row:ak) (j:Nat) (a:HV),au[i]?=some row->row[j]?=some a->HR β N w a (g i j)):
   HR β N w (.psl au) (.slice (some ⟨b,o,none⟩) au.length cap)
 |ax (cells:ak) (b o:Nat) (g:Nat->Value) (h0:∀v∈cells,v.one=true) (hN:¬N b) (hlt:b<w.heap.size)
   (hc:∀j,j<cells.length->dv w b (o+j)=some (g j))
   (hv:∀(j:Nat) (a:HV),cells[j]?=some a->HR β N w a (g j)):
   HR β N w (.ax cells) (.pointer (some ⟨b,o,none⟩))
structure cD(N:aG)(w w':World):Prop where
 size:w.heap.size<=w'.heap.size
 same:∀b,b<w.heap.size->¬N b->w'.heap[b]?=w.heap[b]?
 has:∀b E n,oU w b E n->oU w' b E n
def cD.refl(N:aG)(w:World):cD N w w:=⟨aY _,λ_ _ _=>rfl,λ_ _ _ h=>h⟩
def cD.cell{N:aG}{w w':World}{b k:Nat}{v:Value}(h:cD N w w')(d:¬N b)(c:dv w b k=some v):dv w' b k=some v:=by rw[nI (h.same b (rT c) d)];exact c
def gY(c N:aG)(w:World):Prop:=∀b,b<w.heap.size->c b->N b
def gY.refl(N:aG)(w:World):gY N N w:=λ_ _ h=>h
def Bt.le(β b:Bt):Prop:=∀o pl,β o=some pl->b o=some pl
def Bt.le_refl(β:Bt):β.le β:=λ_ _ h=>h
def Bt.le_trans{a b c:Bt}(h:a.le b)(d:b.le c):a.le c:=λo pl x=>d o pl (h o pl x)
def HR.keep{β Q:Bt}{N T:aG}{w w':World}(B:β.le Q)(V:gY T N w)(q:cD N w w'){v:HV}{u:Value}(h:HR β N w v u):HR Q T w' v u:=by induction h with|int k n=>exact .int k n|bool b=>exact .bool b|str s=>exact .str s|ai=>exact .ai|dZ=>exact .dZ|gU=>exact .gU|fV=>exact .fV|gj=>exact .gj|undef=>exact .undef|ptr o k pl h D=>exact .ptr o k pl (B _ _ h) D|sl o m len r cap n pl h W X Y t=>exact .sl o m len r cap n pl (B _ _ h) W X (let⟨E,Z⟩:=Y;⟨E,q.has _ _ _ Z⟩) t|p8 o m r b k=>exact .p8 o m r b k|mp o pl h=>exact .mp o pl (B _ _ h)|fn f fi ca fs F y h2 _ _ G H=>exact .fn f fi ca fs F y h2 G H|jk l pl h=>exact .jk l pl (B _ _ h)|agg l I h0 y _ p=>exact .agg l I h0 y p|bN l I y _ p=>exact .bN l I y p|psl0 A cap hn=>exact .psl0 A cap hn|psl J b o cap r g c d z L h0 t hv p=>exact .psl J b o cap r g (λx=>c (V b d x)) (ej d q.size) z L h0 (λi j hi O=>q.cell c (t i j hi O)) p|ax cells b o g h0 c d t hv p=>exact .ax cells b o g h0 (λx=>c (V b d x)) (ej d q.size) (λj O=>q.cell c (t j O)) p
def eS(β:Bt)(N:aG)(w:World)(l:ak)(vs:List Value):Prop:=vs.length=l.length/\∀(j:Nat) (v:HV) (u:Value),l[j]?=some v->vs[j]?=some u->HR β N w v u
def eS.keep{β b:Bt}{N c:aG}{w w':World}(d:β.le b)(f:gY c N w)(g:cD N w w'){l:ak}{vs:List Value}(h:eS β N w l vs):eS b c w' l vs:=
 ⟨h.1,λj v u i k=>(h.2 j v u i k).keep d f g⟩
def eS.nil{β:Bt}{N:aG}{w:World}:eS β N w [] []:=⟨rfl,by simp⟩
def eS.cons{β:Bt}{N:aG}{w:World}{v:HV}{u:Value}{l:ak}{f:List Value}(h:HR β N w v u)(g:eS β N w l f):eS β N w (v::l) (u::f):=by refine⟨by simp[g.1],λj a b c d=>?_⟩;cases j with|zero=>simp at c d;subst c;subst d;exact h|succ j=>exact g.2 j a b (by simpa using c) (by simpa using d)
def eS.append{β:Bt}{N:aG}{w:World}{l l':ak}{vs b:List Value}(h:eS β N w l vs)(g:eS β N w l' b):eS β N w (l++l') (vs++b):=by
 refine⟨by simp[h.1,g.1],λj p u d f=>?_⟩;rcases jM j l.length with c|c
 .rw[ek c]at d;rw[ek (by rw[h.1];exact c)]at f;exact h.2 j p u d f
 rw[gu c]at d;rw[gu (by rw[h.1];exact c),h.1]at f;exact g.2 _ p u d f
def eS.split{β:Bt}{N:aG}{w:World}{v:HV}{l:ak}{vs:List Value}(h:eS β N w (v::l) vs):∃u c,vs=u::c/\HR β N w v u/\eS β N w l c:=by cases vs with|nil=>have:=h.1;simp at this|cons u c=>refine⟨u,c,rfl,h.2 0 v u rfl rfl,by have:=h.1;simpa using this,λj a b d f=>h.2 (j+1) a b (by simpa using d) (by simpa using f)⟩
def iG(s:HS)(β:Bt)(b:Nat):Prop:=∃o ob pl,ao s.h o=some ob/\β o=some pl/\pl.b=b
def Live(M:aG)(s:HS)(β:Bt)(b:Nat):Prop:=M b∨iG s β b
variable{M:aG}
def nJ(β:Bt)(N:aG)(w:World)(keep:ay)(e:En)(tm:Array Value):Prop:=∀t v,look e t=some v->t∈keep/\HR β N w v (tm.getD t Go.undef)
def nJ.keep{β b:Bt}{N c:aG}{w w':World}{keep:ay}{e:En}{tm:Array Value}(f:β.le b)(g:gY c N w)(i:cD N w w')(h:nJ β N w keep e tm):nJ b c w' keep e tm:=
 λt v d=>⟨(h t v d).1,(h t v d).2.keep f g i⟩
def V1:Nat->LoopState
 |0=>.ready
 |2=>.busy
 |_=>.done
def EF:Option HC->Option (Option Code)
 |none=>some none
 |some .ret=>some (some .ret)
 |some (.exit i)=>some (some (.exit i))
 |_=>none
structure eT where
 rel:Nat->ay->HC->Code->Prop
 fx:Nat->Option Obj
inductive CV(C:eT)(β:Bt)(N:aG)(w:World)(pl:Pl):Ob->Prop
 |cells (t:Tr HV) (lo hi:Nat) (g:Ky) (cs:Array Value) (E:TypeId) (fr:Nat×Nat) (hs:pl.s<=lo) (hb:w.heap[pl.b]?=some (.cells cs E fr)) (hf:Je fr cs.size) (hn:hi-pl.s<=cs.size)
   (hc:∀k v,lo<=k->k<hi->fP t k=some v->v.one=true/\∃u,cs[k-pl.s]?=some u/\HR β N w v u):CV C β N w pl (.cells t lo hi g)
 |mp (es:List (HV×HV)) (LP:Array MapEntry) (hb:w.heap[pl.b]?=some (.map LP es.length)) (hn:LP.size=es.length)
   (hc:∀(i:Nat) (k v:HV),es[i]?=some (k,v)->∃e,LP[i]?=some e/\HR β N w k e.key/\HR β N w v e.val/\e.born=i):CV C β N w pl (.mp es)
 |loop (st:Nat) (wB:Option HC) (tm:En) (ps:ay) (jl body:HC) (r:Loop) (nt:Nat) (keep:ay) (hb:w.heap[pl.b]?=some (.loop r)) (qz:r.state=V1 st) (hp:EF wB=some r.pending)
   (htm:nJ β N w keep tm r.tmps) (hnt:r.tmps.size=nt) (hps:r.params.toList=ps) (hk:∀p∈ps,p∈keep/\p<nt) (hnd:ps.Nodup) (ha:C.rel nt keep jl r.assign) (hbd:C.rel nt keep body r.body):CV C β N w pl (.loop st wB tm ps jl body)
def CV.keep{C:eT}{β L:Bt}{N O:aG}{w w':World}(m:β.le L)(n:gY O N w)(o:cD N w w'){pl:Pl}(f:w'.heap[pl.b]?=w.heap[pl.b]?){ob:Ob}(h:CV C β N w pl ob):CV C L O w' pl ob:=by cases h with|cells t Q p g T E V W j X x y=>exact .cells t Q p g T E V W (f.trans j) X x λk v Y Z h3=>let⟨q,u,a,b⟩:=y k v Y Z h3;⟨q,u,a,b.keep m n o⟩|mp es z j x y=>exact .mp es z (f.trans j) x λi k v p=>let⟨e,a,b,c,d⟩:=y i k v p;⟨e,a,b.keep m n o,c.keep m n o,d⟩|loop st l tm ps A body r nt keep j B hp D F G H I ha J=>exact .loop st l tm ps A body r nt keep (f.trans j) B hp (D.keep m n o) F G H I ha J
def zG(w:World)(b:Nat)(E:TypeId)(n:Nat):Prop:=∃m,oU w b E m/\(n=0∨m=n)
structure cf(M:aG)(C:eT)(β:Bt)(s:HS)(w:World):Prop where
 lt:∀o pl,β o=some pl->o.toNat<s.nx.toNat/\pl.b<w.heap.size
 obj:∀o ob,ao s.h o=some ob->∃pl,β o=some pl/\CV C β (Live M s β) w pl ob
 apart:∀o o' ob kB pl pl',ao s.h o=some ob->ao s.h o'=some kB->β o=some pl->β o'=some pl'->o≠o'->pl.b=pl'.b->
  pl.s=pl'.s/\∃t lo hi g t' lo' hi',ob=.cells t lo hi g/\kB=.cells t' lo' hi' g
 qV:∀o t lo hi g,ao s.h o=some (.cells t lo hi g)->∃ms,ao s.gr g=some ms/\o∈ms
 vr:∀g ms,ao s.gr g=some ms->g.toNat<s.nx.toNat
 mlt:∀b,M b->b<w.heap.size
 sR:∀b,M b->¬iG s β b
 zH:∀o E n,ao s.ty o=some (E,n)->∃pl,β o=some pl/\zG w pl.b E n/\(n≠0->pl.s=0)
def zG.keep{N:aG}{w w':World}(c:cD N w w'){b:Nat}{E:TypeId}{n:Nat}(h:zG w b E n):zG w' b E n:=let⟨m,d,f⟩:=h;⟨m,c.has _ _ _ d,f⟩
def Live.lt{C:eT}{β:Bt}{s:HS}{w:World}(h:cf M C β s w){b:Nat}(c:Live M s β b):b<w.heap.size:=by
 rcases c with d|⟨o,ob,pl,_,f,rfl⟩
 .exact h.mlt b d
 exact(h.lt o pl f).2
structure Ext(M:aG)(β:Bt)(s:HS)(w:World)(β':Bt)(s':HS)(w':World):Prop where
 le:β.le β'
 keeps:cD (Live M s β) w w'
 less:gY (Live M s' β') (Live M s β) w
 os:w'.os=w.os
 tape:w'.tape=w.tape
 output:w'.output=w.output
 loops:∀(b:Nat) (r:Loop),w.heap[b]?=some (.loop r)->∃r',w'.heap[b]?=some (.loop r')
 nx:s.nx.toNat<=s'.nx.toNat
 oV:∀b,M b->w'.heap[b]?=w.heap[b]?
def Ext.refl(β:Bt)(s:HS)(w:World):Ext M β s w β s w:=⟨Bt.le_refl _,cD.refl _ _,gY.refl _ _,rfl,rfl,rfl,λ_ r h=>⟨r,h⟩,aY _,λ_ _=>rfl⟩
def Ext.trans{β β' c:Bt}{s s' s'':HS}{w w' d:World}(h:Ext M β s w β' s' w')(k:Ext M β' s' w' c s'' d):Ext M β s w c s'' d where
 le:=Bt.le_trans h.le k.le
 keeps:=⟨fh h.keeps.size k.keeps.size,λb hb f=>(k.keeps.same b (ej hb h.keeps.size) (λx=>f (h.less b hb x))).trans (h.keeps.same b hb f),λb E n g=>k.keeps.has b E n (h.keeps.has b E n g)⟩
 less:=λb hb x=>h.less b hb (k.less b (ej hb h.keeps.size) x)
 os:=k.os.trans h.os
 tape:=k.tape.trans h.tape
 output:=k.output.trans h.output
 loops:=λb r i=>let⟨j,l⟩:=h.loops b r i;k.loops b j l
 nx:=fh h.nx k.nx
 oV:=λb hm=>(k.oV b hm).trans (h.oV b hm)
def HR.ext{β b:Bt}{s s':HS}{w w':World}(h:Ext M β s w b s' w'){v:HV}{u:Value}(c:HR β (Live M s β) w v u):HR b (Live M s' b) w' v u:=c.keep h.le h.less h.keeps
def eS.ext{β b:Bt}{s s':HS}{w w':World}(h:Ext M β s w b s' w'){v:ak}{u:List Value}(c:eS β (Live M s β) w v u):eS b (Live M s' b) w' v u:=c.keep h.le h.less h.keeps
def nJ.ext{β b:Bt}{s s':HS}{w w':World}(h:Ext M β s w b s' w'){keep:ay}{e:En}{tm:Array Value}(c:nJ β (Live M s β) w keep e tm):nJ b (Live M s' b) w' keep e tm:=c.keep h.le h.less h.keeps
def jN(C:eT)(N:aG)(w:World):Prop:=∀b o,C.fx b=some o->w.heap[b]?=some o/\¬N b
def jN.ext{C:eT}{β d:Bt}{s s':HS}{w w':World}(h:Ext M β s w d s' w')(i:jN C (Live M s β) w):jN C (Live M s' d) w':=λb o j=>by obtain⟨f,g⟩:=i b o j;have c:=lt_of_block f;exact⟨(h.keeps.same b c g).trans f,λk=>g (h.less b c k)⟩
def Jf{w:World}{x:Obj}{b n:Nat}{E:TypeId}(h:oU w b E n):oU {w with heap:=w.heap.push x} b E n:=by obtain⟨d,f,c,g⟩:=h;refine⟨d,f,?_,g⟩;have:=lt_of_block c;show(w.heap.push x)[b]?=_;rw[Jg,aq (by omega)];exact c
def gI(w:World)(x:Obj){b:Nat}(h:b<w.heap.size):({w with heap:=w.heap.push x}:World).heap[b]?=w.heap[b]?:=by show(w.heap.push x)[b]?=_;rw[Jg,aq (by omega)]
def cD.push(N:aG)(w:World)(x:Obj):cD N w {w with heap:=w.heap.push x}:=
 ⟨by simp,λb c _=>gI w x c,λ_ _ _ h=>Jf h⟩
def Ext.push{w:World}(hm:∀b,M b->b<w.heap.size)(β:Bt)(s:HS)(x:Obj):Ext M β s w β s {w with heap:=w.heap.push x} where
 le:=Bt.le_refl _
 keeps:=cD.push _ _ _
 less:=gY.refl _ _
 os:=rfl
 tape:=rfl
 output:=rfl
 loops:=λb r c=>⟨r,by rw[gI w x (lt_of_block c)];exact c⟩
 nx:=aY _
 oV:=λb hb=>gI w x (hm b hb)
def cf.push{C:eT}{β:Bt}{s:HS}{w:World}(h:cf M C β s w)(x:Obj):cf M C β s {w with heap:=w.heap.push x} where
 lt:=λo pl ho=>⟨(h.lt o pl ho).1,by have:=(h.lt o pl ho).2;simp;omega⟩
 obj:=λo ob ho=>let⟨pl,c,d⟩:=h.obj o ob ho;⟨pl,c,d.keep (Bt.le_refl _) (gY.refl _ _) (cD.push _ _ _) (gI w x (h.lt o pl c).2)⟩
 apart:=h.apart
 qV:=h.qV
 vr:=h.vr
 mlt:=λb hb=>by have:=h.mlt b hb;simp;omega
 sR:=h.sR
 zH:=λo E n ho=>let⟨pl,c,d,f⟩:=h.zH o E n ho;⟨pl,c,d.keep (cD.push (λ_=>True) w x),f⟩
def cf.drawn{C:eT}{β:Bt}{s:HS}{w:World}(h:cf M C β s w){w':World}(c:w'.heap=w.heap):cf M C β s w':=by have i:cD (Live M s β) w w':=⟨by rw[c];exact aY _,λ_ _ _=>by rw[c],λb E n ⟨j,k,d,f⟩=>⟨j,k,by rw[c];exact d,f⟩⟩;exact⟨λo pl g=>by rw[c];exact h.lt o pl g,λo ob g=>let⟨pl,d,f⟩:=h.obj o ob g;⟨pl,d,f.keep (Bt.le_refl _) (gY.refl _ _) i (by rw[c])⟩,h.apart,h.qV,h.vr,λb l=>by rw[c];exact h.mlt b l,h.sR,λo E n g=>let⟨pl,d,f,m⟩:=h.zH o E n g;⟨pl,d,f.keep i,m⟩⟩
def Ext.drawn{β:Bt}{s:HS}{w w':World}(c:w'.heap=w.heap)(d:w'.os=w.os)(f:w'.tape=w.tape)(g:w'.output=w.output):Ext M β s w β s w':=
 ⟨Bt.le_refl _,⟨by rw[c];exact aY _,λ_ _ _=>by rw[c],λb E n ⟨i,j,d,f⟩=>⟨i,j,by rw[c];exact d,f⟩⟩,gY.refl _ _,d,f,g,λ_ r h=>⟨r,by rw[c];exact h⟩,aY _,λ_ _=>by rw[c]⟩
def Bt.add(β:Bt)(o:Ky)(pl:Pl):Bt:=λk=>if k=o then some pl else β k
def Bt.kC{β:Bt}{o:Ky}{pl:Pl}(h:β o=none):β.le (β.add o pl):=λk p b=>by
 unfold Bt.add;split
 .rename_i e;subst e;rw[h]at b;cases b
 exact b
def cf.fresh{C:eT}{β:Bt}{s:HS}{w:World}(h:cf M C β s w):β s.nx=none:=by cases b:β s.nx with|none=>rfl|some pl=>exact absurd (h.lt _ _ b).1 (gR _)
def cf.dead{C:eT}{β:Bt}{s:HS}{w:World}(h:cf M C β s w):ao s.h s.nx=none:=by cases b:ao s.h s.nx with|none=>rfl|some ob=>obtain⟨pl,c,_⟩:=h.obj _ _ b;exact absurd (h.lt _ _ c).1 (gR _)
def cf.Pk{C:eT}{β:Bt}{s:HS}{w:World}(h:cf M C β s w):ao s.gr s.nx=none:=by cases b:ao s.gr s.nx with|none=>rfl|some c=>exact absurd (h.vr _ _ b) (gR _)
def cf.Jh{C:eT}{β:Bt}{s:HS}{w:World}(h:cf M C β s w){pl:Pl}{ty:Tr (Nat×Nat)}{j:Bt}(k:j=β.add s.nx pl)
  (f:ty=s.ty∨∃E n,ty=av (some (E,n)) s.nx s.ty/\zG w pl.b E n/\(n≠0->pl.s=0)):
  ∀o E n,ao ty o=some (E,n)->∃pl,j o=some pl/\zG w pl.b E n/\(n≠0->pl.s=0):=by
 subst k;intro o E n d;rcases f with rfl|⟨p,q,rfl,g,i⟩
 .obtain⟨c,g,i⟩:=h.zH o E n d;exact⟨c,Bt.kC h.fresh _ _ g,i⟩
 rw[af]at d;by_cases e:o=s.nx
 .rw[ar e]at d;cases d;exact⟨pl,by simp[Bt.add,e],g,i⟩
 rw[aq e]at d;obtain⟨c,l,m⟩:=h.zH o E n d;exact⟨c,Bt.kC h.fresh _ _ l,m⟩
def cf.Gt{C:eT}{β:Bt}{s:HS}{w:World}(h:cf M C β s w){b:Nat}(T:b<w.heap.size)(J:¬Live M s β b){ob:Ob}{gr:Tr cm}{ty:Tr (Nat×Nat)}(L:ty=s.ty∨∃E n,ty=av (some (E,n)) s.nx s.ty/\zG w b E n)
  (N:CV C (β.add s.nx ⟨b,0⟩) (λx=>x=b∨Live M s β x) w ⟨b,0⟩ ob)
  (V:∀o kB,ao s.h o=some kB->∃pl,β o=some pl/\CV C β (λx=>x=b∨Live M s β x) w pl kB)
  (m:(∃t r u,ob=.cells t r u s.nx/\gr=av (some [s.nx]) s.nx s.gr)∨((∀t r u g,ob≠ .cells t r u g)/\gr=s.gr)):
  cf M C (β.add s.nx ⟨b,0⟩) {h:=av (some ob) s.nx s.h,nx:=s.nx.succ,gr:=gr,ty:=ty} w:=by
 have k:=h.fresh;have hle:β.le (β.add s.nx ⟨b,0⟩):=Bt.kC k;have j:∀x,Live M {h:=av (some ob) s.nx s.h,nx:=s.nx.succ,gr:=gr,ty:=ty} (β.add s.nx ⟨b,0⟩) x->x=b∨Live M s β x:=by
  rintro x (H|⟨o,kB,pl,c,d,rfl⟩)
  .exact .inr (.inl H)
  simp only[af]at c;unfold Bt.add at d;by_cases f:o=s.nx
  .simp only[f,bf,bT]at d;subst d;exact .inl rfl
  simp only[f,bp]at c d;exact .inr (.inr ⟨o,kB,pl,c,d,rfl⟩)
 refine⟨λo pl f=>?_,λo kB f=>?_,λo I z A B D c d v p F q=>?_,λo t r u g f=>?_,λg G l=>?_,h.mlt,?_,h.Jh (pl:=⟨b,0⟩) rfl (L.imp id λ⟨E,n,c,d⟩=>⟨E,n,c,d,λ_=>rfl⟩)⟩
 .unfold Bt.add at f;rw[Ky.ba];by_cases i:o=s.nx
  .simp only[i,bf,bT]at f;subst f;subst i;exact⟨by omega,T⟩
  simp only[i,bp]at f;have:=h.lt o pl f;omega
 .simp only[af]at f;by_cases i:o=s.nx
  .simp only[i,bf,bT]at f;subst f;subst i;exact⟨⟨b,0⟩,by simp[Bt.add],N.keep (Bt.le_refl _) (λx _ O=>j x O) (cD.refl _ _) rfl⟩
  simp only[i,bp]at f;obtain⟨pl,c,d⟩:=V o kB f;exact⟨pl,hle _ _ c,d.keep hle (λx _ O=>j x O) (cD.refl _ _) rfl⟩
 .simp only[af]at c d;unfold Bt.add at v p;by_cases Q:o=s.nx
  .simp only[Q,bf,bT]at c v;have y:I≠s.nx:=λy=>F (Q.trans y.symm)
   simp only[y,bp]at d p;subst v;exact absurd (.inr ⟨I,A,D,d,p,q.symm⟩) J
  simp only[Q,bp]at c v;by_cases y:I=s.nx
  .simp only[y,bf,bT]at d p;subst p;exact absurd (.inr ⟨o,z,B,c,v,q⟩) J
  simp only[y,bp]at d p;exact h.apart o I z A B D c d v p F q
 .simp only[af]at f;by_cases i:o=s.nx
  .simp only[i,bf,bT]at f;rcases m with⟨Y,W,X,c,rfl⟩|⟨c,_⟩
   .rw[c]at f;cases f;exact⟨[s.nx],by simp[af],by simp[i]⟩
   exact absurd f (c t r u g)
  simp only[i,bp]at f;obtain⟨G,c,d⟩:=h.qV o t r u g f;rcases m with⟨_,_,_,_,rfl⟩|⟨_,rfl⟩
  .refine⟨G,?_,d⟩;simp only[af];rw[aq (λe=>by subst e;rw[h.Pk]at c;cases c)];exact c
  exact⟨G,c,d⟩
 .rw[Ky.ba];rcases m with⟨_,_,_,_,rfl⟩|⟨_,rfl⟩
  .simp only[af]at l;by_cases i:g=s.nx
   .subst i;omega
   simp only[i,bp]at l;have:=h.vr g G l;omega
  have:=h.vr g G l;omega
 rintro x H ⟨o,kB,pl,c,d,rfl⟩
 simp only[af]at c;unfold Bt.add at d;by_cases f:o=s.nx
 .simp only[f,bf,bT]at d;subst d;exact J (.inl H)
 simp only[f,bp]at c d;exact h.sR _ H ⟨o,kB,pl,c,d,rfl⟩
def cf.newObj{C:eT}{β:Bt}{s:HS}{w:World}(h:cf M C β s w){x:Obj}{ob:Ob}{gr:Tr cm}{ty:Tr (Nat×Nat)}(j:ty=s.ty∨∃E n,ty=av (some (E,n)) s.nx s.ty/\zG {w with heap:=w.heap.push x} w.heap.size E n)
  (k:CV C (β.add s.nx ⟨w.heap.size,0⟩) (λb=>b=w.heap.size∨Live M s β b) {w with heap:=w.heap.push x} ⟨w.heap.size,0⟩ ob)
  (l:(∃t m p,ob=.cells t m p s.nx/\gr=av (some [s.nx]) s.nx s.gr)∨((∀t m p g,ob≠ .cells t m p g)/\gr=s.gr)):
  cf M C (β.add s.nx ⟨w.heap.size,0⟩) {h:=av (some ob) s.nx s.h,nx:=s.nx.succ,gr:=gr,ty:=ty} {w with heap:=w.heap.push x}/\
  Ext M β s w (β.add s.nx ⟨w.heap.size,0⟩) {h:=av (some ob) s.nx s.h,nx:=s.nx.succ,gr:=gr,ty:=ty} {w with heap:=w.heap.push x}:=by
 have r:¬Live M s β w.heap.size:=λu=>gR _ (Live.lt h u)
 refine⟨(h.push x).Gt (by simp) r j k (λo c i=>?_) l,?_⟩
 .obtain⟨pl,f,d⟩:=h.obj o c i;refine⟨pl,f,d.keep (Bt.le_refl _) (λb q v=>v.resolve_left (by omega)) (cD.push _ _ _) (gI w x (h.lt o pl f).2)⟩
 refine⟨Bt.kC h.fresh,cD.push _ _ _,?_,rfl,rfl,rfl,(Ext.push h.mlt β s x).loops,by rw[Ky.ba];omega,(Ext.push h.mlt β s x).oV⟩
 rintro b q (y|⟨o,c,pl,f,d,rfl⟩)
 .exact .inl y
 simp only[af]at f;unfold Bt.add at d;by_cases i:o=s.nx
 .simp only[i,bf,bT]at d;subst d;exact absurd q (gR _)
 simp only[i,bp]at f d;exact .inr ⟨o,c,pl,f,d,rfl⟩
def cf.kill{C:eT}{β:Bt}{s:HS}{w:World}(h:cf M C β s w)(o:Ky):cf M C β {h:=av none o s.h,nx:=s.nx,gr:=s.gr,ty:=s.ty} w:=by
 have m:∀b,Live M {h:=av none o s.h,nx:=s.nx,gr:=s.gr,ty:=s.ty} β b->Live M s β b:=by
  rintro b (j|⟨i,ob,pl,c,d,rfl⟩)
  .exact .inl j
  simp only[af]at c
  split at c
  .cases c
  exact .inr ⟨i,ob,pl,c,d,rfl⟩
 refine⟨h.lt,λi ob f=>?_,λa b ob k pl l c d=>?_,λi t n p g f=>?_,h.vr,h.mlt,?_,h.zH⟩
 rotate_right
 .rintro b j ⟨i,ob,pl,c,d,rfl⟩
  simp only[af]at c
  split at c
  .cases c
  exact h.sR _ j ⟨i,ob,pl,c,d,rfl⟩
 .simp only[af]at f
  split at f
  .cases f
  obtain⟨pl,c,d⟩:=h.obj i ob f;exact⟨pl,c,d.keep (Bt.le_refl _) (λb _ q=>m b q) (cD.refl _ _) rfl⟩
 .simp only[af]at c d
  split at c
  .cases c
  split at d
  .cases d
  exact h.apart a b ob k pl l c d
 simp only[af]at f
 split at f
 .cases f
 exact h.qV i t n p g f
def Ext.kill{β:Bt}{s:HS}{w:World}(o:Ky):Ext M β s w β {h:=av none o s.h,nx:=s.nx,gr:=s.gr,ty:=s.ty} w:=by
 refine⟨Bt.le_refl _,cD.refl _ _,?_,rfl,rfl,rfl,λ_ r h=>⟨r,h⟩,aY _,λ_ _=>rfl⟩
 rintro b _ (d|⟨f,ob,pl,c,g,rfl⟩)
 .exact .inl d
 simp only[af]at c
 split at c
 .cases c
 exact .inr ⟨f,ob,pl,c,g,rfl⟩
@[simp]def Ji{α β:Type}(f:α->β)(d:β):bU none f d=d:=rfl
@[simp]def dO{α β:Type}(a:α)(f:α->β)(d:β):bU (some a) f d=f a:=rfl
@[simp]def V2{β:Type}(x y:β):gP true x y=x:=rfl
@[simp]def U7{β:Type}(x y:β):gP false x y=y:=rfl
def jO{α:Type}{b:Bool}{x:Option α}{v:α}(h:gP b x none=some v):b=true/\x=some v:=by
 cases b with
 |true=>exact⟨rfl,h⟩
 |false=>cases h
def jP{α β:Type}{o:Option α}{f:α->Option β}{v:β}(h:bU o f none=some v):∃a,o=some a/\f a=some v:=by
 cases o with
 |none=>cases h
 |some a=>exact⟨a,rfl,h⟩
@[simp]def Md(s:HS):rv s none=.bad:=rfl
@[simp]def Bh(s:HS)(v:HV):rv s (some v)=.v v s:=rfl
def Gu(n:Nat)(e:En):bq (.t n) e=look e n:=rfl
def Oy(v:HV)(e:En):bq (.k v) e=some v:=rfl
def eo{a b:Nat}:Nat.ble a b=true↔a<=b:=⟨ED,Af⟩
def cp{a b:Nat}:Nat.blt a b=true↔a<b:=by unfold Nat.blt;rw[eo];rfl
def bh{a b:Nat}:Nat.beq a b=true↔a=b:=⟨oA,λh=>by subst h;exact qT a⟩
def Ob.nK{α:Type}{b:Ob}{f:Tr HV->Nat->Nat->Ky->Option α}{v:α}(h:b.vG f none=some v):∃t c d g,b=.cells t c d g/\f t c d g=some v:=by
 cases b with
 |cells t c d g=>exact⟨t,c,d,g,rfl,h⟩
 |mp i=>cases h
 |loop=>cases h
def HS.H6{s:HS}{o:Ky}{k:Nat}{v:HV}(h:s.cell o k=some v):∃t c d g,ao s.h o=some (.cells t c d g)/\c<=k/\k<d/\fP t k=some v:=by obtain⟨b,f,i⟩:=jP h;obtain⟨t,c,d,g,rfl,j⟩:=Ob.nK i;obtain⟨l,m⟩:=jO j;obtain⟨n,p⟩:=jO m;exact⟨t,c,d,g,f,eo.1 l,cp.1 n,p⟩
def HS.kK{s:HS}{o:Ky}{k n:Nat}{l:ak}(h:s.bE o k n=some l):∃t c d g,ao s.h o=some (.cells t c d g)/\c<=k/\k+n<=d/\l.length=n/\∀i,i<n->fP t (k+i)=l[i]?:=by obtain⟨b,f,j⟩:=jP h;obtain⟨t,c,d,g,rfl,m⟩:=Ob.nK j;obtain⟨p,q⟩:=jO m;obtain⟨r,u⟩:=jO q;obtain⟨v,x⟩:=H4 u;exact⟨t,c,d,g,f,eo.1 p,eo.1 r,v,x⟩
def jQ{α:Type}:∀(n:Nat) (l:List α),gQ n l=l.take n
 |0,_=>by simp[gQ]
 |_+1,[]=>by simp[gQ]
 |n+1,x::r=>by simp[gQ,jQ n r]
def mE{α:Type}:∀(n:Nat) (l:List α),iB n l=l.drop n
 |0,_=>by simp[iB]
 |_+1,[]=>by simp[iB]
 |n+1,x::r=>by simp[iB,mE n r]
section sound
variable{M:aG}{C:eT}{P:Program}{β:Bt}{s:HS}{w:World}{e:En}{a:Act}
def dL(β:Bt)(N:aG)(w:World)(e:En)(a:Act):Prop:=∀t v,look e t=some v->HR β N w v (a.tmps.getD t Go.undef)
def dL.ext{b:Bt}{s':HS}{w':World}(h:Ext M β s w b s' w')(c:dL β (Live M s β) w e a):dL b (Live M s' b) w' e a:=λt v d=>(c t v d).ext h
def nL{v:HV}{u:Value}(h:Bg v u=true)(β:Bt)(N:aG)(w:World):HR β N w v u:=by
 unfold Bg at h
 split at h
 .simp only[aL,bZ]at h;obtain⟨rfl,rfl⟩:=h;exact .int _ _
 .simp only[bZ]at h;subst h;exact .bool _
 .simp only[bZ]at h;subst h;exact .str _
 .exact .ai
 .exact .dZ
 .exact .gU
 .exact .fV
 .exact .gj
 cases h
def dJ:∀{l:ak} {b:List Value} (_:iX l b=true) (β:Bt) (N:aG) (w:World),eS β N w l b
 |[],[],_,_,_,_=>.nil
 |_::_,_::_,h,β,N,w=>by simp only[iX,aL]at h;exact .cons (nL h.1 β N w) (dJ h.2 β N w)
 |[],_::_,h,_,_,_=>by simp[iX]at h
 |_::_,[],h,_,_,_=>by simp[iX]at h
def aH(i:dL β (Live M s β) w e a){x:X}{y:Operand}(b:cZ x y=true){v:HV}(f:bq x e=some v):HR β (Live M s β) w v (a.eval y):=by
 cases x with
 |t n=>cases y<;>simp only[cZ,cy,bZ]at b;subst b;exact i _ _ f
 |k c=>
  rw[Oy]at f;cases f;unfold cZ at b
  split at b
  .rename_i d;cases d
  .rename_i g h d;have:=bZ.1 b;subst this;cases d;exact .fn _ [] [] #[] #[] rfl rfl (by simp) (by simp)
  .rename_i d;cases d;exact nL b _ _ _
  cases b
def p9(x:X)(r:List X)(e:En):gp (x::r) e=(bq x e).bind λv=>(gp r e).bind λl=>some (v::l):=by
 have h:gp (x::r) e=Option.rec (motive:=λ_=>Option ak) none (λv=>Option.rec (motive:=λ_=>Option ak) none (λl=>some (v::l)) (gp r e)) (bq x e):=rfl;rw[h];cases bq x e with
 |none=>rfl
 |some v=>cases gp r e<;>rfl
def la(d:dL β (Live M s β) w e a):∀{xs:List X} {ys:List Operand} (_:fM xs ys=true) {l:ak} (_:gp xs e=some l),eS β (Live M s β) w l (ys.map a.eval):=by
 intro xs
 induction xs with
 |nil=>
  intro ys b l c;cases ys with
  |nil=>have:gp [] e=some []:=rfl;rw[this]at c;cases c;exact .nil
  |cons y r=>simp[fM]at b
 |cons x r f=>intro ys b l c;cases ys with|nil=>simp[fM]at b|cons y t=>simp only[fM,aL]at b;rw[p9]at c;simp only[mG,bT]at c;obtain⟨v,g,m,h,rfl⟩:=c;exact .cons (aH d b.1 g) (f b.2 h)
def cv(M:aG)(C:eT)(P:Program)(β:Bt)(s:HS)(w:World)(a:Act)(go:Oper):da->Prop
 |.v v s'=>∃u d g,((execOp a.eval go).run P w=.ok (.value u) d∨((execOp a.eval go).run P w=.ok .skip d/\u=Go.undef))/\cf M C g s' d/\Ext M β s w g s' d/\HR g (Live M s' g) d v u
 |.call f args=>∃c:List Value,(execOp a.eval go).run P w=.ok (.enter f c.toArray) w/\eS β (Live M s β) w args c
 |.round l args=>∃(pl:Pl) (c:List Value),β l=some pl/\eS β (Live M s β) w args c/\∀r:Loop,w.heap[pl.b]?=some (.loop r)->r.params.size=c.length->
   (execOp a.eval go).run P w=.ok (.round pl.b r.fn ((r.params.zip c.toArray).foldl (λtmps (t,x)=>tmps.setIfInBounds t x) r.tmps) r.assign r.body) w
 |.bad=>True
def cv.val{go:Oper}{v:HV}{u:Value}(b:cf M C β s w)(h:(execOp a.eval go).run P w=.ok (.value u) w)(c:HR β (Live M s β) w v u):cv M C P β s w a go (.v v s):=
 ⟨u,w,β,.inl h,b,Ext.refl _ _ _,c⟩
def HR.one{N:aG}{v:HV}{u:Value}(h:HR β N w v u)(b:v.one=true):u.oneCell'=true:=by cases h<;>first|rfl|(simp[HV.one]at b)
def HR.single{N:aG}{v:HV}{u:Value}(h:HR β N w v u)(b:v.one=true):u.cells= #[u]:=by cases h<;>first|rfl|(simp[HV.one]at b)
def zI{v:HV}{l:ak}(h:cellsOf v=some l):(v.one=true/\l=[v])∨v=.agg l:=by
 cases v<;>first
  |(have:some _=some l:=h;cases this;exact .inl ⟨rfl,rfl⟩)
  |(have:some _=some l:=h;cases this;exact .inr rfl)
  |cases h
def HR.cells{N:aG}{v:HV}{u:Value}(h:HR β N w v u){l:ak}(c:cellsOf v=some l):eS β N w l u.cells.toList/\∀x∈l,x.one=true:=by
 rcases zI c with⟨b,rfl⟩|rfl
 .rw[h.single b];exact⟨.cons h .nil,by simpa using b⟩
 cases h with|agg _ i h0 b d=>exact⟨⟨by simpa[Value.cells]using b,λj x y f g=>d j x y f (by simpa[Value.cells]using g)⟩,h0⟩
def eS.Bi{N:aG}{l:ak}{c:List Value}(h:eS β N w l c)(f:∀x∈l,x.one=true):∀u∈c,u.oneCell'=true:=by
 intro u g;obtain⟨i,d,rfl⟩:=oW g;have b:i<l.length:=by rw[<-h.1];exact d
 exact(h.2 i l[i] c[i] (aO b) (aO d)).one (f _ (bX b))
def kS{t:TypeId}{q:Bool}(b:dK P t=some q):(isAgg t).run P w=.ok q w:=by
 unfold dK at b;unfold isAgg underlying;cases c:P.underlying t with
 |none=>simp[c]at b
 |some d=>simp only[c]at b;cases d<;>simp at b<;>subst b<;>simp[c]
def gf{t:TypeId}{n:Nat}(b:dI P t=some n):(sizeOf t).run P w=.ok n w:=by unfold dI at b;unfold sizeOf typeInfo;cases c:P.info? t with|none=>simp[c]at b|some d=>simp[c]at b;simp[c,b]
def iH{t E:TypeId}(b:oB P t=some E):P.underlying t=some (.slice E):=by
 unfold oB at b
 split at b
 .cases b;assumption
 cases b
def gw(b k j:Nat):Addr.add ⟨b,k,none⟩ j=⟨b,k+j,none⟩:=by
 unfold Addr.add
 split
 .rename_i h;subst h;rfl
 rfl
def run_loadCellsFrom(P:Program)(w:World)(b o:Nat):∀(n i:Nat) (c:Array Value) (g:Nat->Value),(∀j,j<n->dv w b (o+(i+j))=some (g j))->
  (loadCellsFrom ⟨b,o,none⟩ i n c).run P w=.ok (c++Array.ofFn (n:=n) λj=>g j) w:=by
 intro n
 induction n with
 |zero=>intro i c g _;simp[loadCellsFrom]
 |succ n f=>
  intro i c g d;have h0:=d 0 (by omega);simp only[fR,dv]at h0;simp only[loadCellsFrom,Sem.run_bind,run_load,gw,h0,Result.andThen_ok];rw[f (i+1) (c.push (g 0)) (λj=>g (j+1)) λj h=>by have:=d (j+1) (by omega);rw[show i+1+j=i+(j+1) by omega];exact this]
  congr 1
  apply sZ;simp[List.ofFn_succ]
def run_loadCells(P:Program)(w:World)(b o n:Nat)(g:Nat->Value)(c:∀j,j<n->dv w b (o+j)=some (g j)):(loadCells ⟨b,o,none⟩ n).run P w=.ok (Array.ofFn (n:=n) λj=>g j) w:=by
 have:=run_loadCellsFrom P w b o n 0 #[] g λj d=>by rw[bw];exact c j d
 simpa[loadCells]using this
def cf.bE(G:cf M C β s w){o:Ky}{pl:Pl}(q:β o=some pl){k n:Nat}{l:ak}(h:s.bE o k n=some l):
  pl.s<=k/\l.length=n/\(∀x∈l,x.one=true)/\∃g:Nat->Value,(∀j,j<n->dv w pl.b (k-pl.s+j)=some (g j))/\∀j v,l[j]?=some v->HR β (Live M s β) w v (g j):=by
 obtain⟨t,V,p,W,H,X,Y,z,I⟩:=HS.kK h;obtain⟨J,A,L⟩:=G.obj _ _ H;rw[q]at A;cases A;cases L with
 |cells _ _ _ _ B E Z hs N hf hn O=>
  have c:∀i,i<n->∃v,l[i]?=some v/\v.one=true/\∃u,B[k-pl.s+i]?=some u/\HR β (Live M s β) w v u:=by
   intro i p;have m:i<l.length:=by omega
   refine⟨l[i],aO m,?_⟩;have D:=I i p;rw[aO m]at D;have:=O (k+i) l[i] (by omega) (by omega) D;rw[show k+i-pl.s=k-pl.s+i by omega]at this;exact this
  refine⟨by omega,z,λx Q=>?_,λj=>B.getD (k-pl.s+j) Go.undef,λj T=>?_,λj v F=>?_⟩
  .obtain⟨i,p,rfl⟩:=oW Q;obtain⟨v,f,r,_⟩:=c i (by omega);rw[aO p]at f;cases f;exact r
  .obtain⟨v,f,r,u,d,_⟩:=c j T;rw[iE N,d];simp[fN,d]
  obtain⟨v',f,r,u,d,y⟩:=c j (by rw[<-z];exact(aV.1 F).1);rw[F]at f;cases f;simp only[fN,d,iY];exact y
def cf.cell(g:cf M C β s w){o:Ky}{pl:Pl}(c:β o=some pl){k:Nat}{v:HV}(h:s.cell o k=some v):
  pl.s<=k/\v.one=true/\∃u,dv w pl.b (k-pl.s)=some u/\HR β (Live M s β) w v u:=by
 obtain⟨t,z,A,B,i,j,l,m⟩:=HS.H6 h;obtain⟨n,f,p⟩:=g.obj _ _ i;rw[c]at f;cases f;cases p with|cells _ _ _ _ D E F G q H I r=>obtain⟨x,u,y,d⟩:=r k v j l m;exact⟨by omega,x,u,by rw[iE q,y],d⟩
def V3(d:cf M C β s w)(f:dL β (Live M s β) w e a){go:Oper}{x:X}(c:bb P (.mv x) go.op=true):cv M C P β s w a go (U0 x e s):=by
 unfold U0;cases g:bq x e with
 |none=>trivial
 |some v=>
  cases b:go.op<;>rw[b]at c<;>try cases c
  all_goals
   simp only[bb]at c;exact .val d (by simp[execOp,b]) (aH f c g)
def Me(i:cf M C β s w)(g:dL β (Live M s β) w e a){go:Oper}{c x y:X}(f:bb P (.pick c x y) go.op=true):cv M C P β s w a go (lP c x y e s):=by
 cases d:go.op<;>rw[d]at f<;>try cases f
 rename_i l n o;simp only[bb,aL]at f;unfold lP;cases m:bq c e with
 |none=>trivial
 |some v=>
  have j:=aH g f.1.1 m
  try simp only[dO]
  generalize k:a.eval l=u at j;cases j with
  |bool b=>
   cases b with
   |true=>show cv M C P β s w a go (rv s (bq x e));cases h:bq x e with|none=>trivial|some v=>exact .val i (by simp[execOp,d,k,asBool]) (aH g f.1.2 h)
   |false=>show cv M C P β s w a go (rv s (bq y e));cases h:bq y e with|none=>trivial|some v=>exact .val i (by simp[execOp,d,k,asBool]) (aH g f.2 h)
  |_=>trivial
def HR.Gv{N:aG}{l:ak}{g:Nat->Value}{k:Nat}(h:k<=l.length)(h0:∀v∈l,v.one=true)(f:∀j v,l[j]?=some v->HR β N w v (g j)):HR β N w (.agg (l.take k)) (.agg (Array.ofFn (n:=k) λj=>g j)):=by
 refine .agg _ _ (λv b=>h0 v (lR b)) (by simp;omega) λi v u b c=>?_
 have d:i<k:=by have:=(aV.1 b).1;simp at this;omega
 simp only[Array.getElem?_ofFn,d,dite_true,bT]at c;subst c;exact f i v (by rw[rV d]at b;exact b)
def ldT(P:Program)(t:TypeId):bG->Prop
 |none=>dK P t=some false
 |some k=>dK P t=some true/\dI P t=some k
def wH(y:cf M C β s w){t:TypeId}{n:bG}(f:ldT P t n){p:HV}{u:Value}(D:HR β (Live M s β) w p u){v:HV}
  (h:p.kV (λo k=>s.load o k n) (mD p n)=some v):∃A,u=.pointer (some A)/\∃z,(loadVar t A).run P w=.ok z w/\HR β (Live M s β) w v z:=by
 cases D with
 |ptr o k pl i J=>
  have q:s.load o k n=some v:=h;refine⟨_,rfl,?_⟩;cases n with
  |none=>have d:s.cell o k=some v:=q;obtain⟨_,_,z,c,r⟩:=y.cell i d;exact⟨z,by simp only[dv]at c;simp[loadVar,kS f,c],r⟩
  |some m=>have d:bU (s.bE o k m) (λl=>some (.agg l)) none=some v:=q;obtain⟨l,c,r⟩:=jP d;cases r;obtain⟨L,N,E,g,F,G⟩:=y.bE i c;refine⟨.agg (Array.ofFn (n:=m) λj=>g j),by simp[loadVar,kS f.1,gf f.2,run_loadCells P w _ _ _ g F],?_⟩;have:=HR.Gv (k:=m) (by omega) E G;rwa[iZ (by omega)]at this
 |ax cells b o g h0 O H x B=>
  have q:mD (.ax cells) n=some v:=h;refine⟨_,rfl,?_⟩;cases n with
  |none=>have d:Aa cells 0=some v:=q;rw[wF]at d;have c:=x 0 (aV.1 d).1;simp only[fR,dv]at c;exact⟨g 0,by simp[loadVar,kS f,c],B 0 v d⟩
  |some m=>
   have d:gP (Nat.ble m (aM cells)) (some (.agg (gQ m cells))) none=some v:=q;obtain⟨c,r⟩:=jO d;cases r;rw[eo,bF]at c;have I:=run_loadCells P w b o m g λj Q=>x j (by omega)
   refine⟨.agg (Array.ofFn (n:=m) λj=>g j),by simp[loadVar,kS f.1,gf f.2,I],?_⟩;rw[jQ];exact HR.Gv c h0 B
 |_=>cases h
def CW(p:HV)(f:Ky->Nat->bV)(d:bV):p.kV (λo k=>rv s (f o k)) (rv s d)=rv s (p.kV f d):=by cases p<;>rfl
def Pm{x:X}:∀{n:bG} {op:Op} (_:bb P (.ld x n) op=true),∃t y,op=.load t y/\cZ x y=true/\ldT P t n
 |none,.load t y,b=>by simp only[bb,aL,bZ]at b;exact⟨_,_,rfl,b.1,b.2⟩
 |some k,.load t y,b=>by simp only[bb,aL,bZ]at b;exact⟨_,_,rfl,b.1.1,b.1.2,b.2⟩
def V4(c:cf M C β s w)(d:dL β (Live M s β) w e a){go:Oper}{x:X}{n:bG}(f:bb P (.ld x n) go.op=true):cv M C P β s w a go (Ou x n e s):=by
 obtain⟨t,y,b,g,h⟩:=Pm f;unfold Ou;cases i:bq x e with
 |none=>trivial
 |some p=>have j:=aH d g i;show cv M C P β s w a go (p.kV (λo k=>rv s (s.load o k n)) (rv s (mD p n)));rw[CW];cases l:p.kV (λo k=>s.load o k n) (mD p n)with|none=>trivial|some v=>obtain⟨u,m,z,q,r⟩:=wH (P:=P) c h j l;exact .val c (by simp[execOp,b,m,Instr.loadAt,Instr.sureAddr,q]) r
def V5(B:cf M C β s w)(E:dL β (Live M s β) w e a){go:Oper}{x:X}{bo:Nat}(c:bb P (.fa x bo) go.op=true):cv M C P β s w a go (I4 x bo e s):=by
 cases h:go.op<;>rw[h]at c<;>try cases c
 rename_i t y i;simp only[bb,aL]at c;obtain⟨F,c⟩:=c;have key:∀b k,a.eval y=.pointer (some ⟨b,k,none⟩)->(execOp a.eval go).run P w=.ok (.value (.pointer (some ⟨b,k+bo,none⟩))) w:=by
  intro b k d
  split at c
  .rename_i N m
   split at c
   .rename_i f G;simp only[aL,bZ]at c;obtain⟨rfl,c⟩:=c
    split at c
    .rename_i n H;have q:n≠0:=by simpa using c
     simp[execOp,h,d,Instr.fieldAt,underlying,m,G,Instr.sureAddr,fieldPlace,gf H,q,gw]
    cases c
   cases c
  cases c
 unfold I4;cases I:bq x e with
 |none=>trivial
 |some p=>
  have d:=aH E F I
  try simp only[dO]
  generalize D:a.eval y=u at d;cases d with
  |ptr o k pl r O=>refine .val (v:=.ptr o (k+bo)) B (key _ _ D) ?_;rw[show k-pl.s+bo=k+bo-pl.s by omega];exact .ptr o (k+bo) pl r (by omega)
  |ax cells b o g h0 J z A d=>
   show cv M C P β s w a go (rv s (gP (Nat.ble bo (aM cells)) (some (.ax (iB bo cells))) none));cases L:Nat.ble bo (aM cells)with
   |false=>trivial
   |true=>
    rw[eo,bF]at L;refine .val (v:=.ax (iB bo cells)) B (key _ _ D) ?_;rw[mE];refine .ax _ _ _ (λj=>g (bo+j)) (λv d=>h0 v (Pn d)) J z (λj l=>?_) λj v l=>?_
    .rw[Jj]at l;rw[Po];exact A _ (by omega)
    rw[mH]at l;exact d _ _ l
  |_=>trivial
def V6(I:cf M C β s w)(he:dL β (Live M s β) w e a){go:Oper}{x i:X}{sz:Nat}(hc:bb P (.ia x i sz) go.op=true):cv M C P β s w a go (CD x i sz e s):=by
 cases h:go.op<;>rw[h]at hc<;>try cases hc
 rename_i t y j;simp only[bb,aL]at hc;obtain⟨⟨hx,hi⟩,hc⟩:=hc
 split at hc
 case h_2=>cases hc
 rename_i E hE;have hs:=bZ.1 hc;have hE:=iH hE;have key:∀b k len cap f (n:Nat),a.eval y=.slice (some ⟨b,k,none⟩) len cap->a.eval j=.int f (.ofNat n)->n<len->(execOp a.eval go).run P w=.ok (.value (.pointer (some ⟨b,k+n*sz,none⟩))) w:=by
  intro b k len cap f n hv B D;have hlt:(Int.ofNat n)<(len:Int):=by simpa using D
  have h0:(0:Int)<=Int.ofNat n:=by simp
  simp only[execOp,h,hv,B];simp[Instr.indexAt,asIntOf,underlying,hE,D,gf hs,gw]
 unfold CD;cases D:bq x e with
 |none=>trivial
 |some p=>
  have hv:=aH he hx D
  try simp only[dO]
  generalize J:a.eval y=u at hv;have l:∀(o:Ky) (bo len Et:Nat),cv M C P β s w a go (HV.Pd (.sl o bo len Et) (λo bo len Et=>bU (bq i e) (λq=>q.asInt (λ_ z=>Int.rec (motive:=λ_=>da) (λn=>gP (Nat.blt n len) (gP (Nat.beq sz Et) (.v (.ptr o (Nat.add bo (Nat.mul n sz))) s) .bad) .bad) (λ_=>.bad) z) .bad) .bad) (rv s (U2 (.sl o bo len Et) (bq i e) sz)))↔
    cv M C P β s w a go (bU (bq i e) (λq=>q.asInt (λ_ z=>Int.rec (motive:=λ_=>da) (λn=>gP (Nat.blt n len) (gP (Nat.beq sz Et) (.v (.ptr o (Nat.add bo (Nat.mul n sz))) s) .bad) .bad) (λ_=>.bad) z) .bad) .bad):=λ_ _ _ _=>Iff.rfl
  cases hv with
  |sl o bo len Et cap n pl F N hl hb O=>
   refine(l _ _ _ _).2 ?_;cases m:bq i e with
   |none=>trivial
   |some q=>
    have A:=aH he hi m
    try simp only[dO]
    generalize d:a.eval j=Q at A;cases A with
    |int f z=>
     cases z with
     |negSucc z=>trivial
     |ofNat z=>
      show cv M C P β s w a go (gP (Nat.blt z len) (gP (Nat.beq sz Et) (.v (.ptr o (bo+z*sz)) s) .bad) .bad);cases c:Nat.blt z len with
      |false=>trivial
      |true=>cases h4:Nat.beq sz Et with|false=>trivial|true=>rw[cp]at c;refine .val (v:=.ptr o (bo+z*sz)) I (key _ _ _ _ _ _ J d c) ?_;rw[show bo-pl.s+z*sz=bo+z*sz-pl.s by omega];exact .ptr o _ pl F (by omega)
    |_=>trivial
  |p8 o bo Et b k=>
   refine(l _ _ _ _).2 ?_;cases m:bq i e with
   |none=>trivial
   |some q=>
    try simp only[dO]
    cases q with
    |int f z=>
     cases z with
     |negSucc z=>trivial
     |ofNat z=>show cv M C P β s w a go (gP (Nat.blt z 0) (gP (Nat.beq sz Et) (.v (.ptr o (bo+z*sz)) s) .bad) .bad);cases c:Nat.blt z 0 with|false=>trivial|true=>rw[cp]at c;omega
    |_=>trivial
  |psl0=>
   show cv M C P β s w a go (rv s (U2 (.psl []) (bq i e) sz));cases m:bq i e with
   |none=>trivial
   |some q=>
    cases q with
    |int f z=>cases z<;>trivial
    |_=>trivial
  |psl au b o cap Et g T hlt hcap hsz h0 G hv=>
   show cv M C P β s w a go (rv s (U2 (.psl au) (bq i e) sz));cases m:bq i e with
   |none=>trivial
   |some q=>
    have A:=aH he hi m;generalize d:a.eval j=Q at A;cases A with
    |int f z=>
     cases z with
     |negSucc z=>trivial
     |ofNat z=>
      show cv M C P β s w a go (rv s (match Aa au z with|some r=>gP (Nat.beq (aM r) sz) (some (.ax r)) none|none=>none));rw[wF];cases c:au[z]?with
      |none=>trivial
      |some row=>
       simp only[];cases h4:Nat.beq (aM row) sz with
       |false=>trivial
       |true=>
        rw[bh,bF]at h4;have L:=(aV.1 c).1;have h5:=hsz z row c;refine .val (v:=.ax row) I (key _ _ _ _ _ _ J d L) ?_;have:sz=Et:=by omega
        subst this;refine .ax row b _ (λH=>g z H) (h0 row (cH c)) T hlt (λH B=>?_) λH v B=>hv _ _ _ _ c B
        rw[Po];exact G _ _ L (by omega)
    |_=>trivial
  |_=>trivial
end sound
def Ag{s s':ByteArray}(h:s.toList=s'.toList):s=s':=by rw[ByteArray.toList_eq,ByteArray.toList_eq]at h;cases s;cases s';simp only[ByteArray.mk.injEq];exact Pp.1 h
def CX{s s':ByteArray}(h:eb s=eb s'):s=s':=by apply Ag;rw[ByteArray.toList_eq,ByteArray.toList_eq];exact(Jk (λa b c=>Jl.1 c)).1 h
def gx(s:ByteArray):(eb s).length=s.size:=by unfold eb;rw[bH,Array.length_toList];rfl
def CY(s s':ByteArray):eb (s++s')=eb s++eb s':=by unfold eb;rw[ByteArray.data_append,Array.toList_append,eD]
def CZ:∀a b:List UInt8,uv (a.map UInt8.toNat) (b.map UInt8.toNat)=Op.bytesLess a b
 |[],[]=>rfl
 |[],_::_=>rfl
 |_::_,[]=>rfl
 |a::x,b::y=>by
  simp only[cL,uv,Op.bytesLess];rw[CZ x y];have d:Nat.blt a.toNat b.toNat=decide (a<b):=by
   by_cases h:a<b
   .rw[cp.2 (Ah.1 h)];simp[h]
   cases c:Nat.blt a.toNat b.toNat with|true=>exact absurd (Ah.2 (cp.1 c)) h|false=>simp[h]
  have f:Nat.beq a.toNat b.toNat=(a==b):=by
   by_cases h:a=b
   .subst h;simp
   cases c:Nat.beq a.toNat b.toNat with|true=>exact absurd (Jl.1 (bh.1 c)) h|false=>simp[h]
  rw[d,f];by_cases h:a<b<;>simp[h]
def EG(s s':ByteArray):uv (eb s) (eb s')=Op.bytesLess s.toList s'.toList:=by unfold eb;rw[CZ,ByteArray.toList_eq,ByteArray.toList_eq]
def tb(s s':ByteArray):qx (eb s) (eb s')=(s.toList==s'.toList):=by
 by_cases h:s=s'
 .subst h;rw[(oS _ _).2 rfl];simp
 cases b:qx (eb s) (eb s')with|true=>exact absurd (CX ((oS _ _).1 b)) h|false=>symm;simp only[beq_eq_false_iff_ne,ne_eq];exact λe=>h (Ag e)
def vt(a b:List UInt8):(!Op.bytesLess b a)=(Op.bytesLess a b||a==b):=by
 induction a generalizing b with
 |nil=>cases b<;>simp[Op.bytesLess]
 |cons x a i=>
  cases b with
  |nil=>simp[Op.bytesLess]
  |cons y b=>
   simp only[Op.bytesLess];rcases EH x.toNat y.toNat with h|h|h
   .have d:x<y:=Ah.2 h;have f:¬y<x:=λc=>by have:=Ah.1 c;omega
    have j:¬y=x:=λc=>by subst c;omega
    have g:¬x=y:=λc=>by subst c;omega
    simp[d,f,j]
   .have:=Jl.1 h;subst this;have d:¬x<x:=λc=>by have:=Ah.1 c;omega
    have:=i b;simp only[d,lb,wI,EI,iI,List.cons_beq_cons];exact this
   have d:y<x:=Ah.2 h;have f:¬x<y:=λc=>by have:=Ah.1 c;omega
   have g:¬x=y:=λc=>by subst c;omega
   simp[d,f,g]
def wrap64(n:Int)(f: -9223372036854775808<=n)(g:n<9223372036854775808):IntKind.i64.wrap n=n:=by
 have b:((2:Int)^IntKind.i64.bits)=18446744073709551616:=rfl;have c:((2:Int)^(IntKind.i64.bits-1))=9223372036854775808:=rfl;have d:IntKind.i64.signed=true:=rfl;unfold IntKind.wrap;simp only[b,c,d,iI,bL]
 split<;>omega
def Jm(m:Nat)(h:m<9223372036854775808):IntKind.i64.wrap (Int.ofNat m)=Int.ofNat m:=by rw[nM];exact wrap64 _ (by omega) (by omega)
def Jn(m:Nat)(h:m<9223372036854775808):IntKind.i64.wrap (Int.negSucc m)=Int.negSucc m:=wrap64 _ (by rw[Pq];omega) (by rw[Pq];omega)
def Ai{q:Bool}{a b:Int}(h:q=true->a=b):(bif q then a else b)=b:=by cases q with|false=>rfl|true=>exact h rfl
def rW(k:IntKind)(n:Int):bR k n=k.wrap n:=by
 unfold bR
 split
 .exact Ai λb=>(Jm _ (cp.1 b)).symm
 .exact Ai λb=>(Jn _ (cp.1 b)).symm
 rfl
def Jo(k:IntKind)(d:jw k=true)(m b:Nat)(h:m<9223372036854775808)(o:b<9223372036854775808):
  k.wrap ((BitVec.ofInt k.bits (Int.ofNat m)&&& BitVec.ofInt k.bits (Int.ofNat b)).toNat:Int)=Int.ofNat (Nat.land m b):=by
 have c:k.bits=64:=by cases k<;>simp[jw]at d<;>rfl
 have p:m&&& b<=m:=Nat.and_le_left;have f:(BitVec.ofInt k.bits (Int.ofNat m)&&& BitVec.ofInt k.bits (Int.ofNat b)).toNat=m&&& b:=by rw[c];rw[BitVec.toNat_and,nM,nM,BitVec.ofInt_natCast,BitVec.ofInt_natCast,BitVec.toNat_ofNat,BitVec.toNat_ofNat,EJ (by omega),EJ (by omega)]
 rw[f];have g:Nat.land m b=m&&& b:=rfl;rw[g,nM];have i:((2:Int)^k.bits)=18446744073709551616:=by rw[c];rfl
 have j:((2:Int)^(k.bits-1))=9223372036854775808:=by rw[c];rfl
 unfold IntKind.wrap;simp only[i,j];have l:(((m&&& b:Nat):Int)%18446744073709551616)=((m&&& b:Nat):Int):=by omega
 rw[l]
 split
 .rename_i n;simp only[aL,bL]at n;omega
 rfl
def Pr(a b:Int):decide (a<b)= !decide (b<=a):=by by_cases h:b<=a<;>simp[h]<;>omega
def jR:Obj->Bool
 |.cells .. =>false
 |_=>true
def eL{P:Program}{w:World}{r:Nat}{o:Obj}(h:w.heap[r]?=some o)(b:jR o=true):(getObj r).run P w=.ok o w:=by unfold getObj;simp only[Sem.run,h];cases o<;>first|rfl|(simp[jR]at b)
section sound
variable{M:aG}{C:eT}{P:Program}{β:Bt}{s:HS}{w:World}{e:En}{a:Act}
def Ps(k:cf M C β s w)(he:dL β (Live M s β) w e a){go:Oper}{x i:X}(hc:bb P (.idx x i) go.op=true):cv M C P β s w a go (hIdx x i e s):=by
 cases f:go.op<;>rw[f]at hc<;>try cases hc
 rename_i t l m;simp only[bb,aL]at hc;obtain⟨⟨hx,hi⟩,hc⟩:=hc
 split at hc
 case h_2=>cases hc
 rename_i ht;unfold hIdx;cases o:bq x e with
 |none=>trivial
 |some p=>
  have hv:=aH he hx o;generalize r:a.eval l=u at hv;cases hv with
  |str b=>
   show cv M C P β s w a go (bU (bq i e) (λq=>q.asInt (λ_ z=>Int.rec (motive:=λ_=>da) (λn=>bU (Aa (eb b) n) (λb=>.v (.int .u8 (.ofNat b)) s) .bad) (λ_=>.bad) z) .bad) .bad);cases y:bq i e with
   |none=>trivial
   |some q=>
    have j:=aH he hi y;generalize g:a.eval m=B at j;cases j with
    |int D z=>
     cases z with
     |negSucc z=>trivial
     |ofNat z=>
      show cv M C P β s w a go (bU (Aa (eb b) z) (λb=>.v (.int .u8 (.ofNat b)) s) .bad);rw[wF];cases d:(eb b)[z]?with
      |none=>trivial
      |some c=>
       have hlt:z<b.size:=by rw[<-gx];exact(aV.1 d).1
       have A:b[z]?=some b[z]:=getElem?_pos b z hlt;have h:c=b[z].toNat:=by
        unfold eb at d;rw[fW]at d;have hl:z<b.data.toList.length:=by simpa using hlt
        rw[aO hl]at d;simp only[ml,bT]at d;rw[<-d];rfl
       subst h;refine .val (v:=.int .u8 (.ofNat b[z].toNat)) k ?_ (.int _ _);simp[execOp,f,r,g,Instr.index,asIntOf,underlying,ht,A]
    |_=>trivial
  |_=>trivial
def Pt(l:cf M C β s w)(N:dL β (Live M s β) w e a){go:Oper}{k:Nat}{x:X}(i:bb P (.len k x) go.op=true):cv M C P β s w a go (CK k x e s):=by
 cases j:go.op<;>rw[j]at i<;>try cases i
 rename_i I;simp only[bb,aL]at i;obtain⟨J,i⟩:=i
 split at J
 case h_2=>cases J
 rename_i d
 split at i
 case h_2=>cases i
 rename_i y t O Q;simp only[aL]at i;obtain⟨T,i⟩:=i;have c:I.args= #[y]:=by rw[<-Array.toList_inj];exact O
 have f:I.argTypes= #[t]:=by rw[<-Array.toList_inj];exact Q
 unfold CK;cases V:bq x e with
 |none=>trivial
 |some p=>
  have m:=aH N T V;show cv M C P β s w a go (bU (L9 k s p) (λn=>.v (.int .i64 (.ofNat n)) s) .bad);generalize B:a.eval y=u at m
  split at i
  .rename_i E q;have key:∀A n cap,u=.slice A n cap->(execOp a.eval go).run P w=.ok (.value (.int .i64 n)) w:=by intro A n cap m;simp[execOp,j,resolve,d,c,f,invoke,builtin,Builtin.len_,underlying,q,B,m,goInt]
   cases m with|ai=>exact .val (v:=.int .i64 (.ofNat 0)) l (key _ _ _ rfl) (.int _ _)|sl o W len Y cap n pl r hs hl z D=>exact .val (v:=.int .i64 (.ofNat len)) l (key _ _ _ rfl) (.int _ _)|p8=>exact .val (v:=.int .i64 (.ofNat 0)) l (key _ _ _ rfl) (.int _ _)|psl0=>exact .val (v:=.int .i64 (.ofNat 0)) l (key _ _ _ rfl) (.int _ _)|psl F b o cap Y g=>refine .val (v:=.int .i64 (.ofNat (aM F))) l (key _ _ _ rfl) ?_;rw[bF];exact .int _ _|_=>trivial
  .rename_i q;cases m with
   |str b=>
    refine .val (v:=.int .i64 (.ofNat (aM (eb b)))) (u:=.int .i64 b.size) l ?_ ?_
    .simp[execOp,j,resolve,d,c,f,invoke,builtin,Builtin.len_,underlying,q,B,goInt]
    rw[bF,gx];exact .int _ _
   |_=>trivial
  .rename_i K E q;cases m with
   |fV=>exact .val (v:=.int .i64 (.ofNat 0)) (u:=.int .i64 0) l (by simp[execOp,j,resolve,d,c,f,invoke,builtin,Builtin.len_,underlying,q,B,goInt]) (.int _ _)
   |mp o pl r=>
    show cv M C P β s w a go (bU (match ao s.h o with|some (.mp G)=>some (aM G)|_=>none) (λn=>.v (.int .i64 (.ofNat n)) s) .bad);cases Z:ao s.h o with
    |none=>trivial
    |some ob=>
     obtain⟨h5,L,h4⟩:=l.obj _ _ Z;rw[r]at L;cases L;cases h4 with
     |mp G H z hn D=>
      refine .val (v:=.int .i64 (.ofNat (aM G))) (u:=.int .i64 H.size) l ?_ ?_
      .simp[execOp,j,resolve,d,c,f,invoke,builtin,Builtin.len_,underlying,q,B,goInt,eL z rfl]
      rw[bF,hn];exact .int _ _
     |_=>trivial
   |_=>trivial
  cases i
def Mf{l:Bool}{op:BinOp}{t:TypeId}{p q r:HV}{u v:Value}{x y:Operand}{N:aG}(h:HJ l op p q=some r)(I:HR β N w p u)(o:HR β N w q v)
  (G:(match P.underlying t with|some .bool=>l|some (.int _)|some .string=> !l|_=>false)=true):
  ∃z,(do eqGuard op t x y u v;binOp op t u v:Sem Value).run P w=.ok z w/\HR β N w r z:=by
 cases I with
 |int k m=>
  cases o with
  |int A d=>
   have f:(eqGuard op t x y (.int k m) (.int A d)).run P w=.ok () w:=by unfold eqGuard;cases op<;>rfl
   by_cases i:op=.shr∨op=.shl
   .have H:∀k:IntKind,jw k=true->k.bits=64:=by intro k n;cases k<;>simp[jw]at n<;>rfl
    cases m with
    |negSucc m=>rcases i with rfl|rfl<;>cases h
    |ofNat m=>
     cases d with
     |negSucc d=>rcases i with rfl|rfl<;>cases h
     |ofNat d=>
      rcases i with rfl|rfl
      .have c:(bif Nat.blt d 64&&jw k then some (HV.int k (.ofNat (Nat.shiftRight m d)))else none)=some r:=h;cases g:(Nat.blt d 64&&jw k)with
       |false=>rw[g]at c;cases c
       |true=>
        rw[g]at c;cases c;simp only[aL,cp]at g;refine⟨_,?_,HR.int _ _⟩;simp only[Sem.run_bind,f,Result.andThen_ok];have B:min (Int.ofNat d).toNat k.bits=d:=by rw[H k g.2];simp;omega
        have D:(Int.ofNat m).fdiv (2^d)=Int.ofNat (Nat.shiftRight m d):=by have E:Nat.shiftRight m d=m/2^d:=Nat.shiftRight_eq_div_pow m d;rw[E,nM,Int.fdiv_eq_ediv_of_nonneg _ (by exact_mod_cast fD _)];simp
        have F:¬(Int.ofNat d<0):=by simp
        simp only[binOp,Op.shift,aq F,B,D,Sem.run_pure]
      have c:(bif Nat.blt d 64&&jw k then some (HV.int k (bR k (.ofNat (Nat.shiftLeft m d))))else none)=some r:=h;cases g:(Nat.blt d 64&&jw k)with
      |false=>rw[g]at c;cases c
      |true=>
       rw[g]at c;cases c;simp only[aL,cp]at g;refine⟨_,?_,HR.int _ _⟩;simp only[Sem.run_bind,f,Result.andThen_ok];have B:min (Int.ofNat d).toNat k.bits=d:=by rw[H k g.2];simp;omega
       have D:(Int.ofNat m)*(2^d)=Int.ofNat (Nat.shiftLeft m d):=by have E:Nat.shiftLeft m d=m*2^d:=Nat.shiftLeft_eq m d;rw[E];simp
       have F:¬(Int.ofNat d<0):=by simp
       simp only[binOp,Op.shift,aq F,B,D,Sem.run_pure,rW]
   have c:(bif decide (k=A)then Pe op k m d else none)=some r:=by cases op<;>first|exact h|(exact absurd (.inl rfl) i)|(exact absurd (.inr rfl) i)
   by_cases n:k=A
   case neg=>simp[n]at c
   subst n;simp only[eV,cond_true]at c;by_cases hand:op=.and
   .subst hand;cases m with
    |negSucc m=>cases c
    |ofNat m=>
     cases d with
     |negSucc d=>cases c
     |ofNat d=>
      have c:(bif Nat.blt m 9223372036854775808&&Nat.blt d 9223372036854775808&&jw k then some (HV.int k (.ofNat (Nat.land m d)))else none)=some r:=c;cases g:(Nat.blt m 9223372036854775808&&Nat.blt d 9223372036854775808&&jw k)with
      |false=>rw[g]at c;cases c
      |true=>rw[g]at c;cases c;simp only[aL,cp]at g;obtain⟨⟨J,L⟩,O⟩:=g;refine⟨_,?_,HR.int _ _⟩;simp only[Sem.run_bind,f,Result.andThen_ok];have key:k.wrap ((BitVec.ofInt k.bits (Int.ofNat m)&&& BitVec.ofInt k.bits (Int.ofNat d)).toNat:Int)=Int.ofNat (Nat.land m d):=Jo k O m d J L;simp only[binOp,Op.intBits,ne_eq,not_true_eq_false,bp,key,Sem.run_pure]
   cases op<;>simp only[Pe,bT,reduceCtorEq,Ma,Mb,rW,vK,Bf]at c
   case and=>exact absurd rfl hand
   case add=>subst c;refine⟨_,?_,HR.int _ _⟩;simp only[Sem.run_bind,f,Result.andThen_ok];simp[binOp,Op.intArith]
   case sub=>subst c;refine⟨_,?_,HR.int _ _⟩;simp only[Sem.run_bind,f,Result.andThen_ok];simp[binOp,Op.intArith]
   case mul=>subst c;refine⟨_,?_,HR.int _ _⟩;simp only[Sem.run_bind,f,Result.andThen_ok];simp[binOp,Op.intArith]
   case quo=>
    by_cases h0:d=0
    .simp[h0]at c
    simp only[h0,lb,cond_false,bT]at c;subst c;refine⟨_,?_,HR.int _ _⟩;simp only[Sem.run_bind,f,Result.andThen_ok];simp[binOp,Op.intDiv,h0]
   case rem=>
    by_cases h0:d=0
    .simp[h0]at c
    simp only[h0,lb,cond_false,bT]at c;subst c;refine⟨_,?_,HR.int _ _⟩;simp only[Sem.run_bind,f,Result.andThen_ok];simp[binOp,Op.intDiv,h0]
   all_goals
    subst c;refine⟨_,?_,HR.bool _⟩;simp only[Sem.run_bind,f,Result.andThen_ok];simp[binOp,Op.intCmp,bne,Pr]
    try rfl
  |_=>cases h
 |bool b=>
  cases o with
  |bool j=>
   have f:(eqGuard op t x y (.bool b) (.bool j)).run P w=.ok () w:=by unfold eqGuard;cases op<;>rfl
   have c:(bif l then Pf op b j else none)=some r:=h;cases l with
   |false=>cases c
   |true=>
    simp only[cond_true]at c;have Q:P.underlying t=some .bool:=by split at G<;>first|assumption|cases G
    cases op<;>simp only[Pf,bT,reduceCtorEq]at c<;>subst c
    all_goals (refine⟨.bool _,?_,HR.bool _⟩;simp only[Sem.run_bind,f,Result.andThen_ok];simp[binOp,run_equal_bool,Q,bne];done)
  |_=>cases h
 |str b=>
  cases o with
  |str j=>
   have f:(eqGuard op t x y (.string b) (.string j)).run P w=.ok () w:=by unfold eqGuard;cases op<;>rfl
   have c:Pg op (eb b) (eb j)=some r:=h;cases op<;>simp only[Pg,bT,reduceCtorEq,tb,EG]at c
   case add=>
    obtain⟨hle,c⟩:=jO c;simp only[bT]at c;subst c;rw[bF,bF,gx,gx,eo]at hle;have hle:b.size+j.size<=9223372036854775807:=hle;refine⟨.string (b++j),?_,by rw[<-CY];exact HR.str _⟩;simp only[Sem.run_bind,f,Result.andThen_ok];have T:¬(((b.size+j.size:Nat):Int)>IntKind.i64.max):=by have:IntKind.i64.max=9223372036854775807:=rfl;rw[this];omega
    simp only[binOp,Op.stringOp];rw[aq T];rfl
   all_goals
    subst c;refine⟨.bool _,?_,HR.bool _⟩;simp only[Sem.run_bind,f,Result.andThen_ok];simp only[binOp,Op.stringOp,<-vt,Bool.not_not];rfl
  |_=>cases h
 |_=>cases h
def V7(f:cf M C β s w)(i:dL β (Live M s β) w e a){go:Oper}{op:UnOp}{x:X}(d:bb P (.un op x) go.op=true):cv M C P β s w a go (U3 op x e s):=by
 cases c:go.op<;>rw[c]at d<;>try cases d
 rename_i j t l;simp only[bb,aL,bZ]at d;obtain⟨rfl,m⟩:=d;unfold U3;cases o:bq x e with
 |none=>trivial
 |some p=>
  have g:=aH i m o;generalize h:a.eval l=u at g;cases g with
  |bool b=>cases op with|not=>exact .val (v:=.bool !b) f (by simp[execOp,c,h,Op.unary]) (.bool _)|_=>trivial
  |int k n=>cases op with|neg=>exact .val (v:=.int k (bR k (0-n))) (u:=.int k (k.wrap (0-n))) f (by simp[execOp,c,h,Op.unary,Op.intArith]) (by rw[rW];exact .int _ _)|_=>trivial
  |_=>trivial
def Pu(k:cf M C β s w)(m:dL β (Live M s β) w e a){go:Oper}{x:X}{i:Nat}(c:bb P (.ext x i) go.op=true):cv M C P β s w a go (vh x i e s):=by
 cases b:go.op<;>rw[b]at c<;>try cases c
 rename_i n j;simp only[bb,aL,bZ]at c;obtain⟨o,rfl⟩:=c;unfold vh;cases q:bq x e with
 |none=>trivial
 |some p=>
  have d:=aH m o q;generalize r:a.eval n=u at d;cases d with
  |bN l f t y=>
   show cv M C P β s w a go (rv s (Aa l i));rw[wF];cases g:l[i]?with
   |none=>trivial
   |some v=>
    have h:i<f.size:=by rw[t];exact(aV.1 g).1
    exact .val k (by simp[execOp,b,r,Instr.extract,fX h]) (y i v f[i] g (fX h))
  |_=>trivial
def Pv(g:cf M C β s w)(h:dL β (Live M s β) w e a){go:Oper}{k:IntKind}{x:X}(b:bb P (.cnv k x) go.op=true):cv M C P β s w a go (vi k x e s):=by
 cases c:go.op<;>rw[c]at b<;>try cases b
 rename_i t y i;simp only[bb,aL]at b;obtain⟨j,b⟩:=b
 split at b
 case h_2=>cases b
 rename_i d z l m;have o:=bZ.1 b;subst o;unfold vi;cases q:bq x e with
 |none=>trivial
 |some p=>have f:=aH h j q;generalize r:a.eval i=u at f;cases f with|int A n=>refine .val (v:=.int k (bR k n)) (u:=.int k (k.wrap n)) g ?_ (by rw[rW];exact .int _ _);simp[execOp,c,r,convert,underlying,l,m,Conv.intToInt]|_=>trivial
def Pw(i:cf M C β s w)(l:dL β (Live M s β) w e a){go:Oper}{x:X}(f:bb P (.nck x) go.op=true):cv M C P β s w a go (vj x e s):=by
 cases c:go.op<;>rw[c]at f<;>try cases f
 rename_i m;simp only[bb]at f;unfold vj;cases n:bq x e with
 |none=>trivial
 |some p=>have h:=aH l f n;generalize j:a.eval m=u at h;have d:=h;cases h with|ptr o k pl q r=>exact .val (v:=.ptr o k) i (by simp[execOp,c,j]) d|ax cells b o g=>exact .val (v:=.ax cells) i (by simp[execOp,c,j]) d|_=>trivial
def qa{x y:X}{l:Array Operand}(h:fM [x,y] l.toList=true):∃c d,l= #[c,d]/\cZ x c=true/\cZ y d=true:=by
 cases b:l.toList with
 |nil=>simp[b,fM]at h
 |cons c r=>
  cases r with
  |nil=>simp[b,fM]at h
  |cons d r=>cases r with|cons z r=>simp[b,fM]at h|nil=>simp only[b,fM,aL]at h;exact⟨c,d,by rw[<-Array.toList_inj];exact b,h.1,h.2.1⟩
def H8{x:X}{l:Array Operand}(h:fM [x] l.toList=true):∃b,l= #[b]/\cZ x b=true:=by
 cases c:l.toList with
 |nil=>simp[c,fM]at h
 |cons b r=>cases r with|cons d r=>simp[c,fM]at h|nil=>simp only[c,fM,aL]at h;exact⟨b,by rw[<-Array.toList_inj];exact c,h.1⟩
def V8(l:cf M C β s w)(o:dL β (Live M s β) w e a){go:Oper}{m:Bool}{x y:X}(f:bb P (.mm m x y) go.op=true):cv M C P β s w a go (U4 m x y e s):=by
 cases d:go.op<;>rw[d]at f<;>try cases f
 rename_i I;simp only[bb,aL]at f;obtain⟨j,f⟩:=f;obtain⟨A,B,r,D,E⟩:=qa f;unfold U4;cases F:bq x e with
 |none=>trivial
 |some p=>
  cases G:bq y e with
  |none=>cases p<;>trivial
  |some q=>
   have t:=aH o D F;have g:=aH o E G;generalize z:a.eval A=u at t;generalize i:a.eval B=J at g;cases t with
   |int k n=>
    cases g with
    |int L b=>
     split at j
     .rename_i c;subst j;refine .val (v:=.int k (bif kJ n b then b else n)) (u:=.int k (if b>n then b else n)) l ?_ ?_
      .simp[execOp,d,resolve,c,r,invoke,builtin,Builtin.max_,z,i,Builtin.max2]
      rw[Bf];have:(if b>n then b else n)=(bif decide (n<=b)then b else n):=by
       by_cases h:n<=b
       .simp only[h,eV,cond_true];split<;>omega
       simp only[h,lb,cond_false];rw[aq (by omega)]
      rw[this];exact .int _ _
     .rename_i c;have H:m=false:=by simpa using j
      subst H;refine .val (v:=.int k (bif kJ n b then n else b)) (u:=.int k (if b<n then b else n)) l ?_ ?_
      .simp[execOp,d,resolve,c,r,invoke,builtin,Builtin.min_,z,i,Builtin.min2]
      rw[Bf];have:(if b<n then b else n)=(bif decide (n<=b)then n else b):=by
       by_cases h:n<=b
       .simp only[h,eV,cond_true];rw[aq (by omega)]
       simp only[h,lb,cond_false];rw[ar (by omega)]
      rw[this];exact .int _ _
     cases j
    |_=>trivial
   |_=>trivial
def Px(q:cf M C β s w)(n:dL β (Live M s β) w e a){go:Oper}{g:Nat}{f cs:List X}(d:bb P (.mkf g f cs) go.op=true):cv M C P β s w a go (vg g f cs e s):=by
 cases b:go.op<;>rw[b]at d<;>try cases d
 rename_i fn h j;cases fn<;>simp only[bb,aL,bZ,cy]at d;obtain⟨⟨rfl,r⟩,t⟩:=d;unfold vg;cases x:gp f e with
 |none=>trivial
 |some l=>
  cases y:gp cs e with
  |none=>trivial
  |some m=>
   have o:=la n r x;have p:=la n t y;refine .val (v:=.fn g l m) (u:=.func (.func g) (h.map a.eval) (j.map a.eval)) q (by simp[execOp,b,Instr.makeFunc]) ?_;refine .fn g l m _ _ (by have:=o.1;simpa using this) (by have:=p.1;simpa using this) (λi v u k c=>?_) λi v u k c=>?_
   .exact o.2 i v u k (by rw[<-Array.getElem?_toList]at c;simpa using c)
   exact p.2 i v u k (by rw[<-Array.getElem?_toList]at c;simpa using c)
def kL(b:cf M C β s w):¬Live M s β w.heap.size:=λh=>gR _ (Live.lt b h)
def uy(w:World)(E:TypeId)(cs:Array Value)(j:Nat):dv {w with heap:=w.heap.push (.cells cs E)} w.heap.size j=cs[j]?:=by apply iE (E:=E) (fr:=(0,0));simp
def Py(c:cf M C β s w)(k:dL β (Live M s β) w e a){go:Oper}{x:X}(d:bb P (.fbx x) go.op=true):cv M C P β s w a go (vc x e s):=by
 cases b:go.op<;>rw[b]at d<;>try cases d
 rename_i E y;simp only[bb]at d;unfold vc;cases m:bq x e with
 |none=>trivial
 |some p=>
  have n:=aH k d m;show cv M C P β s w a go (bU (cellsOf p) (λl=>.v (.ax l) s) .bad);cases o:cellsOf p with
  |none=>trivial
  |some l=>
   obtain⟨h,q⟩:=n.cells o;have i:(a.eval y).cells.size=l.length:=by simpa using h.1
   refine⟨.pointer (some ⟨w.heap.size,0,none⟩),{w with heap:=w.heap.push (.cells (a.eval y).cells E)},β,.inl ?_,c.push _,Ext.push c.mlt β s _,?_⟩
   .simp[execOp,b,Instr.box,newVar,Go.newRow]
   refine .ax l _ 0 (λj=>(a.eval y).cells.getD j Go.undef) q (kL c) (by simp) (λj f=>?_) λj v f=>?_
   .rw[bw,uy,fX (by omega)];simp[Array.getD,i,f]
   have g:=(aV.1 f).1;refine(h.2 j v _ f ?_).ext (Ext.push c.mlt β s _);rw[mI,fX (by omega)];simp[Array.getD,i,g]
def nN(g:dL β (Live M s β) w e a){d n:Nat}:∀{o:Option X} {o':Option Operand} (_:qE o o'=true) (_:fI e d o=some n),(o'.map a.eval=none/\n=d)∨∃k,o'.map a.eval=some (.int k (.ofNat n))
 |none,none,_,h=>by cases h;exact .inl ⟨rfl,rfl⟩
 |some x,some y,b,h=>by
  simp only[qE]at b;simp only[fI]at h;cases c:bq x e with
  |none=>rw[c]at h;cases h
  |some v=>
   rw[c]at h;have f:=aH g b c;generalize i:a.eval y=u at f;cases f with
   |int k z=>
    cases z with
    |ofNat z=>cases h;exact .inr ⟨k,by simp[i]⟩
    |negSucc z=>cases h
   |_=>cases h
 |none,some _,b,_=>by simp[qE]at b
 |some _,none,b,_=>by simp[qE]at b
def C0{t E:TypeId}(g:P.underlying t=some (.slice E)){sz:Nat}(i:dI P E=some sz){A:Option Addr}{len cap:Nat}{b c:Option Value}{l h:Nat}
  (d:(b=none/\l=0)∨∃k,b=some (.int k (.ofNat l)))(f:(c=none/\h=len)∨∃k,c=some (.int k (.ofNat h)))(o:l<=h)(p:h<=cap):
  (Instr.sliceAt t (.slice A len cap) b c none).run P w=.ok (.slice (if cap=l then A else A.map (·.add (l*sz))) (h-l) (cap-l)) w:=by
 have j:(Instr.sliceAt t (.slice A len cap) b c none).run P w=(Instr.slice t (.slice A len cap) b c none).run P w:=by simp[Instr.sliceAt,run_underlying g]
 rw[j];have m:∀k (code:BoundsCode),(Instr.sliceBound (.int k (.ofNat h)) cap code).run P w=.ok h w:=λk code=>run_sliceBound (P:=P) w k (.ofNat h) cap code (by simp) (by simp;omega)
 have n:∀k (code:BoundsCode),(Instr.sliceBound (.int k (.ofNat l)) h code).run P w=.ok l w:=λk code=>run_sliceBound (P:=P) w k (.ofNat l) h code (by simp) (by simp;omega)
 rcases d with⟨rfl,rfl⟩|⟨q,rfl⟩<;>rcases f with⟨rfl,rfl⟩|⟨r,rfl⟩<;>
  simp only[Instr.slice,Sem.run_bind,run_underlying g,Result.andThen_ok,Instr.sliceBounds,Sem.run_pure,m,n,gf i,Jp,cy,bp,bf]
def HR.C1{N:aG}{au:aR}{A:Option Addr}{len cap:Nat}(h:HR β N w (.psl au) (.slice A len cap)){sz l d:Nat}(G:l<=d)(y:d<=au.length)
  (t:∀row∈au,row.length=sz):HR β N w (.psl ((au.drop l).take (d-l))) (.slice (if cap=l then A else A.map (·.add (l*sz))) (d-l) (cap-l)):=by
 cases h with
 |psl0 _ _ r=>
  simp only[aE]at y;have:l=0:=by omega
  subst this;have:d=0:=by omega
  subst this;simp only[List.drop_nil,List.take_nil,lg,Nat.sub_zero];refine .psl0 _ _ (λn=>?_)
  split at n
  .exact r n
  cases A with|none=>exact r rfl|some H=>simp at n
 |psl _ b o _ c g z u x k h0 B D=>
  have hlen:((au.drop l).take (d-l)).length=d-l:=by simp;omega
  by_cases E:d-l=0
  .have r:(au.drop l).take (d-l)=[]:=by apply iJ;omega
   rw[r,E];refine .psl0 _ _ (λn=>?_)
   split at n<;>simp at n
  have F:c=sz:=by have I:=k 0 au[0] (aO (by omega));have J:=t au[0] (bX (by omega));omega
  subst F;rw[aq (by omega)];simp only[ml,gw];have m:∀i,i<d-l->((au.drop l).take (d-l))[i]?=au[l+i]?:=λi f=>by rw[rV f,mH]
  have:=HR.psl (β:=β) (N:=N) (w:=w) ((au.drop l).take (d-l)) b (o+l*c) (cap-l) c (λi j=>g (l+i) j) z u (by omega) (λi row f=>?_) (λrow p=>h0 row (Pn (lR p))) (λi j f v=>?_) λi row j q f v=>?_
  .rw[hlen]at this;exact this
  .rw[m i (by rw[<-hlen];exact(aV.1 f).1)]at f;exact k _ _ f
  .rw[hlen]at f;have:=B (l+i) j (by omega) v;rw[qW]at this;rw[show o+l*c+(i*c+j)=o+(l*c+i*c+j) by omega];exact this
  rw[m i (by rw[<-hlen];exact(aV.1 f).1)]at f;exact D _ _ _ _ f v
def ir{sz:Nat}:∀{l:aR},dt sz l=true->∀row∈l,row.length=sz
 |[],_=>by simp
 |r::l,h=>by
  simp only[dt,aL]at h;intro row b;rcases bm.1 b with rfl|b
  .rw[<-bF];exact bh.1 h.1
  exact ir h.2 row b
def Pz(D:cf M C β s w)(Q:dL β (Live M s β) w e a){go:Oper}{x:X}{T V W:Option X}{sz:Nat}(N:bb P (.slc x T V W sz) go.op=true):cv M C P β s w a go (CM x T V W sz e s):=by
 cases F:go.op<;>rw[F]at N<;>try cases N
 rename_i t x' ha hd G;simp only[bb,aL]at N;obtain⟨⟨⟨⟨hx,Y⟩,Z⟩,H⟩,hE⟩:=N
 split at hE
 case h_2=>cases hE
 rename_i E h4;have ht:=iH h4;have hs:=bZ.1 hE;unfold CM;cases h1:bq x e with
 |none=>trivial
 |some p=>
  have B:=aH Q hx h1;generalize hu:a.eval x'=u at B;have run:∀{A len cap l h},W=none->u=.slice A len cap->fI e 0 T=some l->fI e len V=some h->l<=h->h<=cap->
    (execOp a.eval go).run P w=.ok (.value (.slice (if cap=l then A else A.map (·.add (l*sz))) (h-l) (cap-l))) w:=by
   intro A len cap l h hm h5 d z I k4;have J:G=none:=by cases G with|none=>rfl|some y=>rw[hm]at H;simp[qE]at H
   subst J;have:=C0 (P:=P) (w:=w) ht hs (A:=A) (len:=len) (cap:=cap) (nN Q Y d) (nN Q Z z) I k4;simp only[execOp,F,hu,h5,PA];simp[this]
  cases B with
  |ai=>
   simp only[]
   split
   .rename_i O m q;refine .val (v:=.ai) D (run rfl rfl m q (aY _) (aY _)) ?_;simp only[bf,lg];exact .ai
   trivial
  |sl o f len i cap n pl h6 hf hl hb hg=>
   simp only[]
   split
   .rename_i O l h m q;cases j:(Nat.ble l h&&Nat.ble h len&&Nat.beq sz i)with|false=>trivial|true=>
     simp only[aL,eo,bh]at j;obtain⟨⟨d,z⟩,rfl⟩:=j;refine .val (v:=.sl o (f+l*sz) (h-l) sz) D (run rfl rfl m q d (by omega)) ?_;by_cases r:cap=l
     .rw[ar r];have e1:h-l=0:=by omega
      have e2:cap-l=0:=by omega
      rw[e1,e2];exact .p8 _ _ _ _ _
     rw[aq r];simp only[ml,gw];rw[show f-pl.s+l*sz=f+l*sz-pl.s by omega];refine .sl o _ _ sz _ n pl h6 (by omega) (by omega) hb ?_;have:(cap-l)*sz+l*sz=cap*sz:=by rw[<-Nat.add_mul];congr 1;omega
     omega
   trivial
  |p8 o f i b k=>
   simp only[]
   split
   .rename_i O l h m q;cases j:(Nat.ble l h&&Nat.ble h 0&&Nat.beq sz i)with|false=>trivial|true=>
     simp only[aL,eo,bh]at j;obtain⟨⟨d,z⟩,rfl⟩:=j;refine .val (v:=.sl o (f+l*sz) (h-l) sz) D (run rfl rfl m q d (by omega)) ?_;have e1:l=0:=by omega
     have e2:h=0:=by omega
     subst e1;subst e2;simp only[bf,lg];exact .p8 _ _ _ _ _
   trivial
  |psl0 A cap hn=>
   have B:HR β (Live M s β) w (.psl []) (.slice A 0 cap):=.psl0 A cap hn;simp only[]
   split
   .rename_i O l h m q;cases j:(Nat.ble l h&&Nat.ble h (aM ([]:aR))&&dt sz [])with|false=>trivial|true=>simp only[aL,eo,bF]at j;obtain⟨⟨d,z⟩,I⟩:=j;refine .val (v:=.psl (gQ (h-l) (iB l []))) D (run rfl rfl m q d (by simp at z;omega)) ?_;rw[jQ,mE];exact B.C1 d z (ir I)
   trivial
  |psl c b o cap i g hN h7 L h8 h0 r h9=>
   have B:HR β (Live M s β) w (.psl c) (.slice (some ⟨b,o,none⟩) c.length cap):=.psl c b o cap i g hN h7 L h8 h0 r h9;simp only[];rw[bF]
   split
   .rename_i O l h m q;cases j:(Nat.ble l h&&Nat.ble h c.length&&dt sz c)with|false=>trivial|true=>simp only[aL,eo]at j;obtain⟨⟨d,z⟩,I⟩:=j;refine .val (v:=.psl (gQ (h-l) (iB l c))) D (run rfl rfl m q d (by omega)) ?_;rw[jQ,mE];exact B.C1 d z (ir I)
   trivial
  |_=>trivial
def Bj(b:ByteArray)(l h:Nat):eb (b.extract l h)=mC (eb b) l h:=by unfold eb mC;rw[jQ,ByteArray.data_extract,PB,PC,EK,List.map_drop]
def PD(F:cf M C β s w)(m:dL β (Live M s β) w e a){go:Oper}{x:X}{z A:Option X}(i:bb P (.sls x z A) go.op=true):cv M C P β s w a go (CN x z A e s):=by
 cases j:go.op<;>rw[j]at i<;>try cases i
 rename_i t G c d n;cases n with
 |some y=>simp[bb]at i
 |none=>
 simp only[bb,aL]at i;obtain⟨⟨⟨H,o⟩,q⟩,B⟩:=i
 split at B
 case h_2=>cases B
 rename_i D;unfold CN;cases I:bq x e with
 |none=>trivial
 |some p=>
  have r:=aH m H I;generalize J:a.eval G=u at r;cases r with
  |str b=>
   simp only[];rw[bF,gx]
   split
   .rename_i l h L N;cases E:(Nat.ble l h&&Nat.ble h b.size)with|false=>trivial|true=>
     simp only[aL,eo]at E;obtain⟨O,Q⟩:=E;refine .val (v:=.str (mC (eb b) l h)) (u:=.string (b.extract l h)) F ?_ (by rw[<-Bj];exact .str _);have T:∀k (code:BoundsCode),(Instr.sliceBound (.int k (.ofNat h)) b.size code).run P w=.ok h w:=λk code=>run_sliceBound (P:=P) w k (.ofNat h) b.size code (by simp) (by simp;omega)
     have V:∀k (code:BoundsCode),(Instr.sliceBound (.int k (.ofNat l)) h code).run P w=.ok l w:=λk code=>run_sliceBound (P:=P) w k (.ofNat l) h code (by simp) (by simp;omega)
     have W:(Instr.sliceAt t (.string b) (c.map a.eval) (d.map a.eval) none).run P w=.ok (.string (b.extract l h)) w:=by
      have Y:(Instr.sliceAt t (.string b) (c.map a.eval) (d.map a.eval) none).run P w=(Instr.slice t (.string b) (c.map a.eval) (d.map a.eval) none).run P w:=by simp[Instr.sliceAt,run_underlying D]
      rw[Y];have f:=nN m o L;have g:=nN m q N;generalize c.map a.eval=Z at f ⊢;generalize d.map a.eval=r at g ⊢;rcases f with⟨rfl,rfl⟩|⟨O,rfl⟩<;>rcases g with⟨rfl,rfl⟩|⟨Q,rfl⟩<;>
       simp only[Instr.slice,Sem.run_bind,run_underlying D,Result.andThen_ok,Instr.sliceBounds,Sem.run_pure,T,V,Jp,cy,bp,bf]
     simp only[execOp,j,J,PA];simp[W]
   trivial
  |_=>trivial
def PE(g:cf M C β s w)(h:dL β (Live M s β) w e a){go:Oper}{x:X}(c:bb P (.cvs x) go.op=true):cv M C P β s w a go (CQ x e s):=by
 cases d:go.op<;>rw[d]at c<;>try cases c
 rename_i n o y;simp only[bb,aL]at c;obtain⟨i,c⟩:=c
 split at c
 case h_2=>cases c
 rename_i j k;unfold CQ;cases l:bq x e with
 |none=>trivial
 |some p=>have f:=aH h i l;generalize m:a.eval y=u at f;cases f with|str b=>exact .val (v:=.str (eb b)) g (by simp[execOp,d,m,convert,underlying,j,k]) (.str b)|_=>trivial
def Jq(n:Nat)(h:n<256):eb ⟨#[UInt8.ofNat n]⟩=[n]:=by simp[eb];omega
def Jr(n m:Nat)(h:n<256)(b:m<256):eb ⟨#[UInt8.ofNat n,UInt8.ofNat m]⟩=[n,m]:=by simp[eb];omega
def Mg(z:Nat)(h:z<128):Utf8.encode (Int.ofNat z)=⟨#[UInt8.ofNat z]⟩:=by
 show Utf8.encode (z:Int)=_;have b:Utf8.valid (z:Int)=true:=by simp[Utf8.valid];omega
 unfold Utf8.encode;simp only[b,bf,jy];rw[ar (by omega)]
def Mh(z:Nat)(h:128<=z)(c:z<2048):Utf8.encode (Int.ofNat z)=⟨#[UInt8.ofNat (192+z/64),UInt8.ofNat (128+z%64)]⟩:=by
 show Utf8.encode (z:Int)=_;have b:Utf8.valid (z:Int)=true:=by simp[Utf8.valid];omega
 unfold Utf8.encode;simp only[b,bf,jy];rw[aq (by omega),ar (by omega)]
def PF(g:cf M C β s w)(l:dL β (Live M s β) w e a){go:Oper}{x:X}(c:bb P (.cis x) go.op=true):cv M C P β s w a go (CO x e s):=by
 cases d:go.op<;>rw[d]at c<;>try cases c
 rename_i A B y;simp only[bb,aL]at c;obtain⟨m,c⟩:=c
 split at c
 case h_2=>cases c
 rename_i D n o;unfold CO;cases q:bq x e with
 |none=>trivial
 |some p=>
  have i:=aH l m q;generalize r:a.eval y=u at i;cases i with
  |int k z=>
   cases z with
   |negSucc z=>trivial
   |ofNat z=>
    have b:(execOp a.eval go).run P w=.ok (.value (.string (Utf8.encode (.ofNat z)))) w:=by simp[execOp,d,r,convert,underlying,n,o,Conv.intToString]
    simp only[];cases f:Nat.blt z 128 with
    |true=>rw[cp]at f;refine .val (v:=.str [z]) g b ?_;rw[Mg z f,<-Jq z (by omega)];exact .str _
    |false=>
     simp only[cond_false];have t:¬z<128:=λh=>by rw[cp.2 h]at f;cases f
     cases j:Nat.blt z 2048 with|true=>rw[cp]at j;refine .val (v:=.str [192+z/64,128+z%64]) g b ?_;rw[Mh z (by omega) j,<-Jr (192+z/64) (128+z%64) (by omega) (by omega)];exact .str _|false=>trivial
  |_=>trivial
def mo{N:aG}:∀{l:ak} {f:List Value} {b:ay} (_:eS β N w l f) (_:bytesOf l=some b),
  ∃g:aQ,f=g.map (Value.int .u8)/\eb (g.foldl (λr n=>r.push (UInt8.ofNat n.toNat)) ByteArray.empty)=b:=by
 have gen:∀{l:ak} {f:List Value} {b:ay} (_:eS β N w l f) (_:bytesOf l=some b),∃g:aQ,f=g.map (Value.int .u8)/\
   ∀d:ByteArray,eb (g.foldl (λr n=>r.push (UInt8.ofNat n.toNat)) d)=eb d++b:=by
  intro l
  induction l with
  |nil=>intro f b h c;cases c;have:=h.1;cases f with|nil=>exact⟨[],rfl,λd=>by simp⟩|cons=>simp at this
  |cons v l p=>
   intro f b h c;obtain⟨u,f,rfl,j,k⟩:=h.split;unfold bytesOf at c
   split at c
   .rename_i m;cases m
   .rename_i n r m;cases m;cases i:Nat.blt n 256 with
    |false=>rw[i]at c;cases c
    |true=>
     rw[i]at c;have i:=cp.1 i;simp only[cond_true]at c
     split at c
     .rename_i t o;cases c;cases j;obtain⟨g,rfl,q⟩:=p k o;refine⟨.ofNat n::g,rfl,λd=>?_⟩;simp only[nO];rw[q];have:eb (d.push (UInt8.ofNat (Int.ofNat n).toNat))=eb d++[n]:=by simp only[eb,ByteArray.data_push,Array.toList_push,eD,cL,qX];simp;omega
      rw[this];simp
     cases c
   cases c
 intro l f b h c;obtain⟨g,j,k⟩:=gen h c;exact⟨g,j,by rw[k];simp[eb]⟩
def Aj:∀{au:aR} (_:∀row∈au,row.length=1),(aD au).length=au.length/\∀(i:Nat) (v:HV),(aD au)[i]?=some v->∃row:ak,au[i]?=some row/\row[0]?=some v
 |[],_=>⟨rfl,by simp[aD]⟩
 |r::l,h=>by
  obtain⟨d,f⟩:=Aj (au:=l) λrow b=>h row (dh _ b)
  have g:=h r dy
  match r,g with
  |[x],_=>refine⟨by simp[aD,d],λi v c=>?_⟩;cases i with|zero=>simp[aD]at c;subst c;exact⟨[x],rfl,rfl⟩|succ i=>simp[aD]at c;simpa using f i v c
def PG(t:cf M C β s w)(he:dL β (Live M s β) w e a){go:Oper}{x:X}(f:bb P (.cbs x) go.op=true):cv M C P β s w a go (CP x e s):=by
 cases B:go.op<;>rw[B]at f<;>try cases f
 rename_i sT tT y;simp only[bb,aL]at f;obtain⟨hx,f⟩:=f
 split at f
 case h_2=>cases f
 rename_i e0 hs ht
 split at f
 case h_2=>cases f
 rename_i hE;unfold CP;cases h1:bq x e with
 |none=>trivial
 |some p=>
  have V:=aH he hx h1;generalize h:a.eval y=u at V;have run:∀{A len cap v},u=.slice A len cap->(Conv.bytesToString (.slice A len cap)).run P w=.ok v w->(execOp a.eval go).run P w=.ok (.value v) w:=by intro A len cap v G W;have:=run_convert_bytes_string (P:=P) w sT tT e0 A len cap hs hE ht;simp only[execOp,B,h,G];simp[this,W]
  cases V with
  |ai=>
   refine .val (v:=.str []) (u:=.string .empty) t (run rfl (by simp[Conv.bytesToString])) ?_;have:([]:ay)=eb ByteArray.empty:=by simp[eb]
   rw[this];exact .str _
  |sl o i len m cap n pl H h4 hl W h5=>
   simp only[];cases z:s.bE o i len with
   |none=>trivial
   |some l=>
    simp only[];cases D:bytesOf l with
    |none=>trivial
    |some b=>
     obtain⟨Y,E,k3,g,k4,k5⟩:=t.bE H z;have q:eS β (Live M s β) w l (List.ofFn (n:=len) λj=>g j):=⟨by simp[E],λj v u d h=>by
      have r:j<len:=by have:=(aV.1 h).1;simpa using this
      simp only[tc,r,dite_true,bT]at h;subst h;exact k5 j v d⟩
     obtain⟨F,I,J⟩:=mo q D;have L:(loadCells ⟨pl.b,i-pl.s,none⟩ len).run P w=.ok (F.map (Value.int .u8)).toArray w:=by rw[run_loadCells P w _ _ _ g k4,<-I];congr 1;apply sZ;simp
     refine .val (v:=.str b) t (run rfl (run_bytesToString (P:=P) w _ len cap F L)) ?_;rw[<-J];exact .str _
  |p8 o i m N k=>
   simp only[];cases z:s.bE o i 0 with
   |none=>trivial
   |some l=>
    simp only[];cases D:bytesOf l with
    |none=>trivial
    |some b=>
     obtain⟨_,_,_,_,_,_,_,E,_⟩:=HS.kK z;have:l=[]:=iJ E;subst this;cases D;refine .val (v:=.str []) t (run rfl (run_bytesToString (P:=P) w ⟨N,k,none⟩ 0 0 [] (by simp[loadCells,loadCellsFrom]))) ?_;have:([]:ay)=eb ByteArray.empty:=by simp[eb]
     simp only[List.foldl_nil];rw[this];exact .str _
  |psl0 A cap hn=>
   simp only[aD,dt,cond_true,bytesOf];refine .val (v:=.str []) (u:=.string .empty) t (run rfl ?_) ?_
   .cases A with|none=>simp[Conv.bytesToString]|some ad=>exact run_bytesToString (P:=P) w ad 0 cap [] (by simp[loadCells,loadCellsFrom])
   have:([]:ay)=eb ByteArray.empty:=by simp[eb]
   rw[this];exact .str _
  |psl c N o cap m g hN h6 Z O h0 Q T=>
   simp only[];cases z:dt 1 c with
   |false=>trivial
   |true=>
    simp only[cond_true];cases D:bytesOf (aD c)with
    |none=>trivial
    |some b=>
     obtain⟨Y,E⟩:=Aj (ir z);have hz:∀j,j<c.length->m=1:=λj d=>by have:=O j c[j] (aO d);have:=ir z c[j] (bX d);omega
     have q:eS β (Live M s β) w (aD c) (List.ofFn (n:=c.length) λj=>g j 0):=⟨by simp[Y],λj v u d h=>by
      have r:j<c.length:=by have:=(aV.1 h).1;simpa using this
      simp only[tc,r,dite_true,bT]at h;subst h;obtain⟨row,r1,r2⟩:=E j v d;exact T j row 0 v r1 r2⟩
     obtain⟨F,I,J⟩:=mo q D;have L:(loadCells ⟨N,o,none⟩ c.length).run P w=.ok (F.map (Value.int .u8)).toArray w:=by rw[run_loadCells P w _ _ _ (λj=>g j 0) λj d=>by have:=Q j 0 d (by rw[hz j d];omega);rw[hz j d]at this;simpa using this,<-I];congr 1;apply sZ;simp
     refine .val (v:=.str b) t (run rfl (run_bytesToString (P:=P) w _ c.length cap F L)) ?_;rw[<-J];exact .str _
  |_=>trivial
def Js{N:aG}{v:HV}{u:Value}{q:Bool}(h:HR β N w v u)(b:ox 0 v=some q):∃A l c,u=.slice A l c/\q=A.isNone:=by
 cases h with
 |ai=>cases b;exact⟨_,_,_,rfl,rfl⟩
 |sl=>cases b;exact⟨_,_,_,rfl,rfl⟩
 |p8=>cases b;exact⟨_,_,_,rfl,rfl⟩
 |psl d=>cases d with
  |nil=>cases b
  |cons x l=>cases b;exact⟨_,_,_,rfl,rfl⟩
 |_=>cases b
def Jt{N:aG}{v:HV}{u:Value}{q:Bool}(h:HR β N w v u)(b:ox 1 v=some q):∃A,u=.map A/\q=A.isNone:=by
 cases h with
 |fV=>cases b;exact⟨_,rfl,rfl⟩
 |mp=>cases b;exact⟨_,rfl,rfl⟩
 |_=>cases b
def Ju{N:aG}{v:HV}{u:Value}{q:Bool}(h:HR β N w v u)(c:ox 2 v=some q):(u=.nilFunc/\q=true)∨∃f a b,u=.func f a b/\q=false:=by
 cases h with
 |gU=>cases c;exact .inl ⟨rfl,rfl⟩
 |fn=>cases c;exact .inr ⟨_,_,_,rfl,rfl⟩
 |jk=>cases c;exact .inr ⟨_,_,_,rfl,rfl⟩
 |_=>cases c
def Jv{N:aG}{v:HV}{u:Value}{q:Bool}(h:HR β N w v u)(b:ox 3 v=some q):∃A,u=.pointer A/\q=A.isNone:=by
 cases h with
 |dZ=>cases b;exact⟨_,rfl,rfl⟩
 |ptr=>cases b;exact⟨_,rfl,rfl⟩
 |ax=>cases b;exact⟨_,rfl,rfl⟩
 |_=>cases b
def Gw(P:Program)(k:Nat)(t:TypeId)(n:Value):Prop:=(k=0/\(∃E,P.underlying t=some (.slice E))/\n=.slice none 0 0)∨(k=1/\(∃K E,P.underlying t=some (.map K E))/\n=.map none)∨
      (k=2/\(∃A B c,P.underlying t=some (.func A B c))/\n=.nilFunc)∨(k=3/\(∃E,P.underlying t=some (.pointer E))/\n=.pointer none)
def C2{N:aG}{v:HV}{u:Value}{k:Nat}{q:Bool}(h:HR β N w v u)(i:ox k v=some q){t:TypeId}{n:Value}(j:Gw P k t n)(d:Nat):
  (Op.equalIn (d+1) t u n).run P w=.ok q w/\(Op.equalIn (d+1) t n u).run P w=.ok q w:=by
 rcases j with⟨rfl,⟨E,g⟩,rfl⟩|⟨rfl,⟨K,E,g⟩,rfl⟩|⟨rfl,⟨A,B,c,g⟩,rfl⟩|⟨rfl,⟨E,g⟩,rfl⟩
 .obtain⟨A,l,c,rfl,rfl⟩:=Js h i;constructor<;>cases A<;>simp only[Op.equalIn,Sem.run_bind,run_underlying g,Result.andThen_ok]<;>rfl
 .obtain⟨A,rfl,rfl⟩:=Jt h i;constructor<;>cases A<;>simp only[Op.equalIn,Sem.run_bind,run_underlying g,Result.andThen_ok]<;>rfl
 .rcases Ju h i with⟨rfl,rfl⟩|⟨f,a,b,rfl,rfl⟩<;>constructor<;>simp only[Op.equalIn,Sem.run_bind,run_underlying g,Result.andThen_ok]<;>rfl
 obtain⟨A,rfl,rfl⟩:=Jv h i;constructor<;>cases A<;>simp only[Op.equalIn,Sem.run_bind,run_underlying g,Result.andThen_ok]<;>rfl
def U8:Value->Bool
 |.slice .. |.map _|.func .. |.nilFunc|.pointer _=>true
 |_=>false
def H9{N:aG}{v:HV}{u:Value}{k:Nat}{q:Bool}(h:HR β N w v u)(d:ox k v=some q){t:TypeId}{n:Value}(i:Gw P k t n):U8 u=true/\U8 n=true:=by
 rcases i with⟨rfl,⟨E,g⟩,rfl⟩|⟨rfl,⟨K,E,g⟩,rfl⟩|⟨rfl,⟨A,B,c,g⟩,rfl⟩|⟨rfl,⟨E,g⟩,rfl⟩
 .obtain⟨A,l,c,rfl,rfl⟩:=Js h d;exact⟨rfl,rfl⟩
 .obtain⟨A,rfl,rfl⟩:=Jt h d;exact⟨rfl,rfl⟩
 .rcases Ju h d with⟨rfl,rfl⟩|⟨f,a,b,rfl,rfl⟩<;>exact⟨rfl,rfl⟩
 obtain⟨A,rfl,rfl⟩:=Jv h d;exact⟨rfl,rfl⟩
def Ak{x y:Value}(h:U8 x=true)(op:BinOp)(t:TypeId)(p q:Operand):(eqGuard op t p q x y).run P w=.ok () w:=by
 unfold eqGuard;cases cO:(!(op matches .eql|.neq))with
 |true=>rfl
 |false=>simp only[cy,bp];cases x<;>first|rfl|(simp[U8]at h)
def vL{x y:Value}(h:U8 x=true)(t:TypeId):binOp .eql t x y=(do pure (.bool (<-Op.equal t x y)):Sem Value)/\binOp .neq t x y=(do pure (.bool (!(<-Op.equal t x y))):Sem Value):=by cases x<;>first|exact⟨rfl,rfl⟩|(simp[U8]at h)
def C3{N:aG}{v:HV}{u:Value}{k:Nat}{q:Bool}(h:HR β N w v u)(g:ox k v=some q){t:TypeId}{n:Value}(i:Gw P k t n):(∀op x y,(eqGuard op t x y u n).run P w=.ok () w/\(eqGuard op t x y n u).run P w=.ok () w)/\
      (binOp .eql t u n).run P w=.ok (.bool q) w/\(binOp .eql t n u).run P w=.ok (.bool q) w/\(binOp .neq t u n).run P w=.ok (.bool !q) w/\(binOp .neq t n u).run P w=.ok (.bool !q) w:=by
  obtain⟨d,f⟩:=H9 h g i;obtain⟨b,c⟩:=C2 h g i 9999;have b:(Op.equal t u n).run P w=.ok q w:=b;have c:(Op.equal t n u).run P w=.ok q w:=c;refine⟨λop x y=>⟨Ak d op t x y,Ak f op t x y⟩,?_,?_,?_,?_⟩
  . rw[(vL d t).1];simp[b]
  . rw[(vL f t).1];simp[c]
  . rw[(vL d t).2];simp[b]
  rw[(vL f t).2];simp[c]
def PH(z:cf M C β s w)(r:dL β (Live M s β) w e a){go:Oper}{k:Nat}{neg:Bool}{x:X}(c:bb P (.niq k neg x) go.op=true):cv M C P β s w a go (vk k neg x e s):=by
 cases i:go.op<;>rw[i]at c<;>try cases c
 rename_i op t g h I;simp only[bb,aL]at c;obtain⟨cO,c⟩:=c;unfold vk;cases y:bq x e with
 |none=>trivial
 |some p=>
  show cv M C P β s w a go (bU (ox k p) (λq=>.v (.bool (q != neg)) s) .bad);cases A:ox k p with
  |none=>trivial
  |some q=>
   have fin:∀(u n:Value),HR β (Live M s β) w p u->Gw P k t n->(a.eval g=u/\a.eval h=n∨a.eval g=n/\a.eval h=u)->cv M C P β s w a go (.v (.bool (q != neg)) s):=by
    intro u n B D j;obtain⟨m,E,F,G,H⟩:=C3 B A D;refine .val (u:=.bool (q != neg)) z ?_ (.bool _);simp only[execOp,i]
    split at cO
    .have b:neg=false:=by simpa using cO
     subst b;rcases j with⟨d,f⟩|⟨d,f⟩
     .simp[d,f,(m .eql g h).1,E]
     simp[d,f,(m .eql g h).2,F]
    .have b:neg=true:=cO;subst b;rcases j with⟨d,f⟩|⟨d,f⟩
     .simp[d,f,(m .neq g h).1,G]
     simp[d,f,(m .neq g h).2,H]
    cases cO
   split at c
   case h_5=>cases c
   all_goals
    simp only[mJ,aL]at c;rcases c with⟨o,l⟩|⟨o,l⟩
    .split at l
     .refine fin _ _ (aH r o y) ?_ (.inl ⟨rfl,rfl⟩)
      first
       |exact .inl ⟨rfl,⟨_,by assumption⟩,rfl⟩
       |exact .inr (.inl ⟨rfl,⟨_,_,by assumption⟩,rfl⟩)
       |exact .inr (.inr (.inl ⟨rfl,⟨_,_,_,by assumption⟩,rfl⟩))
       |exact .inr (.inr (.inr ⟨rfl,⟨_,by assumption⟩,rfl⟩))
     cases l
    split at l
    .refine fin _ _ (aH r o y) ?_ (.inr ⟨rfl,rfl⟩)
     first
      |exact .inl ⟨rfl,⟨_,by assumption⟩,rfl⟩
      |exact .inr (.inl ⟨rfl,⟨_,_,by assumption⟩,rfl⟩)
      |exact .inr (.inr (.inl ⟨rfl,⟨_,_,_,by assumption⟩,rfl⟩))
      |exact .inr (.inr (.inr ⟨rfl,⟨_,by assumption⟩,rfl⟩))
    cases l
def eS.extract{N:aG}{l:ak}{cs:Array Value}(h:eS β N w l cs.toList)(i n:Nat):eS β N w ((l.drop i).take n) (cs.extract i (i+n)).toList:=by
 have d:(cs.extract i (i+n)).toList=(cs.toList.drop i).take n:=by rw[PB,PC];congr 1;omega
 rw[d];refine⟨by simp only[oX,Jj];rw[h.1],λj v u b c=>?_⟩;have f:j<n:=by have:=(aV.1 b).1;simp at this;omega
 rw[rV f,mH]at b c;exact h.2 _ v u b c
def wJ:∀(b c d f:ak),b.length=c.length->sU (b++d) (c++f)=(match sU b c with|some true=>sU d f|some false=>some false|none=>none)
 |[],[],_,_,_=>rfl
 |x::b,y::c,d,f,h=>by
  simp only[bB,sU];cases g:x.zB y with
  |none=>rfl
  |some q=>cases q with|true=>exact wJ b c d f (by simpa using h)|false=>rfl
 |[],_::_,_,_,h=>by simp at h
 |_::_,[],_,_,h=>by simp at h
def lS:∀{b:ay} {l:ak},ds b l=true->l.length=b.length
 |[],[],_=>rfl
 |k::b,v::l,h=>by simp only[ds,aL]at h;simp[lS h.2]
 |[],_::_,h=>by simp[ds]at h
 |_::_,[],h=>by simp[ds]at h
def lU:∀{c b:ay} {l:ak},ds (c++b) l=true->ds c (l.take c.length)=true/\ds b (l.drop c.length)=true
 |[],_,l,h=>by simpa[ds]using h
 |k::c,b,v::l,h=>by simp only[bB,ds,aL]at h;obtain⟨d,f⟩:=lU h.2;simp only[aA,List.take_succ_cons,List.drop_succ_cons,ds,aL];exact⟨⟨h.1,d⟩,f⟩
 |_::_,_,[],h=>by simp[ds]at h
def Al(P:Program)(t:TypeId)(x:Value):Prop:=(dK P t=some true/\∃b,x=.agg b)∨(dK P t=some false/\x.cells= #[x])
def qY{N:aG}{t:TypeId}{c:ay}(k:dI P t=some c.length){l:ak}{cs:Array Value}(h:eS β N w l cs.toList){bo:Nat}(m:∀v∈l,v.one=true)(o:bo+c.length<=l.length)(n:∃q,dK P t=some q/\(q=false->c.length=1)):
  ∃x,(part t cs bo).run P w=.ok x w/\Al P t x/\eS β N w ((l.drop bo).take c.length) x.cells.toList:=by
 obtain⟨q,f,g⟩:=n;cases q with
 |true=>refine⟨.agg (cs.extract bo (bo+c.length)),?_,.inl ⟨f,_,rfl⟩,h.extract bo c.length⟩;simp[part,kS f,gf k]
 |false=>
  have g:=g rfl;have d:bo<cs.size:=by have:=h.1;simp at this;omega
  have b:bo<l.length:=by omega
  have i:=h.2 bo l[bo] cs[bo] (aO b) (by simp[d]);have j:=m l[bo] (bX b);refine⟨cs[bo],by simp[part,kS f,fX d],.inr ⟨f,i.single j⟩,?_⟩;rw[i.single j,g];have:(l.drop bo).take 1=[l[bo]]:=by rw[oY b];rfl
  rw[this];exact .cons i .nil
def tf{d:Nat}{t:TypeId}{b:ay}(h:eY P d t=some b):∃q,dK P t=some q/\(q=false->b.length=1):=by
 cases d with
 |zero=>simp[eY]at h
 |succ d=>
  unfold eY at h;unfold dK
  split at h<;>rename_i c<;>first
   |(rw[c];cases h;exact⟨false,rfl,λ_=>rfl⟩)
   |(rw[c];exact⟨true,rfl,λf=>by cases f⟩)
   |cases h
def EqAt(β:Bt)(N:aG)(P:Program)(w:World)(D:Nat)(t:TypeId)(b:ay):Prop:=∀(x y:Value) (l m:ak) (q:Bool),Al P t x->Al P t y->eS β N w l x.cells.toList->eS β N w m y.cells.toList->
 ds b l=true->ds b m=true->sU l m=some q->(Op.equalIn D t x y).run P w=.ok q w
def rX{b:ay}{l:ak}(h:ds b l=true):∀v∈l,v.one=true:=by
 induction b generalizing l with
 |nil=>cases l with|nil=>simp|cons=>simp[ds]at h
 |cons k b f=>cases l with|nil=>simp|cons v l=>
   simp only[ds,aL]at h;intro x c;rcases bm.1 c with rfl|c
   .have d:=h.1;unfold mg at d
    split at d<;>first|rfl|cases d
   exact f h.2 x c
def Ia{N:aG}(d D:Nat)(ih:∀(t:TypeId) (c:ay),eY P d t=some c->EqAt β N P w D t c):∀(k:List Field) (bo:Nat) (c:ay),eY.wG P d k bo=some c->
  ∀(xs ys:Array Value) (l m:ak) (q:Bool),eS β N w l xs.toList->eS β N w m ys.toList->bo+c.length=l.length->l.length=m.length->(∀v∈l,v.one=true)->(∀v∈m,v.one=true)->
   ds c (l.drop bo)=true->ds c (m.drop bo)=true->sU (l.drop bo) (m.drop bo)=some q->(Op.eqFields D xs ys k).run P w=.ok q w:=by
 intro k
 induction k with
 |nil=>intro bo c b xs ys l m q o p n H r u I J g;simp only[eY.wG,sX,bT]at b;subst b;have z:l.drop bo=[]:=PJ (by simp at n;omega);have A:m.drop bo=[]:=PJ (by simp at n;omega);rw[z,A]at g;cases g;rfl
 |cons f k B=>
  intro bo c b xs ys l m q o p n H r u I J g;simp only[eY.wG,sX]at b
  split at b
  case isFalse=>cases b
  rename_i E;simp only[aL,Bk,ne_eq,bZ]at E
  split at b
  case h_2=>cases b
  rename_i j i
  split at b
  case isFalse=>cases b
  rename_i h;have h:=bZ.1 h
  split at b
  case h_2=>cases b
  rename_i T F;simp only[bT]at b;subst b;rw[cE]at n;obtain⟨V,L⟩:=lU I;obtain⟨W,O⟩:=lU J;rw[Jw]at L O;obtain⟨x,X,Y,Z⟩:=qY h o (bo:=bo) r (by omega) (tf i);obtain⟨y,p4,p5,p6⟩:=qY h p (bo:=bo) u (by omega) (tf i);have z:l.drop bo=(l.drop bo).take j.length++l.drop (bo+j.length):=by rw[<-List.drop_drop,EM]
  have A:m.drop bo=(m.drop bo).take j.length++m.drop (bo+j.length):=by rw[<-List.drop_drop,EM]
  rw[z,A,wJ _ _ _ _ (by simp;omega)]at g;cases G:sU ((l.drop bo).take j.length) ((m.drop bo).take j.length)with
  |none=>rw[G]at g;cases g
  |some Q=>
   have:=ih _ _ i x y _ _ Q Y p5 Z p6 V W G;simp only[Op.eqFields];rw[ar E.1];simp only[E.2,Sem.run_bind,X,p4,this,Result.andThen_ok];rw[G]at g;cases Q with
   |false=>cases g;simp
   |true=>simp only[oC,cy,bp];exact B _ T F xs ys l m q o p (by omega) H r u L O g
def Am{N:aG}:∀(d j:Nat) (t:TypeId) (p:ay),eY P d t=some p->EqAt β N P w (d+j) t p:=by
 intro d
 induction d with
 |zero=>intro j t p h;simp[eY]at h
 |succ d Y=>
  intro j t p h x y l m q O Q F G tl o r;rw[show d+1+j=(d+j)+1 by omega];have f:∀k,p=[k]->dK P t=some false->∃v i,l=[v]/\m=[i]/\mg k v=true/\mg k i=true/\HR β N w v x/\HR β N w i y/\v.zB i=some q:=by
   intro k E g;subst E;have H:x.cells= #[x]:=by
    rcases O with⟨b,_⟩|⟨_,b⟩
    .rw[g]at b;cases b
    exact b
   have I:y.cells= #[y]:=by
    rcases Q with⟨b,_⟩|⟨_,b⟩
    .rw[g]at b;cases b
    exact b
   rw[H]at F;rw[I]at G;cases l with
   |nil=>simp[ds]at tl
   |cons v l=>
    cases l with
    |cons Z l=>simp[ds]at tl
    |nil=>
     cases m with
     |nil=>simp[ds]at o
     |cons i m=>
      cases m with
      |cons Z m=>simp[ds]at o
      |nil=>
       simp only[ds,jS]at tl o;refine⟨v,i,rfl,rfl,tl,o,F.2 0 v x rfl rfl,G.2 0 i y rfl rfl,?_⟩;simp only[sU]at r
       split at r
       .rename_i h0;cases r;exact h0
       .rename_i h0;cases r;exact h0
       cases r
  unfold eY at h
  split at h
  .rename_i k c;simp only[bT]at h;subst h;obtain⟨v,i,rfl,rfl,u,z,A,B,n⟩:=f 0 rfl (by simp[dK,c]);cases A<;>simp only[mg,cy]at u;cases B<;>simp only[mg,cy]at z;rename_i T n1 k2 n2;simp only[HV.zB]at n;by_cases E:T=k2
   .subst E;simp only[eV,cond_true,vK,bT]at n;subst n;rw[run_equalIn_int (P:=P) w (d+j) t T k n1 n2 c];rfl
   simp[E]at n
  .rename_i c;simp only[bT]at h;subst h;obtain⟨v,i,rfl,rfl,u,z,A,B,n⟩:=f 1 rfl (by simp[dK,c]);cases A<;>simp only[mg,cy]at u;cases B<;>simp only[mg,cy]at z;simp only[HV.zB,bT]at n;subst n;exact run_equalIn_bool (P:=P) w (d+j) t _ _ c
  .rename_i c;simp only[bT]at h;subst h;obtain⟨v,i,rfl,rfl,u,z,A,B,n⟩:=f 2 rfl (by simp[dK,c]);cases A<;>simp only[mg,cy]at u;cases B<;>simp only[mg,cy]at z;simp only[HV.zB,bT,tb]at n;subst n;exact run_equalIn_string (P:=P) w (d+j) t _ _ c
  .rename_i V c
   split at h
   .cases h
   rename_i J;have g:dK P t=some true:=by simp[dK,c]
   obtain⟨W,rfl⟩:∃L,x=.agg L:=by
    rcases O with⟨_,b⟩|⟨b,_⟩
    .exact b
    rw[g]at b;cases b
   obtain⟨X,rfl⟩:∃L,y=.agg L:=by
    rcases Q with⟨_,b⟩|⟨b,_⟩
    .exact b
    rw[g]at b;cases b
   have D:P.fieldsOf t=V:=by simp[Program.fieldsOf,c]
   rw[run_equalIn_struct (P:=P) w (d+j) t W X (by rw[D];exact c) (by simpa using J),D];have l1:=lS tl;have l2:=lS o;exact Ia d (d+j) (Y j) V.toList 0 p h W X l m q F G (by omega) (by omega) (rX tl) (rX o) tl o r
  cases h
def Jx{N:aG}{v d:HV}{x y:Value}(h:v.zB d=some true)(b:HR β N w v x)(c:HR β N w d y):x=y:=by
 unfold HV.zB at h
 split at h
 .rename_i k n g m;by_cases f:k=g
  .subst f;simp only[eV,cond_true,vK,bT,bL]at h;subst h;cases b;cases c;rfl
  simp[f]at h
 .simp only[bT,bZ]at h;subst h;cases b;cases c;rfl
 .rename_i l i;simp only[bT]at h;have:=(oS _ _).1 h;subst this;cases b;generalize j:eb _=i at*;cases c;rw[CX j]
 cases h
def C4{N:aG}:∀{l m:ak} {xs ys:List Value},sU l m=some true->eS β N w l xs->eS β N w m ys->xs=ys:=by
 intro l
 induction l with
 |nil=>
  intro m xs ys h b c;cases m with
  |nil=>have d:=b.1;have f:=c.1;simp at d f;rw[d,f]
  |cons=>cases h
 |cons v l g=>
  intro m xs ys h b c;cases m with
  |nil=>cases h
  |cons q m=>
   obtain⟨x,i,rfl,j,k⟩:=b.split;obtain⟨y,n,rfl,o,p⟩:=c.split;simp only[sU]at h
   split at h
   .rename_i h0;rw[Jx h0 j o,g h k p]
   .cases h
   cases h
def Ib(K:Kd)(v:HV):ak:=bif K.ag then(match v with|.agg l=>l|_=>[])else [v]
def Bl{b:ay}{k:HV}(h:qC ⟨true,b⟩ k=true):∃l,k=.agg l/\ds b l=true:=by
 cases k with
 |agg l=>exact⟨l,rfl,h⟩
 |_=>cases h
def iK{N:aG}{K:Kd}{T:TypeId}(d:nH P K T=true){k:HV}{u:Value}(b:qC K k=true)(h:HR β N w k u):
  Al P T u/\eS β N w (Ib K k) u.cells.toList/\ds K.ks (Ib K k)=true:=by
 obtain⟨f,ks⟩:=K;simp only[nH,aL,bZ]at d;cases f with
 |true=>obtain⟨l,rfl,g⟩:=Bl b;cases h with|agg _ o h0 c i=>exact⟨.inl ⟨d.2,_,rfl⟩,⟨by simpa[Ib,Value.cells]using c,λj x y m n=>i j x y m (by simpa[Value.cells]using n)⟩,g⟩
 |false=>have b:ds ks [k]=true:=b;have c:=h.single (rX b k (by simp));refine⟨.inr ⟨d.2,c⟩,?_,b⟩;rw[c];exact .cons h .nil
def rY{K:Kd}{x y:HV}{q:Bool}(h:qB K x y=some q):qC K x=true/\qC K y=true/\sU (Ib K x) (Ib K y)=some q:=by
 obtain⟨d,c⟩:=K;cases d with
 |true=>
  cases x with
  |agg l=>
   cases y with
   |agg m=>
    have h:(bif ds c l&&ds c m then sU l m else none)=some q:=h;cases b:(ds c l&&ds c m)with
    |false=>rw[b]at h;cases h
    |true=>rw[b]at h;simp only[aL]at b;exact⟨b.1,b.2,h⟩
   |_=>cases h
  |_=>cases h
 |false=>
  have h:(bif ds c [x]&&ds c [y]then x.zB y else none)=some q:=h;cases b:(ds c [x]&&ds c [y])with
  |false=>rw[b]at h;cases h
  |true=>rw[b]at h;simp only[aL]at b;refine⟨b.1,b.2,?_⟩;have f:x.zB y=some q:=h;show sU [x] [y]=some q;simp only[sU,f];cases q<;>rfl
def EN(β:Bt)(N:aG)(w:World)(es:List (HV×HV))(l:List MapEntry):Prop:=l.length=es.length/\∀(i:Nat) (p:HV×HV) (x:MapEntry),es[i]?=some p->l[i]?=some x->HR β N w p.1 x.key/\HR β N w p.2 x.val
def EN.split{N:aG}{p:HV×HV}{es:List (HV×HV)}{l:List MapEntry}(h:EN β N w (p::es) l):∃x l',l=x::l'/\HR β N w p.1 x.key/\HR β N w p.2 x.val/\EN β N w es l':=by cases l with|nil=>have:=h.1;simp at this|cons x l'=>refine⟨x,l',rfl,(h.2 0 p x rfl rfl).1,(h.2 0 p x rfl rfl).2,by have:=h.1;simpa using this,λi q y b c=>h.2 (i+1) q y (by simpa using b) (by simpa using c)⟩
def qb(β:Bt)(N:aG)(w:World)(u:Value)(l:List MapEntry)(b:Nat):Nat×Option HV->Option (Nat×Value)->Prop
 |(j,some v),o=>∃x:MapEntry,b<=j/\l[j-b]?=some x/\o=some (j,x.val)/\HR β N w v x.val/\x.key=u
 |(n,none),o=>o=none/\n=b+l.length
def qb.cons{N:aG}{u:Value}{x:MapEntry}{l:List MapEntry}{b:Nat}{r:Nat×Option HV}{o:Option (Nat×Value)}(h:qb β N w u l (b+1) r o):qb β N w u (x::l) b r o:=by obtain⟨j,v⟩:=r;cases v with|none=>exact⟨h.1,by have:=h.2;simp;omega⟩|some v=>obtain⟨y,i,c,d,f,g⟩:=h;refine⟨y,by omega,?_,d,f,g⟩;rw[show j-b=(j-(b+1))+1 by omega];exact c
def wK{N:aG}{K:Kd}{T:TypeId}(c:nH P K T=true)(o:K.ag=false){D:TypeDesc}(r:P.underlying T=some D){v j:HV}{x y:Value}{q:Bool}(h:qB K v j=some q)(m:HR β N w v x)(n:HR β N w j y):
  Instr.sameNow D x y=some q:=by
 obtain⟨ag,t⟩:=K;cases o;obtain⟨u,z,b⟩:=rY h;have g:ds t [v]=true:=(iK c u m).2.2;have i:ds t [j]=true:=(iK c z n).2.2;clear u z;have h0:v.zB j=some q:=by
  have b:sU [v] [j]=some q:=b;simp only[sU]at b
  split at b
  .rename_i p;cases b;exact p
  .rename_i p;cases b;exact p
  cases b
 simp only[nH,aL,bZ]at c;have d:=c.1;rw[show 8=7+1 from rfl]at d;unfold eY at d;rw[r]at d
 split at d
 .rename_i k f;cases f;cases d;simp only[ds,jS]at g i;clear h b c;cases m<;>simp only[mg,cy]at g;cases n<;>simp only[mg,cy]at i;rename_i A B E F;simp only[HV.zB]at h0;by_cases l:A=E
  .subst l;simp only[eV,cond_true,vK,bT]at h0;subst h0;simp only[Instr.sameNow,bf];by_cases G:B=F<;>simp[G]
  simp[l]at h0
 .rename_i f;cases f;cases d;clear h b c;simp only[ds,jS]at g i;cases m<;>simp only[mg,cy]at g;cases n<;>simp only[mg,cy]at i;simp only[HV.zB,bT]at h0;subst h0;rfl
 .rename_i f;cases f;cases d;clear h b c;simp only[ds,jS]at g i;cases m<;>simp only[mg,cy]at g;cases n<;>simp only[mg,cy]at i;simp only[HV.zB,bT,tb]at h0;subst h0;simp only[Instr.sameNow,beq_toListBytes]
 .rename_i H f;cases f;have:=c.2;simp[dK,r]at this
 cases d
def Gx{N:aG}{K:Kd}{v f:HV}{x y:Value}(h:qB K v f=some true)(b:HR β N w v x)(c:HR β N w f y):x=y:=by
 obtain⟨i,u⟩:=K;obtain⟨k,n,d⟩:=rY h;cases i with
 |false=>have d:sU [v] [f]=some true:=d;have:=C4 d (.cons b .nil) (.cons c .nil);simpa using this
 |true=>
  obtain⟨l,rfl,_⟩:=Bl k;obtain⟨m,rfl,_⟩:=Bl n;cases b with
  |agg _ o z p q=>cases c with|agg _ g A r t=>have d:sU l m=some true:=d;have:=C4 d (xs:=o.toList) (ys:=g.toList) ⟨by simpa using p,λj x y b c=>q j x y b (by simpa using c)⟩ ⟨by simpa using r,λj x y b c=>t j x y b (by simpa using c)⟩;rw[Pp.1 this]
def jH{N:aG}{K:Kd}{T:TypeId}(g:nH P K T=true){k:HV}{u:Value}(d:HR β N w k u){es:List (HV×HV)}{l:List MapEntry}(b:EN β N w es l){r:Nat×Option HV}(h:de K es k 0=some r):
  ∃o,(Instr.findKey T u l).run P w=.ok o w/\qb β N w u l 0 r o:=by
 have c:dK P T=some K.ag:=by simp only[nH,aL,bZ]at g;exact g.2
 obtain⟨D,j⟩:∃D,P.underlying T=some D:=by
  unfold dK at c;cases m:P.underlying T with
  |none=>rw[m]at c;cases c
  |some D=>exact⟨D,rfl⟩
 cases n:K.ag with
 |false=>
  have gen:∀(es:List (HV×HV)) (l:List MapEntry) (i:Nat) (r:Nat×Option HV),EN β N w es l->de K es k i=some r->∃o,Instr.findNow D u l i=some o/\qb β N w u l i r o:=by
   intro es
   induction es with
   |nil=>
    intro l i r b h;have:=b.1;cases l with
    |nil=>cases h;exact⟨none,rfl,rfl,rfl⟩
    |cons=>simp at this
   |cons p es G=>
    intro l i r b h;obtain⟨x,v,rfl,t,H,I⟩:=b.split;obtain⟨O,Q⟩:=p;simp only[de]at h
    split at h
    .rename_i f;cases h;refine⟨some (i,x.val),?_,x,aY _,by simp,rfl,H,(Gx f d t).symm⟩;simp only[Instr.findNow,wK g n j f d t]
    .rename_i f;obtain⟨o,J,L⟩:=G v (i+1) r I h;refine⟨o,?_,L.cons⟩;simp only[Instr.findNow,wK g n j f d t];exact J
    cases h
  obtain⟨o,B,E⟩:=gen es l 0 r b h;refine⟨o,?_,E⟩;unfold Instr.findKey;simp only[Sem.run_bind,run_underlying j,Result.andThen_ok,B,Sem.run_pure]
 |true=>
  have y:∃F,D=.struct F:=by
   simp only[nH,aL,bZ]at g;have z:=g.1;rw[show 8=7+1 from rfl]at z;unfold eY at z;rw[j]at z;rw[n]at c
   split at z
   .rename_i m;cases m;simp[dK,j]at c
   .rename_i m;cases m;simp[dK,j]at c
   .rename_i m;cases m;simp[dK,j]at c
   .rename_i F m;cases m;exact⟨_,rfl⟩
   cases z
  obtain⟨F,rfl⟩:=y;have gen:∀(es:List (HV×HV)) (l:List MapEntry) (i:Nat) (r:Nat×Option HV),EN β N w es l->de K es k i=some r->∃o,(Instr.findAsking T u l i).run P w=.ok o w/\qb β N w u l i r o:=by
   intro es
   induction es with
   |nil=>
    intro l i r b h;have:=b.1;cases l with
    |nil=>cases h;exact⟨none,rfl,rfl,rfl⟩
    |cons=>simp at this
   |cons p es G=>
    intro l i r b h;obtain⟨x,v,rfl,t,H,I⟩:=b.split;obtain⟨O,Q⟩:=p;simp only[de]at h;have A:∀q,qB K k O=some q->(Op.equal T u x.key).run P w=.ok q w:=by intro q f;obtain⟨V,W,X⟩:=rY f;obtain⟨Y,Z,d3⟩:=iK g V d;obtain⟨e1,e2,e3⟩:=iK g W t;simp only[nH,aL,bZ]at g;exact Am 8 9992 T K.ks g.1 u x.key _ _ q Y e1 Z e2 d3 e3 X
    split at h
    .rename_i f;cases h;refine⟨some (i,x.val),?_,x,aY _,by simp,rfl,H,(Gx f d t).symm⟩;simp only[Instr.findAsking,Sem.run_bind,A _ f,Result.andThen_ok,bf,Sem.run_pure]
    .rename_i f;obtain⟨o,J,L⟩:=G v (i+1) r I h;refine⟨o,?_,L.cons⟩;simp only[Instr.findAsking,Sem.run_bind,A _ f,Result.andThen_ok,cy,bp];exact J
    cases h
  obtain⟨o,B,E⟩:=gen es l 0 r b h;unfold Instr.findKey;cases l with|nil=>refine⟨o,?_,E⟩;simp only[Sem.run_bind,run_underlying j,Result.andThen_ok,Instr.findNow,Sem.run_pure];simpa[Instr.findAsking]using B|cons x v=>refine⟨o,?_,E⟩;simp only[Sem.run_bind,run_underlying j,Result.andThen_ok];have:Instr.findNow (.struct F) u (x::v) 0=none:=rfl;rw[this];exact B
end sound
def nP(o:Ky)(a b:Nat)(h:Tr Ob):∀(ms:cm),
  (∀x,ao (bP h o a b ms).1 x=ao h x∨(ao (bP h o a b ms).1 x=none/\x≠o))/\
  (∀x∈ms,∀t f i g,ao (bP h o a b ms).1 x=some (.cells t f i g)->x∈(bP h o a b ms).2/\(x≠o->¬(f<b/\a<i)))/\
  (∀x∈(bP h o a b ms).2,x∈ms)
 |[]=>⟨λx=>.inl rfl,by simp,by simp[bP]⟩
 |m::r=>by
  obtain⟨k,n,p⟩:=nP o a b h r;generalize G:bP h o a b r=q at k n p;obtain⟨H,l⟩:=q;simp only[bP,G];cases v:m.beq o with
  |true=>
   have j:=(Ky.beq_iff m o).1 v;simp only[cond_true];refine⟨k,λx c t f i g d=>?_,λx c=>?_⟩
   .rcases bm.1 c with rfl|c
    .exact⟨by simp,λy=>absurd j y⟩
    obtain⟨z,A⟩:=n x c t f i g d;exact⟨by simp[z],A⟩
   rcases bm.1 c with rfl|c
   .simp
   simp[p x c]
  |false=>
   have j:m≠o:=λe=>by rw[(Ky.beq_iff m o).2 e]at v;cases v
   simp only[cond_false]
   split
   .rename_i I B D J E;cases u:(Nat.blt B b&&Nat.blt a D)with
    |true=>
     simp only[cond_true];refine⟨λx=>?_,λx c t f i g d=>?_,λx c=>by simp[p x c]⟩
     .simp only[af];by_cases e:x=m
      .simp only[e,bf];exact .inr ⟨trivial,j⟩
      simp only[e,bp];exact k x
     simp only[af]at d;by_cases e:x=m
     .simp[e]at d
     simp only[e,bp]at d;rcases bm.1 c with rfl|c
     .exact absurd rfl e
     exact n x c t f i g d
    |false=>
     simp only[cond_false];refine⟨k,λx c t f i g d=>?_,λx c=>?_⟩
     .rcases bm.1 c with rfl|c
      .refine⟨by simp,λ_ F=>?_⟩;rw[E]at d;cases d;rw[cp.2 F.1,cp.2 F.2]at u;cases u
      obtain⟨z,A⟩:=n x c t f i g d;exact⟨by simp[z],A⟩
     rcases bm.1 c with rfl|c
     .simp
     simp[p x c]
   rename_i E;refine⟨k,λx c t f i g d=>?_,λx c=>by simp[p x c]⟩;rcases bm.1 c with rfl|c
   .exact absurd d (E t f i g)
   exact n x c t f i g d
def qZ:∀(n:Nat) (ms:cm) (h:Tr Ob),
  (∀x,ao (eU h n ms).1 x=ao h x∨ao (eU h n ms).1 x=none)/\
  (∀x∈ms,∀ob,ao (eU h n ms).1 x=some ob->x∈(eU h n ms).2)/\(∀x∈(eU h n ms).2,x∈ms)
 |0,[],h=>⟨λx=>.inl rfl,by simp,by simp[eU]⟩
 |_+1,[],h=>⟨λx=>.inl rfl,by simp,by simp[eU]⟩
 |0,m::r,h=>by
  obtain⟨f,g,i⟩:=qZ 0 r (av none m h);simp only[eU];refine⟨λx=>?_,λx b ob c=>?_,λx b=>by simp[i x b]⟩
  .rcases f x with d|d
   .rw[d,af];split
    .exact .inr rfl
    exact .inl rfl
   exact .inr d
  rcases bm.1 b with rfl|b
  .rcases f x with d|d
   .rw[d,af,ar rfl]at c;cases c
   rw[d]at c;cases c
  exact g x b ob c
 |n+1,m::r,h=>by
  obtain⟨f,g,i⟩:=qZ n r h;generalize j:eU h n r=q at f g i;obtain⟨k,l⟩:=q;simp only[eU,j];refine⟨f,λx b ob c=>?_,λx b=>?_⟩
  .rcases bm.1 b with rfl|b
   .simp
   simp[g x b ob c]
  rcases bm.1 b with rfl|b
  .simp
  simp[i x b]
section sound
variable{M:aG}{C:eT}{P:Program}{β:Bt}{s:HS}{w:World}{e:En}{a:Act}
def cf.sub(h:cf M C β s w){j:Tr Ob}{f:Tr cm}(r:∀x,ao j x=ao s.h x∨ao j x=none)
  (u:∀o t v y g,ao j o=some (.cells t v y g)->∃ms,ao f g=some ms/\o∈ms)(l:∀g ms,ao f g=some ms->g.toNat<s.nx.toNat):cf M C β {h:=j,nx:=s.nx,gr:=f,ty:=s.ty} w:=by
 have c:∀{x ob},ao j x=some ob->ao s.h x=some ob:=λ{x ob} k=>by
  rcases r x with d|d
  .rw[<-d];exact k
  rw[d]at k;cases k
 have z:∀b,Live M {h:=j,nx:=s.nx,gr:=f,ty:=s.ty} β b->Live M s β b:=by
  rintro b (m|⟨n,ob,pl,d,i,rfl⟩)
  .exact .inl m
  exact .inr ⟨n,ob,pl,c d,i,rfl⟩
 refine⟨h.lt,λo ob A=>?_,λa b ob p pl q d i=>h.apart a b ob p pl q (c d) (c i),u,l,h.mlt,λb m ⟨n,ob,pl,d,i,B⟩=>h.sR b m ⟨n,ob,pl,c d,i,B⟩,h.zH⟩;obtain⟨pl,d,i⟩:=h.obj o ob (c A);exact⟨pl,d,i.keep (Bt.le_refl _) (λb _ k=>z b k) (cD.refl _ _) rfl⟩
def Ext.sub{c:Tr Ob}{d:Tr cm}(j:∀x,ao c x=ao s.h x∨ao c x=none):Ext M β s w β {h:=c,nx:=s.nx,gr:=d,ty:=s.ty} w:=by
 refine⟨Bt.le_refl _,cD.refl _ _,?_,rfl,rfl,rfl,λ_ r h=>⟨r,h⟩,aY _,λ_ _=>rfl⟩
 rintro b _ (k|⟨i,ob,pl,f,l,rfl⟩)
 .exact .inl k
 refine .inr ⟨i,ob,pl,?_,l,rfl⟩;rcases j i with g|g
 .rw[<-g];exact f
 rw[g]at f;cases f
def cf.qw(h:cf M C β s w){w':World}{o:Ky}{ob kB:Ob}{pl:Pl}(x:ao s.h o=some ob)(z:β o=some pl)
  (h5:w'.heap.size=w.heap.size)(u:∀b,b≠pl.b->w'.heap[b]?=w.heap[b]?)(Q:∀b E n,oU w b E n->oU w' b E n)(h6:w'.os=w.os)(h7:w'.tape=w.tape)(h8:w'.output=w.output)
  (h9:∀(r:Loop),w.heap[pl.b]?=some (.loop r)->∃r',w'.heap[pl.b]?=some (.loop r'))
  (hd:cD (Live M s β) w w'->CV C β (Live M s β) w' pl kB)
  (T:∀o' y f,o'≠o->ao s.h o'=some y->β o'=some f->f.b=pl.b->cD (Live M s β) w w'->CV C β (Live M s β) w' f y)
  (j:(∃t p q g t' A B,ob=.cells t p q g/\kB=.cells t' A B g)∨((∀t p q g,ob≠ .cells t p q g)/\∀t p q g,kB≠ .cells t p q g)):
  cf M C β (s.aK o kB) w'/\Ext M β s w β (s.aK o kB) w':=by
 have V:∀b,iG (s.aK o kB) β b↔iG s β b:=by
  intro b;constructor
  .rintro⟨o',d,i,c,k,rfl⟩
   have c:ao (av (some kB) o s.h) o'=some d:=c;rw[af]at c;by_cases e:o'=o
   .subst e;exact⟨o',ob,i,x,k,rfl⟩
   rw[aq e]at c;exact⟨o',d,i,c,k,rfl⟩
  rintro⟨o',d,i,c,k,rfl⟩
  by_cases e:o'=o
  .subst e;exact⟨o',kB,i,by show ao (av (some kB) o' s.h) o'=_;rw[af,ar rfl],k,rfl⟩
  exact⟨o',d,i,by show ao (av (some kB) o s.h) o'=_;rw[af,aq e];exact c,k,rfl⟩
 have Y:∀b,Live M (s.aK o kB) β b↔Live M s β b:=λb=>or_congr Iff.rfl (V b)
 have D:Live M s β pl.b:=.inr ⟨o,ob,pl,x,z,rfl⟩;have W:cD (Live M s β) w w':=⟨by omega,λb _ hN=>u b λe=>hN (by rw[e];exact D),Q⟩;refine⟨⟨λo' f hp=>?_,λo' d c=>?_,λa b d F i G c k H h4 v I=>?_,λo' t p q g c=>?_,h.vr,λb X=>by rw[h5];exact h.mlt b X,λb X ha=>h.sR b X ((V b).1 ha),λo E n x=>let⟨pl,c,k,H⟩:=h.zH o E n x;⟨pl,c,k.keep W,H⟩⟩,Bt.le_refl _,W,λb _ l=>(Y b).1 l,h6,h7,h8,λb r hr=>?_,aY _,λb X=>u b λe=>h.sR b X ⟨o,ob,pl,x,z,e.symm⟩⟩
 .have:=h.lt o' f hp;exact⟨this.1,by omega⟩
 .have c:ao (av (some kB) o s.h) o'=some d:=c;rw[af]at c;by_cases e:o'=o
  .rw[ar e]at c;cases c;subst e;exact⟨pl,z,(hd W).keep (Bt.le_refl _) (λb _ l=>(Y b).1 l) (cD.refl _ _) rfl⟩
  rw[aq e]at c;obtain⟨f,k,H⟩:=h.obj o' d c;refine⟨f,k,?_⟩;by_cases l:f.b=pl.b
  .exact(T o' d f e c k l W).keep (Bt.le_refl _) (λb _ l=>(Y b).1 l) (cD.refl _ _) rfl
  exact H.keep (Bt.le_refl _) (λb _ l=>(Y b).1 l) W (u _ l)
 .have O:ao (av (some kB) o s.h) a=some d:=c;have J:ao (av (some kB) o s.h) b=some F:=k;clear c k;rw[af]at O J;by_cases Z:a=o
  .have L:b≠o:=λL=>v (Z.trans L.symm)
   rw[ar Z]at O;cases O;rw[aq L]at J;subst Z;obtain⟨q1,t,p,q,g,t',A,B,q2,q3⟩:=h.apart a b ob F i G x J H h4 v I;refine⟨q1,?_⟩;rcases j with⟨u1,u2,u3,u4,u5,u6,u7,m,N⟩|⟨m,_⟩
   .rw[q2]at m;cases m;exact⟨_,_,_,_,_,_,_,N,q3⟩
   exact absurd q2 (m _ _ _ _)
  rw[aq Z]at O;by_cases L:b=o
  .rw[ar L]at J;cases J;subst L;obtain⟨q1,t,p,q,g,t',A,B,q2,q3⟩:=h.apart a b d ob i G O x H h4 v I;refine⟨q1,?_⟩;rcases j with⟨u1,u2,u3,u4,u5,u6,u7,m,N⟩|⟨m,_⟩
   .rw[q3]at m;cases m;exact⟨_,_,_,_,_,_,_,q2,N⟩
   exact absurd q3 (m _ _ _ _)
  rw[aq L]at J;exact h.apart a b d F i G O J H h4 v I
 .have c:ao (av (some kB) o s.h) o'=some (.cells t p q g):=c;rw[af]at c;by_cases e:o'=o
  .rw[ar e]at c;cases c;subst e;rcases j with⟨u1,u2,u3,u4,u5,u6,u7,m,N⟩|⟨_,N⟩
   .cases N;exact h.qV o' _ _ _ _ (m▸x)
   exact absurd rfl (N _ _ _ _)
  rw[aq e]at c;exact h.qV o' t p q g c
 by_cases l:b=pl.b
 .subst l;exact h9 r hr
 exact⟨r,by rw[u b l];exact hr⟩
def nQ(cs:Array Value)(k:Nat):List Value->Array Value
 |[]=>cs
 |v::r=>nQ (cs.setIfInBounds k v) (k+1) r
def fe:∀(vs:List Value) (cs:Array Value) (k:Nat),(nQ cs k vs).size=cs.size
 |[],_,_=>rfl
 |v::r,cs,k=>by simp only[nQ];rw[fe r];simp
def rZ:∀(vs:List Value) (cs:Array Value) (k j:Nat),k+vs.length<=cs.size->(nQ cs k vs)[j]?=if k<=j/\j<k+vs.length then vs[j-k]?else cs[j]?
 |[],cs,k,j,_=>by simp only[nQ,aE];rw[aq (by omega)]
 |v::r,cs,k,j,h=>by
  simp only[aA]at h;simp only[nQ,aA];rw[rZ r _ (k+1) j (by simp;omega)];by_cases b:k+1<=j/\j<k+1+r.length
  .rw[ar b,ar (by omega),show j-k=(j-(k+1))+1 by omega];rfl
  rw[aq b];by_cases c:j=k
  .subst c;rw[ar (by omega),wL (by omega)];simp
  rw[aq (by omega),oZ (by omega)]
def jb(b o:Nat)(E:TypeId)(fr:Nat×Nat):∀(vs:List Value) (i:Nat) (w:World) (cs:Array Value),w.heap[b]?=some (.cells cs E fr)->Je fr cs.size->o+i+vs.length<=cs.size->(∀v∈vs,v.oneCell'=true)->
  (storeCells ⟨b,o,none⟩ vs i).run P w=.ok () {w with heap:=w.heap.setIfInBounds b (.cells (nQ cs (o+i) vs) E fr)}
 |[],i,w,cs,d,_,_,_=>by
  simp only[storeCells,Sem.run_pure,nQ]
  congr 1
  have c:=lt_of_block d;have:w.heap.setIfInBounds b (.cells cs E fr)=w.heap:=by
   apply Bm;intro j;by_cases g:j=b
   .subst g;rw[wL c,d]
   rw[oZ (λe=>g e.symm)]
  rw[this]
 |v::r,i,w,cs,d,k,q,p=>by
  simp only[aA]at q;have c:=lt_of_block d;have t:=p v (by simp);have f:w.cell? ⟨b,o+i,none⟩=some (cs[o+i]'(by omega)):=by simp[World.cell?,d,fX (show o+i<cs.size by omega)]
  have l:w.frozen? ⟨b,o+i,none⟩=false:=by
   simp only[World.frozen?,d];rcases k with rfl|k
   .simp
   simp;omega
  have h:w.setCell ⟨b,o+i,none⟩ v={w with heap:=w.heap.setIfInBounds b (.cells (cs.setIfInBounds (o+i) v) E fr)}:=by
   simp only[World.setCell,Jp,cy,bp]
   congr 1
   apply Bm;intro j;rw[An];by_cases g:b=j
   .subst g;rw[ar rfl,d,wL c];rfl
   rw[aq g,oZ g]
  have m:(store (Addr.add ⟨b,o,none⟩ i) v).run P w=.ok () {w with heap:=w.heap.setIfInBounds b (.cells (cs.setIfInBounds (o+i) v) E fr)}:=by
   rw[gw,<-h];unfold store;cases v<;>first
    |(simp[Value.oneCell']at t;done)
    |simp[Sem.run,f,l]
  have n:({w with heap:=w.heap.setIfInBounds b (.cells (cs.setIfInBounds (o+i) v) E fr)}:World).heap[b]?=some (.cells (cs.setIfInBounds (o+i) v) E fr):=by show(w.heap.setIfInBounds b _)[b]?=_;rw[wL c]
  have:=jb b o E fr r (i+1) _ (cs.setIfInBounds (o+i) v) n (by simpa using k) (by simp;omega) (λx u=>p x (by simp[u]));simp only[storeCells,Sem.run_bind,m,Result.andThen_ok,this,nQ];rw[show o+i+1=o+(i+1) by omega];simp
def dG(w:World)(b:Nat)(o:Obj):World:={w with heap:=w.heap.setIfInBounds b o}
def fE{w:World}{b:Nat}{o o':Obj}(h:w.heap[b]?=some o):(dG w b o').heap[b]?=some o':=by show(w.heap.setIfInBounds b o')[b]?=_;rw[wL (lt_of_block h)]
def bS(w:World){b c:Nat}(o:Obj)(h:c≠b):(dG w b o).heap[c]?=w.heap[c]?:=by show(w.heap.setIfInBounds b o)[c]?=_;rw[oZ (λe=>h e.symm)]
def r6{w:World}{b:Nat}{cs d:Array Value}{E:TypeId}{fr Mi:Nat×Nat}(h:w.heap[b]?=some (.cells cs E fr))(k:d.size=cs.size)(x:Nat)(F:TypeId)(n:Nat)(i:oU w x F n):oU (dG w b (.cells d E Mi)) x F n:=by
 obtain⟨c,f,g,j⟩:=i;by_cases e:x=b
 .subst e;rw[h]at g;cases g;exact⟨d,Mi,fE h,by omega⟩
 exact⟨c,f,by rw[bS w _ e];exact g,j⟩
def jz{w:World}{b:Nat}{o o':Obj}(h:w.heap[b]?=some o)(g:jR o=true)(x:Nat)(F:TypeId)(n:Nat)(i:oU w x F n):oU (dG w b o') x F n:=by
 obtain⟨c,d,f,j⟩:=i;by_cases e:x=b
 .subst e;rw[h]at f;cases f;cases g
 exact⟨c,d,by rw[bS w _ e];exact f,j⟩
def cf.write(h:cf M C β s w){o:Ky}{pl:Pl}(y:β o=some pl){t:Tr HV}{D A:Nat}{g:Ky}(T:ao s.h o=some (.cells t D A g)){k:Nat}{l:ak}{vs:List Value}(h1:D<=k)(h2:k+l.length<=A)
  (V:eS β (Live M s β) w l vs)(p:∀x∈l,x.one=true)
  (W:∀o' c t' F G g',o'≠o->ao s.h o'=some (.cells t' F G g')->β o'=some c->c.b=pl.b->g'=g->¬(F<k+l.length/\k<G)):
  pl.s<=k/\∃w',(storeCells ⟨pl.b,k-pl.s,none⟩ vs).run P w=.ok () w'/\cf M C β (s.aK o (.cells (dq l k t) D A g)) w'/\Ext M β s w β (s.aK o (.cells (dq l k t) D A g)) w':=by
 obtain⟨c,h3,h4⟩:=h.obj _ _ T;rw[y]at h3;cases h3;cases h4 with
 |cells _ _ _ _ H E O hs B X hn hc=>
  have hlen:=V.1;have d:k-pl.s+vs.length<=H.size:=by
   by_cases hz:l.length=0
   .by_cases hp:k<=A<;>omega
   omega
  have q:=rZ vs H (k-pl.s);have I:=jb (P:=P) pl.b (k-pl.s) E O vs 0 w H B X (by simpa using d) (V.Bi p);refine⟨by omega,dG w pl.b (.cells (nQ H (k-pl.s) vs) E O),by simpa[dG]using I,?_⟩;refine h.qw T y (by simp[dG]) (λb j=>bS w _ j) (r6 B (fe vs H _)) rfl rfl rfl (λr J=>by rw[B]at J;cases J) (λQ=>?_) (λo' L c N z f m Q=>?_) (.inl ⟨_,_,_,_,_,_,_,rfl,rfl⟩)
  .refine .cells _ D A g _ E O hs (fE B) (by rw[fe];exact X) (by rw[fe];exact hn) λi v Y Z n=>?_
   rw[fC]at n;rw[q (i-pl.s) d];by_cases J:k<=i/\i<k+l.length
   .rw[ar J]at n;rw[ar (by omega)];have hj:=(aV.1 n).1;refine⟨p v (cH n),vs[i-k]'(by omega),?_,(V.2 _ v _ n (aO (by omega))).keep (Bt.le_refl _) (gY.refl _ _) Q⟩;rw[show i-pl.s-(k-pl.s)=i-k by omega];exact aO (by omega)
   rw[aq J]at n;rw[aq (by omega)];obtain⟨b1,u,b2,b3⟩:=hc i v Y Z n;exact⟨b1,u,b2,b3.keep (Bt.le_refl _) (gY.refl _ _) Q⟩
  obtain⟨e1,t1,hq,ht,g1,t2,h7,h8,e2,e3⟩:=h.apart o o' _ L pl c T z y f N.symm m.symm;cases e2;subst e3;obtain⟨hg,h5,h6⟩:=h.obj _ _ z;rw[f]at h5;cases h5;have hx:=W o' c _ _ _ _ N z f m rfl;cases h6 with
  |cells _ _ _ _ hy E' k0 h9 j k1 ha hd=>
   rw[m,B]at j;cases j;refine .cells t2 h7 h8 g _ E O h9 (by rw[m];exact fE B) (by rw[fe];exact X) (by rw[fe];exact ha) λi v Y Z n=>?_
   obtain⟨b1,u,b2,b3⟩:=hd i v Y Z n;refine⟨b1,u,?_,b3.keep (Bt.le_refl _) (gY.refl _ _) Q⟩;rw[q (i-c.s) d,aq (by omega)];exact b2
def HS.wM{s s':HS}{o:Ky}{k:Nat}{l:ak}(h:s.store o k l=some s'):
  ∃t c d g ms,ao s.h o=some (.cells t c d g)/\c<=k/\k+l.length<=d/\ao s.gr g=some ms/\s.kW o k l t c d g ms=some s':=by
 obtain⟨b,i,j⟩:=jP h;obtain⟨t,c,d,g,rfl,m⟩:=Ob.nK j;obtain⟨n,p⟩:=jO m;obtain⟨q,r⟩:=jO p;obtain⟨ms,u,v⟩:=jP r;have f:=eo.1 q;rw[bF]at f;exact⟨t,c,d,g,ms,i,eo.1 n,f,u,v⟩
def Ic(s:HS)(o:Ky)(k:Nat)(l:ak)(t:Tr HV)(b c:Nat)(g:Ky)(ms:cm):
  s.kW o k l t b c g ms=some {h:=av (some (.cells (dq l k t) b c g)) o s.h,nx:=s.nx,gr:=s.gr,ty:=s.ty}/\(∃m,ms=[m])∨
  s.kW o k l t b c g ms=some {h:=av (some (.cells (dq l k t) b c g)) o (bP s.h o k (k+aM l) ms).1,nx:=s.nx,gr:=av (some (bP s.h o k (k+aM l) ms).2) g s.gr,ty:=s.ty}:=by
 match ms with|[m]=>exact .inl ⟨rfl,m,rfl⟩|[]=>exact .inr rfl|m::d::r=>exact .inr rfl
def jT(h:cf M C β s w){o:Ky}{pl:Pl}(z:β o=some pl){k:Nat}{l:ak}{vs:List Value}(X:eS β (Live M s β) w l vs)(i:∀x∈l,x.one=true){s':HS}(L:s.store o k l=some s'):
  pl.s<=k/\∃w',(storeCells ⟨pl.b,k-pl.s,none⟩ vs).run P w=.ok () w'/\cf M C β s' w'/\Ext M β s w β s' w':=by
 obtain⟨t,Y,Z,g,N,O,h2,h3,A,h5⟩:=HS.wM L;obtain⟨f,h6,h7⟩:=h.qV _ _ _ _ _ O;rw[A]at h6;cases h6;rcases Ic s o k l t Y Z g N with⟨B,m,e2⟩|B
 .rw[h5]at B;cases B;have hm:m=o:=by rw[e2]at h7;exact(dE.1 h7).symm
  have:=h.write (P:=P) z O h2 h3 X i (λo' Q t' D E F n p _ _ T=>by
   subst T;obtain⟨f,j,v⟩:=h.qV _ _ _ _ _ p;rw[A]at j;cases j;rw[e2]at v;exact absurd (by simpa[hm]using v) n)
  exact this
 rw[h5]at B;cases B;obtain⟨I,J,k3⟩:=nP o k (k+aM l) s.h N;generalize hq:bP s.h o k (k+aM l) N=q at I J k3 ⊢;obtain⟨y,V⟩:=q;simp only at I J k3 ⊢;have c:∀x,ao y x=ao s.h x∨ao y x=none:=λx=>(I x).imp id And.left
 have p:ao y o=some (.cells t Y Z g):=by
  rcases I o with e|⟨_,e⟩
  .rw[e];exact O
  exact absurd rfl e
 have r:∀{x ob},ao y x=some ob->ao s.h x=some ob:=λ{x ob} d=>by
  rcases c x with e|e
  .rw[<-e];exact d
  rw[e]at d;cases d
 have W:cf M C β {h:=y,nx:=s.nx,gr:=av (some V) g s.gr,ty:=s.ty} w:=h.sub c (λx t' D E F d=>by
  simp only[af];by_cases G:F=g
  .subst G;rw[ar rfl];obtain⟨f,j,v⟩:=h.qV _ _ _ _ _ (r d);rw[A]at j;cases j;exact⟨V,rfl,(J x v _ _ _ _ d).1⟩
  .rw[aq G];exact h.qV _ _ _ _ _ (r d)) (λF f u=>by
  simp only[af]at u;by_cases G:F=g
  .subst G;exact h.vr _ _ A
  rw[aq G]at u;exact h.vr _ _ u)
 have H:Ext M β s w β {h:=y,nx:=s.nx,gr:=av (some V) g s.gr,ty:=s.ty} w:=Ext.sub c;obtain⟨c1,w',c2,c3,c4⟩:=W.write (P:=P) z p h2 h3 (X.ext H) i (λx Q t' D E F n d _ _ T=>by
  subst T;obtain⟨f,j,v⟩:=h.qV _ _ _ _ _ (r d);rw[A]at j;cases j;have:=(J x v _ _ _ _ d).2 n;rwa[bF]at this)
 exact⟨c1,w',c2,c3,H.trans c4⟩
def V9(r:cf M C β s w)(i:dL β (Live M s β) w e a){go:Oper}{n:Nat}{x v:X}(c:bb P (.st n x v) go.op=true):cv M C P β s w a go (U1 n x v e s):=by
 cases b:go.op<;>rw[b]at c<;>try cases c
 rename_i t y u;simp only[bb,aL,bZ]at c;obtain⟨⟨z,A⟩,B⟩:=c;unfold U1;cases D:bq x e with
 |none=>trivial
 |some p=>
  have j:=aH i z D;generalize E:a.eval y=up at j;cases j with
  |ptr o k pl d Q=>
   show cv M C P β s w a go (bU (bq v e) (λv=>bU (cellsOf v) (λl=>gP (Nat.beq (aM l) n) (bU (s.store o k l) (λs'=>.v .undef s') .bad) .bad) .bad) .bad);cases F:bq v e with
   |none=>trivial
   |some q=>
    have G:=aH i A F;show cv M C P β s w a go (bU (cellsOf q) (λl=>gP (Nat.beq (aM l) n) (bU (s.store o k l) (λs'=>.v .undef s') .bad) .bad) .bad);cases H:cellsOf q with
    |none=>trivial
    |some l=>
     show cv M C P β s w a go (gP (Nat.beq (aM l) n) (bU (s.store o k l) (λs'=>.v .undef s') .bad) .bad);cases I:Nat.beq (aM l) n with
     |false=>trivial
     |true=>
      rw[bh,bF]at I;show cv M C P β s w a go (bU (s.store o k l) (λs'=>.v .undef s') .bad);cases J:s.store o k l with
      |none=>trivial
      |some s'=>
       obtain⟨m,L⟩:=G.cells H;obtain⟨T,N,O,f,g⟩:=jT (P:=P) r d m L J;have h:(a.eval u).cells.size=n:=by have:=m.1;simp at this;omega
       refine⟨Go.undef,N,β,.inr ⟨?_,rfl⟩,f,g,.undef⟩;simp only[execOp,b,E];simp[Instr.storeAt,Instr.sureAddr,storeVar,gf B,h,O]
  |_=>trivial
def cf.newRow(h:cf M C β s w){l:ak}{cs:Array Value}{E:TypeId}{fr:Nat×Nat}{ty:Tr (Nat×Nat)}(c:ty=s.ty∨∃n,ty=av (some (E,n)) s.nx s.ty/\(n=0∨cs.size=n))(m:Je fr cs.size)(o:l.length<=cs.size)(p:∀(j:Nat) (v:HV),l[j]?=some v->v.one=true/\∃u,cs[j]?=some u/\HR β (Live M s β) w v u):
  ∃d,cf M C d {h:=av (some (.cells (dq l 0 .lf) 0 (aM l) s.nx)) s.nx s.h,nx:=s.nx.succ,gr:=av (some [s.nx]) s.nx s.gr,ty:=ty} {w with heap:=w.heap.push (.cells cs E fr)}/\
   Ext M β s w d {h:=av (some (.cells (dq l 0 .lf) 0 (aM l) s.nx)) s.nx s.h,nx:=s.nx.succ,gr:=av (some [s.nx]) s.nx s.gr,ty:=ty} {w with heap:=w.heap.push (.cells cs E fr)}/\d s.nx=some ⟨w.heap.size,0⟩:=by
 have f:=kL h;obtain⟨q,r⟩:=h.newObj (x:=.cells cs E fr) (ob:=.cells (dq l 0 .lf) 0 (aM l) s.nx) (gr:=av (some [s.nx]) s.nx s.gr) (c.imp id λ⟨n,t,g⟩=>⟨E,n,t,cs.size,⟨cs,fr,by simp,rfl⟩,g⟩) (by
  refine .cells _ 0 _ _ cs E fr (aY _) (by simp) m (by rw[bF];simpa using o) λk v _ g i=>?_
  rw[fC]at i;rw[bF]at g;rw[ar (by omega)]at i;obtain⟨y,u,z,A⟩:=p (k-0) v i;refine⟨y,u,z,A.keep (Bt.kC h.fresh) (λb D B=>B.resolve_left (by omega)) (cD.push _ _ _)⟩) (.inl ⟨_,_,_,rfl,rfl⟩)
 exact⟨_,q,r,by simp[Bt.add]⟩
def wN(s:HS)(l:ak)(K:Ky->HV):s.new l K=.v (K s.nx) {h:=av (some (.cells (dq l 0 .lf) 0 (aM l) s.nx)) s.nx s.h,nx:=s.nx.succ,gr:=av (some [s.nx]) s.nx s.gr,ty:=s.ty}:=rfl
def qc(s:HS)(ty:Tr (Nat×Nat))(l:ak)(K:Ky->HV):s.CJ ty l K=.v (K s.nx) {h:=av (some (.cells (dq l 0 .lf) 0 (aM l) s.nx)) s.nx s.h,nx:=s.nx.succ,gr:=av (some [s.nx]) s.nx s.gr,ty:=ty}:=rfl
def Gy(i:cf M C β s w){go:Oper}{l:ak}{cs:Array Value}{E:TypeId}(f:eS β (Live M s β) w l cs.toList)(b:∀x∈l,x.one=true)
  (c:(execOp a.eval go).run P w=.ok (.value (.pointer (some ⟨w.heap.size,0,none⟩))) {w with heap:=w.heap.push (.cells cs E)}):cv M C P β s w a go (s.new l (λo=>.ptr o 0)):=by
 rw[wN];obtain⟨h,k,m,n⟩:=i.newRow (l:=l) (cs:=cs) (E:=E) (fr:=(0,0)) (.inl rfl) (.inl rfl) (by have:=f.1;simp at this;omega) (λj v g=>by
  have d:j<cs.size:=by have:=f.1;simp at this;have:=(aV.1 g).1;omega
  exact⟨b v (cH g),cs[j],fX d,f.2 j v _ g (by simp[d])⟩)
 exact⟨_,_,h,.inl c,k,m,by simpa using HR.ptr (β:=h) s.nx 0 ⟨w.heap.size,0⟩ n (aY _)⟩
def Jy(i:cf M C β s w){go:Oper}{l:ak}{cs:Array Value}{E:TypeId}(f:eS β (Live M s β) w l cs.toList)(b:∀x∈l,x.one=true)
  (c:(execOp a.eval go).run P w=.ok (.value (.pointer (some ⟨w.heap.size,0,none⟩))) {w with heap:=w.heap.push (.cells cs E)}):cv M C P β s w a go (s.CJ (av (some (E,aM l)) s.nx s.ty) l (λo=>.ptr o 0)):=by
 rw[qc];obtain⟨h,k,m,n⟩:=i.newRow (l:=l) (cs:=cs) (E:=E) (fr:=(0,0)) (.inr ⟨aM l,rfl,.inr (by rw[bF];have:=f.1;simpa using this)⟩) (.inl rfl) (by have:=f.1;simp at this;omega) (λj v g=>by
  have d:j<cs.size:=by have:=f.1;simp at this;have:=(aV.1 g).1;omega
  exact⟨b v (cH g),cs[j],fX d,f.2 j v _ g (by simp[d])⟩)
 exact⟨_,_,h,.inl c,k,m,by simpa using HR.ptr (β:=h) s.nx 0 ⟨w.heap.size,0⟩ n (aY _)⟩
def Jz(m:cf M C β s w){go:Oper}{z:ak}(b:bb P (.alloc z) go.op=true):cv M C P β s w a go (EA z e s):=by
 cases c:go.op<;>rw[c]at b<;>try cases b
 rename_i t;simp only[bb,rQ]at b
 split at b
 case h_2=>cases b
 rename_i v n;unfold EA;obtain⟨o,d,i⟩:=mG.1 n;have p:=dJ b β (Live M s β) w;have f:∀x∈z,x.one=true:=by
  have:∀(l:ak) (g:List Value),iX l g=true->∀x∈l,x.one=true:=by
   intro l
   induction l with
   |nil=>simp
   |cons y l q=>
    intro g h x j;cases g with
    |nil=>simp[iX]at h
    |cons u g=>
     simp only[iX,aL]at h;rcases bm.1 j with rfl|j
     .have k:=h.1;unfold Bg at k
      split at k<;>first|rfl|cases k
     exact q g h.2 x j
  exact this _ _ b
 refine Gy (E:=t) m p f ?_;simp[execOp,c,Instr.alloc,zeroValue,typeInfo,d,i,newVar,Go.newRow]
def PK(n:cf M C β s w){go:Oper}{i:Nat}{z:ak}(b:bb P (.alb i z) go.op=true):cv M C P β s w a go (Ph i z e s):=by
 cases c:go.op<;>rw[c]at b<;>try cases b
 rename_i t;simp only[bb,rQ,aL,bZ]at b;obtain⟨rfl,b⟩:=b
 split at b
 case h_2=>cases b
 rename_i v o;unfold Ph;obtain⟨p,d,j⟩:=mG.1 o;have q:=dJ b β (Live M s β) w;have f:∀x∈z,x.one=true:=by
  have:∀(l:ak) (g:List Value),iX l g=true->∀x∈l,x.one=true:=by
   intro l
   induction l with
   |nil=>simp
   |cons y l r=>
    intro g h x k;cases g with
    |nil=>simp[iX]at h
    |cons u g=>
     simp only[iX,aL]at h;rcases bm.1 k with rfl|k
     .have m:=h.1;unfold Bg at m
      split at m<;>first|rfl|cases m
     exact r g h.2 x k
  exact this _ _ b
 refine Jy (E:=i) n q f ?_;simp[execOp,c,Instr.alloc,zeroValue,typeInfo,d,j,newVar,Go.newRow]
def PL(d:cf M C β s w)(f:dL β (Live M s β) w e a){go:Oper}{x:X}(c:bb P (.box x) go.op=true):cv M C P β s w a go (HK x e s):=by
 cases b:go.op<;>rw[b]at c<;>try cases c
 rename_i E y;simp only[bb]at c;unfold HK;cases g:bq x e with
 |none=>trivial
 |some p=>have h:=aH f c g;show cv M C P β s w a go (bU (cellsOf p) (λl=>s.new l (λo=>.ptr o 0)) .bad);cases i:cellsOf p with|none=>trivial|some l=>obtain⟨j,k⟩:=h.cells i;exact Gy (E:=E) d j k (by simp[execOp,b,Instr.box,newVar,Go.newRow])
def PM(d:cf M C β s w){go:Oper}(c:bb P .mkm go.op=true):cv M C P β s w a go (VY e s):=by
 cases b:go.op<;>rw[b]at c<;>try cases c
 rename_i t r;cases r with
 |some y=>simp[bb]at c
 |none=>
 show cv M C P β s w a go (.v (.mp s.nx) {h:=av (some (.mp [])) s.nx s.h,nx:=s.nx.succ,gr:=s.gr,ty:=s.ty});obtain⟨f,g⟩:=d.newObj (x:=.map #[] 0) (ob:=.mp []) (gr:=s.gr) (.inl rfl) (by
  exact .mp [] #[] (by simp) rfl (by simp)) (.inr ⟨by simp,rfl⟩)
 refine⟨.map (some w.heap.size),_,_,.inl ?_,f,g,HR.mp _ ⟨w.heap.size,0⟩ (by simp[Bt.add])⟩;simp[execOp,b,Instr.makeMap,newObj,Sem.run]
end sound
def JA(bo:Nat):∀(l:List Value) (k:Nat) (cells:Array Value),bo+k+l.length<=cells.size->
  ((l.zipIdx k).foldl (λcs (p:Value×Nat)=>cs.setIfInBounds (bo+p.2) p.1) cells).size=cells.size/\
  (∀j,j<l.length->((l.zipIdx k).foldl (λcs (p:Value×Nat)=>cs.setIfInBounds (bo+p.2) p.1) cells)[bo+k+j]?=l[j]?)/\
  (∀m,(m<bo+k∨bo+k+l.length<=m)->((l.zipIdx k).foldl (λcs (p:Value×Nat)=>cs.setIfInBounds (bo+p.2) p.1) cells)[m]?=cells[m]?):=by
 intro l
 induction l with
 |nil=>intro k cells _;simp
 |cons v l g=>
  intro k cells h;simp only[aA]at h;obtain⟨i,n,c⟩:=g (k+1) (cells.setIfInBounds (bo+k) v) (by simp;omega);simp only[List.zipIdx_cons,nO];refine⟨by simpa using i,λj o=>?_,λm d=>?_⟩
  .cases j with
   |zero=>
    have b:bo+k<cells.size:=by omega
    have f:=c (bo+k) (.inl (by omega));simp only[fR]at f ⊢;rw[f,wL b];rfl
   |succ j=>have:=n j (by simpa using o);rw[show bo+k+(j+1)=bo+(k+1)+j by omega,this];simp
  rw[c m (by simp at d;omega),oZ (by simp at d;omega)]
def EP{i n j sz:Nat}(b:i<n)(c:j<sz):i*sz+j<n*sz:=by
 have d:i*sz+sz<=n*sz:=by rw[<-Nat.succ_mul];exact jU _ b
 omega
def Ie(sz:Nat):∀(ps:List (Nat×Value)) (k:Nat) (cells:Array Value),ps.map (·.1)=List.range' k ps.length->(∀p∈ps,p.2.cells.size=sz)->(k+ps.length)*sz<=cells.size->
  ∃cs,Instr.fill (λi=>some (i*sz,sz)) cells ps=some cs/\cs.size=cells.size/\
   (∀(i:Nat) (p:Nat×Value) (j:Nat),ps[i]?=some p->j<sz->cs[(k+i)*sz+j]?=p.2.cells[j]?)/\(∀m,m<k*sz->cs[m]?=cells[m]?):=by
 intro ps
 induction ps with
 |nil=>intro k cells _ _ _;exact⟨cells,rfl,rfl,by simp,λ_ _=>rfl⟩
 |cons p ps r=>
  intro k cells c g t;simp only[aA,cL,List.range'_succ,qU]at c;have d:=g p (by simp);have h:(k+1+ps.length)*sz<=cells.size:=by rw[show k+1+ps.length=k+(ps.length+1) by omega];exact t
  have hle:k*sz+sz<=cells.size:=by have:(k+1)*sz<=(k+1+ps.length)*sz:=jU _ (by omega);rw[jV]at this;omega
  obtain⟨l,u,v⟩:=JA (k*sz) p.2.cells.toList 0 cells (by simp[d];omega);have b:p.2.cells.zipIdx.foldl (λcs (q:Value×Nat)=>cs.setIfInBounds (k*sz+q.2) q.1) cells=(p.2.cells.toList.zipIdx 0).foldl (λcs (q:Value×Nat)=>cs.setIfInBounds (k*sz+q.2) q.1) cells:=by rw[<-Array.foldl_toList];simp
  obtain⟨cs,x,y,z,n⟩:=r (k+1) _ c.2 (λq A=>g q (by simp[A])) (by rw[l];exact h);refine⟨cs,?_,by rw[y,l],λi q j f o=>?_,λm h=>?_⟩
  .simp only[Instr.fill,c.1,d];rw[aq (by simp;omega)];rw[b];exact x
  .cases i with|zero=>simp at f;subst f;rw[fR,n _ (by rw[jV];omega)];have:=u j (by simp[d,o]);simpa using this|succ i=>have:=z i q j (by simpa using f) o;rw[show k+(i+1)=k+1+i by omega];exact this
  rw[n m (by rw[jV];omega),v m (.inl (by omega))]
section sound
variable{M:aG}{C:eT}{P:Program}{β:Bt}{s:HS}{w:World}{e:En}{a:Act}
def C5{N:aG}{sz:Nat}:∀{l:ak} {f:List Value} {m:aR},eS β N w l f->jK sz l=some m->
  m.length=l.length/\(∀row∈m,row.length=sz/\∀x∈row,x.one=true)/\∀(i:Nat) (row:ak) (u:Value),m[i]?=some row->f[i]?=some u->eS β N w row u.cells.toList:=by
 intro l
 induction l with
 |nil=>intro f m h d;cases d;simp
 |cons v l o=>
  intro f m h d;obtain⟨u,p,rfl,q,r⟩:=h.split;simp only[jK]at d
  split at d
  .rename_i c E t j;cases g:Nat.beq (aM c) sz with
   |false=>rw[g]at d;cases d
   |true=>
    rw[g]at d;cases d;rw[bh,bF]at g;obtain⟨y,z,A⟩:=o r j;obtain⟨B,D⟩:=q.cells t;refine⟨by simp[y],λrow b=>?_,λi row x k n=>?_⟩
    .rcases bm.1 b with rfl|b
     .exact⟨g,D⟩
     exact z row b
    cases i with|zero=>simp at k n;subst k;subst n;exact B|succ i=>exact A i row x (by simpa using k) (by simpa using n)
  cases d
def Ig{sz:Nat}:∀{l:ak} {m:ak},flat sz l=some m->∃r,jK sz l=some r/\m=aD r:=by
 intro l
 induction l with
 |nil=>intro m h;cases h;exact⟨[],rfl,rfl⟩
 |cons v l f=>
  intro m h;simp only[flat]at h
  split at h
  .rename_i c j g b;cases d:Nat.beq (aM c) sz with
   |false=>rw[d]at h;cases h
   |true=>rw[d]at h;cases h;obtain⟨r,i,rfl⟩:=f b;exact⟨c::r,by simp only[jK,g,i,d,cond_true],rfl⟩
  cases h
def gJ{sz:Nat}:∀{r:aR} (_:∀row∈r,row.length=sz),(aD r).length=r.length*sz/\∀k v,(aD r)[k]?=some v->0<sz/\∃row,r[k/sz]?=some row/\row[k%sz]?=some v
 |[],_=>⟨by simp[aD],by simp[aD]⟩
 |c::r,h=>by
  obtain⟨l,m⟩:=gJ (r:=r) λrow b=>h row (dh _ b)
  have g:=h c dy;refine⟨by simp only[aD,cE,aA,l,g,jV];omega,λk v d=>?_⟩;simp only[aD]at d;rcases jM k c.length with i|j
  .rw[ek i]at d;have f:0<sz:=by omega
   refine⟨f,c,?_,?_⟩
   .rw[Nat.div_eq_of_lt (by omega)];rfl
   rw[EJ (by omega)];exact d
  rw[gu j]at d;obtain⟨f,row,n,o⟩:=m _ _ d;refine⟨f,row,?_,?_⟩
  .have:k/sz=(k-c.length)/sz+1:=by rw[g,<-Nat.sub_add_cancel (show sz<=k by omega),Nat.add_div_right _ f];simp
   rw[this];simpa using n
  have:k%sz=(k-c.length)%sz:=by
   rw[g];conv=>lhs;rw[<-Nat.sub_add_cancel (show sz<=k by omega)]
   rw[Nat.add_mod_right]
  rw[this];exact o
def Bn{go:Oper}{sz n:Nat}{xs:List X}{t:TypeId}{ps:Array (Nat×Operand)}(he:dL β (Live M s β) w e a)(J:go.op=.buildSlice t n ps)
  (hc:((match oB P t with|some E=>dI P E==some sz&&decide (n*sz<=16777216)&&((P.info? E).bind (·.zero)).isSome|none=>false)&&n==xs.length&&ps.toList.map (·.1)==List.range n&&fM xs (ps.toList.map (·.2)))=true)
  {l:ak}(hl:gp xs e=some l){m:aR}(hm:jK sz l=some m):
  n=xs.length/\m.length=n/\∃(E:TypeId) (cs:Array Value),(execOp a.eval go).run P w=.ok (.value (.slice (some ⟨w.heap.size,0,none⟩) n n)) {w with heap:=w.heap.push (.cells cs E)}/\cs.size=n*sz/\
   (∀row∈m,row.length=sz/\∀x∈row,x.one=true)/\
   ∀(i:Nat) (row:ak) (j:Nat) (v:HV),m[i]?=some row->row[j]?=some v->∃u,cs[i*sz+j]?=some u/\HR β (Live M s β) w v u:=by
 simp only[aL,bZ]at hc;obtain⟨⟨⟨H,rfl⟩,hr⟩,hx⟩:=hc
 split at H
 case h_2=>cases H
 rename_i E L;have ht:=iH L;simp only[aL,bZ,bL]at H;obtain⟨⟨N,hle⟩,hz⟩:=H;have g:=la he hx hl;obtain⟨k1,O,k3⟩:=C5 g hm;have Q:ps.size=xs.length:=by have:=ct List.length hr;simpa using this
 have h5:l.length=xs.length:=by have:=g.1;simp at this;omega
 let b:List (Nat×Value):=(ps.map λ(p:Nat×Operand)=>(p.1,a.eval p.2)).toList;have h:b.length=xs.length:=by simp[b,Q]
 have k:∀(i:Nat) (q:Nat×Value),b[i]?=some q->∃row,m[i]?=some row/\eS β (Live M s β) w row q.2.cells.toList:=by
  intro i q o;have f:i<m.length:=by have:=(aV.1 o).1;omega
  refine⟨m[i],aO f,k3 i m[i] q.2 (aO f) ?_⟩;simp only[b,Array.toList_map,fW,mK]at o;obtain⟨p,T,rfl⟩:=o;simp[T]
 have c:∀q∈b,q.2.cells.size=sz:=by intro q o;obtain⟨i,f,V⟩:=oW o;obtain⟨r,I,W⟩:=k i q (by rw[aO f,V]);have:=W.1;rw[(O r (cH I)).1]at this;simpa using this
 have y:b.map (·.1)=List.range' 0 b.length:=by rw[h,<-List.range_eq_range',<-hr];simp[b,pc,Function.comp_def]
 cases A:(P.info? E).bind (·.zero)with
 |none=>simp[A]at hz
 |some z=>
  obtain⟨h6,B,Y⟩:=mG.1 A;let zero:Array Value:=if xs.length*sz=0 then #[]else z.cells
  obtain⟨cs,f1,f2,f3,_⟩:=Ie sz b 0 ((Array.range (xs.length*sz)).map (zero[· %zero.size]!)) y c (by simp[h]);refine⟨rfl,by omega,E,cs,?_,by rw[f2];simp,O,λi row j v f hj=>?_⟩
  .have Z:=gf (w:=w) N;have h4:(zeroValue E).run P w=.ok z w:=by simp[zeroValue,typeInfo,B,Y]
   have D:¬(xs.length*sz>16777216):=by omega
   simp only[execOp,J,Instr.buildSlice,underlying,Sem.run_bind,run_program,Result.andThen_ok,ht,Sem.run_pure,Z,Sem.run_ite];rw[aq (by simpa using D)];by_cases h0:xs.length*sz=0
   .simp only[h0,bf];have d:Instr.fill (λi=>some (i*sz,sz)) (Array.map (λx=>(#[]:Array Value)[x%(#[]:Array Value).size]!) (Array.range 0)) b=some cs:=by simpa[zero,h0]using f1
    simp only[b]at d;rw[d];simp[Go.newRow]
   simp only[h0,bp,h4,Result.andThen_ok];have d:Instr.fill (λi=>some (i*sz,sz)) (Array.map (λx=>z.cells[x%z.cells.size]!) (Array.range (xs.length*sz))) b=some cs:=by simpa[zero,h0]using f1
   simp only[b]at d;rw[d];simp[Go.newRow]
  have h7:=(aV.1 f).1;have F:j<sz:=by have:=(aV.1 hj).1;rw[(O row (cH f)).1]at this;exact this
  have hv:i<b.length:=by omega
  obtain⟨r,I,W⟩:=k i b[i] (aO hv);rw[f]at I;cases I;have h3:=f3 i b[i] j (aO hv) F;rw[bw]at h3;have G:j<b[i].2.cells.size:=by rw[c _ (bX hv)];exact F
  refine⟨b[i].2.cells[j],by rw[h3,fX G],W.2 j v _ hj (by simp[G])⟩
def PN(q:cf M C β s w)(r:dL β (Live M s β) w e a){go:Oper}{sz:Nat}{xs:List X}(d:bb P (.bsl sz xs) go.op=true):cv M C P β s w a go (HL sz xs e s):=by
 cases b:go.op<;>rw[b]at d<;>try cases d
 rename_i t n L;unfold HL;cases u:gp xs e with
 |none=>trivial
 |some l=>
  show cv M C P β s w a go (bU (flat sz l) (λm=>s.new m (λo=>.sl o 0 (aM xs) sz)) .bad);cases x:flat sz l with
  |none=>trivial
  |some O=>
   obtain⟨m,y,rfl⟩:=Ig x;obtain⟨f,z,E,cs,A,g,h,B⟩:=Bn (P:=P) r b d u y;obtain⟨D,F⟩:=gJ (sz:=sz) λrow c=>(h row c).1
   show cv M C P β s w a go (s.new (aD m) (λo=>.sl o 0 (aM xs) sz));rw[wN,bF xs];obtain⟨i,G,H,I⟩:=q.newRow (l:=aD m) (cs:=cs) (E:=E) (fr:=(0,0)) (.inl rfl) (.inl rfl) (by rw[D,g,z];exact aY _) (λk v J=>by
    obtain⟨Q,row,j,p⟩:=F k v J;refine⟨(h row (cH j)).2 v (cH p),?_⟩;have:=B _ _ _ _ j p;rwa[ER,Nat.div_add_mod]at this)
   refine⟨_,_,i,.inl A,G,H,?_⟩;rw[f];have:=λN=>HR.sl (β:=i) (N:=N) (w:={w with heap:=w.heap.push (.cells cs E)}) s.nx 0 xs.length sz xs.length cs.size ⟨w.heap.size,0⟩ I (aY _) (aY _) ⟨E,cs,(0,0),by simp,rfl⟩ (by simp[g,f])
   simpa using this _
def PO(f:cf M C β s w)(q:dL β (Live M s β) w e a){go:Oper}{sz:Nat}{xs:List X}(h:bb P (.fbl sz xs) go.op=true):cv M C P β s w a go (vd sz xs e s):=by
 cases b:go.op<;>rw[b]at h<;>try cases h
 rename_i t n G;unfold vd;cases r:gp xs e with
 |none=>trivial
 |some l=>
  show cv M C P β s w a go (bU (jK sz l) (λm=>.v (.psl m) s) .bad);cases x:jK sz l with
  |none=>trivial
  |some m=>
   obtain⟨H,y,E,o,z,A,p,B⟩:=Bn (P:=P) q b h r x;refine⟨_,_,β,.inl z,f.push _,Ext.push f.mlt β s _,?_⟩;rw[<-y];refine .psl m _ 0 _ sz (λi j=>o.getD (i*sz+j) Go.undef) (kL f) (by simp) (aY _) (λi row g=>(p row (cH g)).1) (λrow c=>(p row c).2) (λi j g k=>?_) λi row j v g k=>?_
   .have d:i*sz+j<o.size:=by rw[A];exact EP (by omega) k
    rw[bw,uy,fX d];simp[Array.getD,d]
   obtain⟨u,D,F⟩:=B i row j v g k;simp only[fN,D,iY];exact F.ext (Ext.push f.mlt β s _)
def kT:∀(l:ak) (b:List Value),iX l b=true->∀x∈l,x.one=true:=by
 intro l
 induction l with
 |nil=>simp
 |cons y l f=>
  intro b h x c;cases b with
  |nil=>simp[iX]at h
  |cons u b=>
   simp only[iX,aL]at h;rcases bm.1 c with rfl|c
   .have d:=h.1;unfold Bg at d
    split at d<;>first|rfl|cases d
   exact f b h.2 x c
def run_places(P:Program)(w:World)(b:Array Field)(h:∀f∈b.toList,(dI P f.type).isSome=true):
  (b.mapM (λf=>do pure (f.offset,<-sizeOf f.type)):Sem (Array (Nat×Nat))).run P w=.ok (b.map λf=>(f.offset,(dI P f.type).getD 0)) w:=by
 have gen:∀l:List Field,(∀f∈l,(dI P f.type).isSome=true)->(l.mapM (λf=>do pure (f.offset,<-sizeOf f.type)):Sem (List (Nat×Nat))).run P w=.ok (l.map λf=>(f.offset,(dI P f.type).getD 0)) w:=by
  intro l
  induction l with
  |nil=>intro _;rfl
  |cons f l i=>
   intro d;have g:=d f (by simp);cases c:dI P f.type with
   |none=>rw[c]at g;cases g
   |some n=>simp only[List.mapM_cons,Sem.run_bind,gf c,Result.andThen_ok,Sem.run_pure,i λf j=>d f (by simp[j]),cL,c,iY]
 rw[PQ];simp only[Sem.run_map,gen _ h,Result.andThen_ok]
 congr 1
 apply sZ;simp
def mu{g:List Value}:∀{c:List Field} {i bo:Nat} {ps:List Pc} {l:List (Nat×Operand)},eK P g i c ps l bo=true->∀f∈c,(dI P f.type).isSome=true
 |[],_,_,_,_,_=>by simp
 |f::c,i,bo,ps,l,h=>by
  cases ps with
  |nil=>simp[eK]at h
  |cons p ps=>
   cases p with
   |z z=>
    simp only[eK,aL,bZ]at h;intro d b;rcases bm.1 b with rfl|b
    .rw[h.1.1.2];rfl
    exact mu h.2 d b
   |x o n=>
    cases l with
    |nil=>simp[eK]at h
    |cons q l=>
     simp only[eK,aL,bZ]at h;intro d b;rcases bm.1 b with rfl|b
     .rw[h.1.1.1.2];rfl
     exact mu h.2 d b
def zJ:∀{ps:List Pc} {m:ak},eJ e ps=some m->m.length=sY ps:=by
 intro ps
 induction ps with
 |nil=>intro m h;cases h;rfl
 |cons p ps f=>
  intro m h;cases p with
  |z z=>
   simp only[eJ]at h
   split at h
   .rename_i g b;cases h;simp[sY,f b]
   cases h
  |x o n=>
   simp only[eJ]at h
   split at h
   .split at h
    .rename_i c g i b;cases d:Nat.beq (aM c) n with
     |false=>rw[d]at h;cases h
     |true=>rw[d]at h;cases h;rw[bh,bF]at d;simp[sY,f b,d]
    cases h
   cases h
def Bo(he:dL β (Live M s β) w e a)(G:List Value):∀(H:List Field) (i bo:Nat) (ps:List Pc) (l:List (Nat×Operand)) (m:ak),eK P G i H ps l bo=true->eJ e ps=some m->
  ∀(pl:Nat->Option (Nat×Nat)) (cells:Array Value),(∀(j:Nat) (f:Field) (n:Nat),H[j]?=some f->dI P f.type=some n->pl (i+j)=some (f.offset,n))->cells.size=G.length->bo+m.length=G.length->
   (∀k,bo<=k->cells[k]?=G[k]?)->
   (∀x∈m,x.one=true)/\∃cs,Instr.fill pl cells (l.map λp=>(p.1,a.eval p.2))=some cs/\cs.size=cells.size/\(∀k,k<bo->cs[k]?=cells[k]?)/\
    ∀(j:Nat) (v:HV),m[j]?=some v->∃u,cs[bo+j]?=some u/\HR β (Live M s β) w v u:=by
 intro H
 induction H with
 |nil=>
  intro i bo ps l m h b pl cells r A hlen O;cases ps with
  |cons p ps=>simp[eK]at h
  |nil=>
   cases l with
   |cons q l=>simp[eK]at h
   |nil=>cases b;exact⟨by simp,cells,rfl,rfl,λ_ _=>rfl,by simp⟩
 |cons f H ih=>
  intro i bo ps l m h b pl cells r A hlen O;cases ps with
  |nil=>simp[eK]at h
  |cons p I=>
  cases p with
  |z z=>
   simp only[eK,aL,bZ]at h;obtain⟨⟨⟨f1,f2⟩,Q⟩,T⟩:=h;simp only[eJ]at b
   split at b
   .rename_i V B;cases b;simp only[cE]at hlen;obtain⟨W,cs,X,Y,J,Z⟩:=ih (i+1) (bo+z.length) I l V T B pl cells (λj f' n d hn=>by rw[show i+1+j=i+(j+1) by omega];exact r (j+1) f' n (by simpa using d) hn) A (by omega) (λk hk=>O k (by omega));refine⟨λx g=>?_,cs,X,Y,λk hk=>J k (by omega),λj v d=>?_⟩
    .rcases cG.1 g with g|g
     .exact kT _ _ Q x g
     exact W x g
    rcases jM j z.length with t|D
    .rw[ek t]at d;have h1:=dJ Q β (Live M s β) w;have L:bo+j<G.length:=by omega
     refine⟨G[bo+j],by rw[J _ (by omega),O _ (by omega)];exact aO L,h1.2 j v _ d ?_⟩;rw[rV t,mH];exact aO L
    rw[gu D]at d;obtain⟨u,a1,a2⟩:=Z (j-z.length) v d;exact⟨u,by rw[show bo+j=bo+z.length+(j-z.length) by omega];exact a1,a2⟩
   cases b
  |x o n=>
   cases l with
   |nil=>simp[eK]at h
   |cons q l'=>
   obtain⟨jj,y⟩:=q;simp only[eK,aL,bZ]at h;obtain⟨⟨⟨⟨f1,f2⟩,rfl⟩,Q⟩,T⟩:=h;simp only[eJ]at b
   split at b
   case h_2=>cases b
   rename_i v0 h2
   split at b
   case h_2=>cases b
   rename_i c V hc B;cases hq:Nat.beq (aM c) n with
   |false=>rw[hq]at b;cases b
   |true=>
    rw[hq]at b;cases b;rw[bh,bF]at hq;simp only[cE]at hlen;obtain⟨c1,c2⟩:=(aH he Q h2).cells hc;have h3:(a.eval y).cells.size=n:=by have:=c1.1;simp at this;omega
    obtain⟨g1,g2,g3⟩:=JA bo (a.eval y).cells.toList 0 cells (by simp;omega);have E:(a.eval y).cells.zipIdx.foldl (λcs (q:Value×Nat)=>cs.setIfInBounds (bo+q.2) q.1) cells=((a.eval y).cells.toList.zipIdx 0).foldl (λcs (q:Value×Nat)=>cs.setIfInBounds (bo+q.2) q.1) cells:=by rw[<-Array.foldl_toList];simp
    have N:=r 0 f n (by simp) f2;simp only[fR]at N;obtain⟨W,cs,X,Y,J,Z⟩:=ih (i+1) (bo+n) I l' V T B pl (((a.eval y).cells.toList.zipIdx 0).foldl (λcs (q:Value×Nat)=>cs.setIfInBounds (bo+q.2) q.1) cells)
     (λj f' n d hn=>by rw[show i+1+j=i+(j+1) by omega];exact r (j+1) f' n (by simpa using d) hn) (by rw[g1];exact A) (by omega) (λk hk=>by rw[g3 k (.inr (by simp;omega))];exact O k (by omega))
    refine⟨λx g=>?_,cs,?_,by rw[Y,g1],λk hk=>by rw[J k (by omega),g3 k (.inl (by omega))],λj v d=>?_⟩
    .rcases cG.1 g with g|g
     .exact c2 x g
     exact W x g
    .simp only[cL,Instr.fill,N,f1];rw[aq (by simp;omega)];rw[E];exact X
    rcases jM j c.length with t|D
    .rw[ek t]at d;have F:j<(a.eval y).cells.toList.length:=by simp;omega
     refine⟨(a.eval y).cells.toList[j],?_,c1.2 j v _ d (aO F)⟩;rw[J _ (by omega)];have:=g2 j F;rw[fR]at this;rw[this];exact aO F
    rw[gu D]at d;obtain⟨u,a1,a2⟩:=Z (j-c.length) v d;exact⟨u,by rw[show bo+j=bo+n+(j-c.length) by omega];exact a1,a2⟩
def JB(E:cf M C β s w)(F:dL β (Live M s β) w e a){go:Oper}{ps:List Pc}(b:bb P (.build ps) go.op=true):cv M C P β s w a go (mh ps e s):=by
 cases c:go.op<;>rw[c]at b<;>try cases b
 rename_i t l;simp only[bb]at b
 split at b
 case h_2=>cases b
 rename_i g G
 split at b
 case h_2=>cases b
 rename_i z H;simp only[aL,bL]at b;unfold mh;cases B:eJ e ps with
 |none=>trivial
 |some m=>
  obtain⟨I,d,o⟩:=mG.1 H;have p:=zJ B;obtain⟨J,q,L,N,_,O⟩:=Bo F z.cells.toList g.toList 0 0 ps l.toList m b.1 B (λj=>(g.map λf=>(f.offset,(dI P f.type).getD 0))[j]?) z.cells (λj f n h Q=>by
   rw[mI]at h;simp[h,Q]) (by simp) (by simp;omega) (λk _=>by simp)
  refine .val (v:=.agg m) (u:=.agg q) E ?_ ?_
  .have r:(zeroValue t).run P w=.ok z w:=by simp[zeroValue,typeInfo,d,o]
   have y:=run_places P w g (mu b.1);simp only[execOp,c,Instr.build,Sem.run_bind,r,Result.andThen_ok,run_underlying G,y];have A:Instr.fill (λx=>(Array.map (λf=>(f.offset,(dI P f.type).getD 0)) g)[x]?) z.cells (Array.map (λx=>match x with|(i,x)=>(i,a.eval x)) l).toList=some q:=by simpa using L
   rw[A];simp
  refine .agg m q J (by rw[N,b.2,p]) λj v u h T=>?_
  obtain⟨W,D,V⟩:=O j v h;rw[bw,T]at D;cases D;exact V
def pf{α:Type}{P:Program}{w:World}(b:α->PUnit->Sem (ForInStep PUnit)):∀(l:List α),(∀f∈l,(b f PUnit.unit).run P w=.ok (.yield PUnit.unit) w)->(forIn (m:=Sem) l PUnit.unit b).run P w=.ok PUnit.unit w
 |[],_=>rfl
 |f::l,h=>by simp only[List.forIn_cons,Sem.run_bind,h f (by simp),Result.andThen_ok];exact pf b l λg c=>h g (by simp[c])
def vu(em:Bool)(P:Program)(w:World)(d D:Nat)(ih:∀(t:TypeId) (c:ay) (x:Value) {N:aG} {β:Bt} (l:ak),eY P d t=some c->Al P t x->eS β N w l x.cells.toList->ds c l=true->(Instr.checkKey em D t x).run P w=.ok () w){N:aG}{β:Bt}:
  ∀(i:List Field) (bo:Nat) (c:ay),eY.wG P d i bo=some c->∀(xs:Array Value) (l:ak),eS β N w l xs.toList->bo+c.length=l.length->(∀v∈l,v.one=true)->ds c (l.drop bo)=true->
   ∀f∈i,f.name≠ "_" /\∃x,(part f.type xs f.offset).run P w=.ok x w/\(Instr.checkKey em D f.type x).run P w=.ok () w:=by
 intro i
 induction i with
 |nil=>intro bo c _ xs l _ _ _ _ f j;simp at j
 |cons f i m=>
  intro bo c b xs l o y p z;simp only[eY.wG,sX]at b
  split at b
  case isFalse=>cases b
  rename_i j;simp only[aL,Bk,ne_eq,bZ]at j
  split at b
  case h_2=>cases b
  rename_i q k
  split at b
  case isFalse=>cases b
  rename_i g;have g:=bZ.1 g
  split at b
  case h_2=>cases b
  rename_i A n;simp only[bT]at b;subst b;rw[cE]at y;obtain⟨B,r⟩:=lU z;rw[Jw]at r;obtain⟨x,E,F,G⟩:=qY g o (bo:=bo) p (by omega) (tf k);intro u h;rcases bm.1 h with rfl|h
  .exact⟨j.1,x,by rw[j.2];exact E,ih u.type q x _ k F G B⟩
  exact m (bo+q.length) A n xs l o (by omega) p r u h
def Bp(em:Bool)(P:Program)(w:World):∀(d j:Nat) (t:TypeId) (g:ay) (x:Value) {N:aG} {β:Bt} (l:ak),eY P d t=some g->Al P t x->eS β N w l x.cells.toList->ds g l=true->(Instr.checkKey em (d+j) t x).run P w=.ok () w:=by
 intro d
 induction d with
 |zero=>intro j t g x N β l h;simp[eY]at h
 |succ d o=>
  intro j t g x N β l h p q tl;rw[show d+1+j=(d+j)+1 by omega];unfold eY at h
  split at h
  .rename_i k b;simp only[Instr.checkKey,Sem.run_bind,run_underlying b,Result.andThen_ok];rfl
  .rename_i b;simp only[Instr.checkKey,Sem.run_bind,run_underlying b,Result.andThen_ok];rfl
  .rename_i b;simp only[Instr.checkKey,Sem.run_bind,run_underlying b,Result.andThen_ok];rfl
  .rename_i r b
   split at h
   .cases h
   have i:dK P t=some true:=by simp[dK,b]
   obtain⟨u,rfl⟩:∃v,x=.agg v:=by
    rcases p with⟨_,c⟩|⟨c,_⟩
    .exact c
    rw[i]at c;cases c
   have A:=lS tl;have:=vu em P w d (d+j) (λt g x {N} {β} l c m n y=>o j t g x l c m n y) r.toList 0 g h u l q (by omega) (rX tl) tl;simp only[Instr.checkKey,Sem.run_bind,run_underlying b,Result.andThen_ok];rw[<-Array.forIn_toList,pf _ _ λf z=>?_]
   .rfl
   obtain⟨c,x,m,n⟩:=this f z;rw[ar c];simp only[Sem.run_bind,m,n,Result.andThen_ok,Sem.run_pure]
  cases h
def lh{N:aG}{K:Kd}{T:TypeId}(b:nH P K T=true){k:HV}{u:Value}(c:qC K k=true)(h:HR β N w k u)(em:Bool):(Instr.checkKey em 10000 T u).run P w=.ok () w:=by obtain⟨d,f,g⟩:=iK b c h;simp only[nH,aL,bZ]at b;exact Bp em P w 8 9992 T K.ks u _ b.1 d f g
def r8{N:aG}:∀(n:Nat) {k:Nat} {v:HV} {u:Value},mg k v=true->HR β N w v u->Instr.sameBits n u u=true:=by
  intro n k v u b c;cases c<;>first
    |(cases k with
       |zero=>simp[mg]at b
       |succ k=>cases k with
         |zero=>simp[mg]at b
         |succ k=>cases k with
           |zero=>simp[mg]at b
           |succ k=>simp[mg]at b)
    |(cases n<;>simp[Instr.sameBits,beq_toListBytes])
def C6{N:aG}{K:Kd}{T:TypeId}(p:nH P K T=true){k:HV}{u:Value}(m:qC K k=true)(h:HR β N w k u):(Instr.keyThatStays u u).run P w=.ok u w:=by
 obtain⟨q,c,b⟩:=iK p m h;have t:Instr.sameBits 10000 u u=true:=by
  rcases q with⟨_,j,rfl⟩|⟨_,z⟩
  .have:∀(ks:ay) (l:ak) (d:List Value),ds ks l=true->eS β N w l d->(d.zip d).all (λ(x,y)=>Instr.sameBits 9999 x y)=true:=by
    intro ks
    induction ks with
    |nil=>
     intro l d f n;cases l with
     |nil=>have:=n.1;cases d<;>simp at this ⊢
     |cons=>simp[ds]at f
    |cons k ks A=>intro l d f n;cases l with|nil=>simp[ds]at f|cons v l=>obtain⟨x,o,rfl,B,D⟩:=n.split;simp only[ds,aL]at f;simp only[List.zip_cons_cons,List.all_cons,aL];exact⟨r8 9999 f.1 B,A l o f.2 D⟩
   have:=this _ _ _ b c;show(j.size==j.size&&(j.toList.zip j.toList).all λ(x,y)=>Instr.sameBits 9999 x y)=true;simp only[EI,iI];exact this
  rw[z]at c;cases g:Ib K k with
  |nil=>rw[g]at c;have:=c.1;simp at this
  |cons v r=>rw[g]at c b;cases i:K.ks with|nil=>rw[i]at b;simp[ds]at b|cons E F=>rw[i]at b;simp only[ds,aL]at b;exact r8 10000 b.1 (c.2 0 v u rfl rfl)
 unfold Instr.keyThatStays;rw[t];rfl
def cf.map(q:cf M C β s w){o:Ky}{pl:Pl}(f:β o=some pl){es:List (HV×HV)}(h:ao s.h o=some (.mp es)):
  ∃c:Array MapEntry,w.heap[pl.b]?=some (.map c es.length)/\EN β (Live M s β) w es c.toList/\∀i (x:MapEntry),c[i]?=some x->x.born=i:=by
 obtain⟨r,g,t⟩:=q.obj _ _ h;rw[f]at g;cases g;cases t with
 |mp _ c u j z=>
  have get:∀i (x:MapEntry),c[i]?=some x->∃k v,es[i]?=some (k,v)/\HR β (Live M s β) w k x.key/\HR β (Live M s β) w v x.val/\x.born=i:=by
   intro i x d;have l:i<es.length:=by rw[<-j];exact(rS.1 d).1
   obtain⟨y,m,A,B,D⟩:=z i es[i].1 es[i].2 (aO l);rw[d]at m;cases m;exact⟨_,_,aO l,A,B,D⟩
  refine⟨c,u,⟨by simpa using j,λi p x E d=>?_⟩,λi x d=>?_⟩
  .rw[mI]at d;obtain⟨k,v,n,F,G,_⟩:=get i x d;rw[E]at n;cases n;exact⟨F,G⟩
  obtain⟨_,_,_,_,_,H⟩:=get i x d;exact H
def PR(V:cf M C β s w)(he:dL β (Live M s β) w e a){go:Oper}{K:Kd}{m k:X}{z:HV}{ok:Bool}(g:bb P (.lkp K m k z ok) go.op=true):cv M C P β s w a go (CL K m k z ok e s):=by
 cases n:go.op<;>rw[n]at g<;>try cases g
 rename_i t m' k' h8;simp only[bb,aL,bZ]at g;obtain⟨⟨⟨hm,hk⟩,rfl⟩,g⟩:=g
 split at g
 case h_2=>cases g
 rename_i T E ht;simp only[aL]at g;obtain⟨W,c⟩:=g;have hzero:∃H,(zeroValue E).run P w=.ok H w/\∀N,HR β N w z H:=by
  split at c
  .rename_i cs B;obtain⟨h5,d,D⟩:=mG.1 B
   split at c
   .rename_i l;refine⟨.agg cs,by simp[zeroValue,typeInfo,d,D],λN=>?_⟩;have:=dJ c β N w;exact .agg l cs (kT _ _ c) (by simpa using this.1) λi v u Y I=>this.2 i v u Y (by simpa using I)
   cases c
  .rename_i v _ B;obtain⟨h5,d,D⟩:=mG.1 B;exact⟨v,by simp[zeroValue,typeInfo,d,D],λN=>nL c β N w⟩
  cases c
 obtain⟨H,J,L⟩:=hzero;unfold CL;cases h1:bq m e with
 |none=>trivial
 |some p=>
  cases h2:bq k e with
  |none=>cases p<;>trivial
  |some q=>
   have hp:=aH he hm h1;have O:=aH he hk h2;generalize I:a.eval m'=u at hp;generalize F:a.eval k'=u2 at O;have f:∀(v:HV) (x:Value) (b:Bool),HR β (Live M s β) w v x->HR β (Live M s β) w (bif ok then .bN [v,.bool b]else v) (if ok then .tuple #[x,.bool b]else x):=by
    intro v x b Y;cases ok with
    |false=>exact Y
    |true=>
     refine .bN _ _ rfl λi y z Q c=>?_
     match i with|0=>simp at Q c;subst Q;subst c;exact Y|1=>simp at Q c;subst Q;subst c;exact .bool b|i+2=>simp at Q
   cases hp with
   |fV=>simp only[];cases G:qC K q with|false=>trivial|true=>refine .val (v:=bif ok then .bN [z,.bool false]else z) V ?_ (f z H false (L _));have A:=lh W G O true;obtain⟨o,Z,f2⟩:=jH W O (es:=[]) (l:=[]) ⟨rfl,by simp⟩ (r:=(0,none)) rfl;obtain⟨rfl,_⟩:=f2;simp only[execOp,n,I,F,Instr.lookup,Sem.run_bind,run_underlying ht,Result.andThen_ok,Sem.run_pure];simp[A,Z,J]
   |mp o pl h6=>
    simp only[];cases G:qC K q with
    |false=>trivial
    |true=>
     simp only[cond_true];cases h3:ao s.h o with
     |none=>trivial
     |some ob=>
      cases ob with
      |mp es=>
       simp only[];obtain⟨h7,g1,g2,_⟩:=V.map h6 h3;cases h4:de K es q 0 with
       |none=>trivial
       |some r=>obtain⟨o',Z,f2⟩:=jH (P:=P) W O g2 h4;have A:=lh (P:=P) W G O h7.isEmpty;obtain⟨j,vo⟩:=r;cases vo with|none=>obtain⟨rfl,_⟩:=f2;refine .val (v:=bif ok then .bN [z,.bool false]else z) V ?_ (f z H false (L _));simp only[execOp,n,I,F,Instr.lookup,Sem.run_bind,run_underlying ht,Result.andThen_ok,eL g1 rfl,Sem.run_pure,A,Z];simp[J]|some v=>obtain⟨x,_,_,rfl,f3,_⟩:=f2;refine .val (v:=bif ok then .bN [v,.bool true]else v) V ?_ (f v x.val true f3);simp only[execOp,n,I,F,Instr.lookup,Sem.run_bind,run_underlying ht,Result.andThen_ok,eL g1 rfl,Sem.run_pure,A,Z]
      |cells=>trivial
      |loop=>trivial
   |_=>trivial
def PS(G:cf M C β s w)(A:dL β (Live M s β) w e a){go:Oper}{K:Kd}{neg:Bool}{x y:X}(k:bb P (.eqs K neg x y) go.op=true):cv M C P β s w a go (HP K neg x y e s):=by
 cases g:go.op<;>rw[g]at k<;>try cases k
 rename_i op t H I t2;simp only[bb,aL]at k;obtain⟨⟨⟨⟨⟨J,L⟩,cO⟩,l⟩,m⟩,N⟩:=k;unfold HP;cases O:bq x e with
 |none=>trivial
 |some p=>
  cases Q:bq y e with
  |none=>trivial
  |some q=>
   simp only[];cases T:qB K p q with
   |none=>trivial
   |some r=>
    have B:=aH A J O;have D:=aH A L Q;generalize V:a.eval H=u at B;generalize n:a.eval I=o at D;obtain⟨W,Y,Z⟩:=rY T;obtain⟨E,d2,d3⟩:=iK l W B;obtain⟨F,e2,e3⟩:=iK l Y D;have b:=l;simp only[nH,aL,bZ]at b;rw[m]at b;have i:(Op.equal t u o).run P w=.ok r w:=Am 8 9992 t K.ks b.1 u o _ _ r E F d2 e2 d3 e3 Z;obtain⟨f,rfl⟩:∃f,u=.agg f:=by
     rcases E with⟨_,h⟩|⟨h,_⟩
     .exact h
     rw[b.2]at h;cases h
    obtain⟨d,rfl⟩:∃f,o=.agg f:=by
     rcases F with⟨_,h⟩|⟨h,_⟩
     .exact h
     rw[b.2]at h;cases h
    have j:P.eqGuardType P.depth t=false:=by simpa using N
    refine .val (v:=.bool (r != neg)) (u:=.bool (r != neg)) G ?_ (.bool _);simp only[execOp,g,V,n]
    split at cO
    .have c:neg=false:=by simpa using cO
     subst c;have z:binOp .eql t (.agg f) (.agg d)=(do pure (.bool (<-Op.equal t (.agg f) (.agg d))):Sem Value):=rfl;simp[eqGuard,j,z,i]
    .have c:neg=true:=cO;subst c;have z:binOp .neq t (.agg f) (.agg d)=(do pure (.bool (!(<-Op.equal t (.agg f) (.agg d)))):Sem Value):=rfl;simp[eqGuard,j,z,i]
    cases cO
end sound
def gZ{P:Program}{w:World}{r:Nat}{o o':Obj}(h:w.heap[r]?=some o)(b:jR o=true):(setObj r o').run P w=.ok () (dG w r o'):=by unfold setObj;simp only[Sem.run,h];cases o<;>first|rfl|(simp[jR]at b)
def lj:∀(es:List (HV×HV)) (i:Nat) (v:HV) (j:Nat),(lJ es i v).length=es.length/\(lJ es i v)[j]?=if j=i then(es[j]?).map (λp=>(p.1,v))else es[j]?
 |[],i,v,j=>⟨rfl,by simp[lJ]⟩
 |(a,x)::r,i,v,j=>by
  simp only[lJ];cases i with
  |zero=>have:Nat.beq 0 0=true:=rfl;rw[this];refine⟨rfl,?_⟩;cases j with|zero=>rfl|succ j=>simp
  |succ i=>have:Nat.beq (i+1) 0=false:=rfl;rw[this];obtain⟨b,_⟩:=lj r i v 0;refine⟨by simp only[cond_false,aA,PT,b],?_⟩;cases j with|zero=>simp|succ j=>obtain⟨_,c⟩:=lj r i v j;simp only[cond_false,List.getElem?_cons_succ,PT,c,Nat.add_right_cancel_iff]
section sound
variable{M:aG}{C:eT}{P:Program}{β:Bt}{s:HS}{w:World}{e:En}{a:Act}
def cf.ES(j:cf M C β s w){o:Ky}{pl:Pl}(c:β o=some pl){es LQ:List (HV×HV)}(h:ao s.h o=some (.mp es)){C7:Array MapEntry}(B:C7.size=LQ.length)
  (D:∀(i:Nat) (k v:HV),LQ[i]?=some (k,v)->∃x,C7[i]?=some x/\HR β (Live M s β) w k x.key/\HR β (Live M s β) w v x.val/\x.born=i):
  cf M C β (s.aK o (.mp LQ)) (dG w pl.b (.map C7 LQ.length))/\Ext M β s w β (s.aK o (.mp LQ)) (dG w pl.b (.map C7 LQ.length)):=by
 obtain⟨E,l,_⟩:=j.map c h;refine j.qw h c (by simp[dG]) (λb m=>bS w _ m) (jz l rfl) rfl rfl rfl (λr d=>by rw[l]at d;cases d) (λn=>?_) (λF z p q u f y n=>?_) (.inr ⟨by simp,by simp⟩)
 .exact .mp LQ C7 (fE l) B λi k v A=>let⟨x,G,H,I,J⟩:=D i k v A;⟨x,G,H.keep (Bt.le_refl _) (gY.refl _ _) n,I.keep (Bt.le_refl _) (gY.refl _ _) n,J⟩
 obtain⟨_,t,Q,A,g,T,L,N,O,_⟩:=j.apart o F _ _ pl p h u c f q.symm y.symm;cases O
def C8{K:Kd}{k:HV}:∀{es:List (HV×HV)} {b j:Nat} {v:HV},de K es k b=some (j,some v)->b<=j/\j<b+es.length
 |[],b,j,v,h=>by cases h
 |(a,x)::r,b,j,v,h=>by
  simp only[de]at h
  split at h
  .cases h;simp
  .have:=C8 h;simp only[aA];omega
  cases h
def ll{K:Kd}{k:HV}:∀{es:List (HV×HV)} {b n:Nat},de K es k b=some (n,none)->n=b+es.length
 |[],b,n,h=>by cases h;rfl
 |(a,x)::r,b,n,h=>by
  simp only[de]at h
  split at h
  .cases h
  .have:=ll h;simp only[aA];omega
  cases h
def Ao(G:cf M C β s w){o:Ky}{pl:Pl}(l:β o=some pl){es:List (HV×HV)}(h:ao s.h o=some (.mp es)){K:Kd}{T:TypeId}(H:nH P K T=true){q:HV}{u:Value}(I:qC K q=true)(E:HR β (Live M s β) w q u):
  ∃c:Array MapEntry,w.heap[pl.b]?=some (.map c es.length)/\(Instr.checkKey false 10000 T u).run P w=.ok () w/\
   (∀i J,de K es q 0=some (i,some J)->∃x,c[i]?=some x/\x.key=u/\x.born=i/\HR β (Live M s β) w J x.val/\(Instr.findKey T u c.toList).run P w=.ok (some (i,x.val)) w/\
    ∀v z,HR β (Live M s β) w v z->cf M C β (s.aK o (.mp (lJ es i v))) (dG w pl.b (.map (c.modify i λe=>{e with key:=u,val:=z}) es.length))/\
     Ext M β s w β (s.aK o (.mp (lJ es i v))) (dG w pl.b (.map (c.modify i λe=>{e with key:=u,val:=z}) es.length)))/\
   (∀n,de K es q 0=some (n,none)->(Instr.findKey T u c.toList).run P w=.ok none w/\
    ∀v z,HR β (Live M s β) w v z->cf M C β (s.aK o (.mp (es++[(q,v)]))) (dG w pl.b (.map (c.push {key:=u,val:=z,born:=es.length}) (es.length+1)))/\
     Ext M β s w β (s.aK o (.mp (es++[(q,v)]))) (dG w pl.b (.map (c.push {key:=u,val:=z,born:=es.length}) (es.length+1)))):=by
 obtain⟨c,Z,D,F⟩:=G.map l h;have f:c.size=es.length:=by have:=D.1;simpa using this
 refine⟨c,Z,lh H I E false,λi J L=>?_,λn L=>?_⟩
 .obtain⟨o',N,O⟩:=jH (P:=P) H E D L;obtain⟨x,_,m,rfl,f4,X⟩:=O;simp only[Nat.sub_zero]at m;rw[mI]at m;refine⟨x,m,X,F i x m,f4,N,λv z Q=>?_⟩;have Y:=(lj es i v 0).1;have:=G.ES l h (LQ:=lJ es i v) (C7:=c.modify i λe=>{e with key:=u,val:=z}) (by simp[f,Y]) (λj k V g=>by
   have d:=(lj es i v j).2;rw[g]at d;rw[An];by_cases r:j=i
   .subst r;rw[ar rfl]at d;rw[ar rfl,m];cases t:es[j]?with
    |none=>rw[t]at d;cases d
    |some p=>rw[t]at d;cases d;have y:=D.2 j p x t (by rw[mI];exact m);exact⟨_,rfl,by rw[<-X];exact y.1,Q,F j x m⟩
   rw[aq r]at d;rw[aq (λe=>r e.symm)];have A:=(aV.1 d.symm).1;have B:c[j]?=some (c[j]'(by omega)):=fX (by omega);have y:=D.2 j (k,V) _ d.symm (by rw[mI];exact B);exact⟨_,B,y.1,y.2,F j _ B⟩)
  rw[Y]at this;exact this
 obtain⟨o',N,O⟩:=jH (P:=P) H E D L;obtain⟨rfl,_⟩:=O;refine⟨N,λv z Q=>?_⟩;have:=G.ES l h (LQ:=es++[(q,v)]) (C7:=c.push {key:=u,val:=z,born:=es.length}) (by simp[f]) (λj k V g=>by
  rw[Jg];by_cases A:j=c.size
  .subst A;rw[gu (by omega),f]at g;simp only[lg,List.getElem?_cons_zero,bT,oD]at g;obtain⟨rfl,rfl⟩:=g;rw[ar rfl];exact⟨_,rfl,E,Q,f.symm⟩
  have W:j<es.length:=by have:=(aV.1 g).1;simp at this;omega
  rw[ek W]at g;rw[aq A];have B:c[j]?=some (c[j]'(by omega)):=fX (by omega);have y:=D.2 j (k,V) _ g (by rw[mI];exact B);exact⟨_,B,y.1,y.2,F j _ B⟩)
 simpa using this
def PU(hr:cf M C β s w)(F:dL β (Live M s β) w e a){go:Oper}{K:Kd}{m k v:X}(d:bb P (.mup K m k v) go.op=true):cv M C P β s w a go (HO K m k v e s):=by
 have b:∃t f g j,(go.op=.mapUpdate t f g j∨go.op=.insert t f g j)/\cZ m f=true/\cZ k g=true/\cZ v j=true/\∃T E,P.underlying t=some (.map T E)/\nH P K T=true:=by
  cases b:go.op<;>rw[b]at d<;>try cases d
  all_goals
   simp only[bb,aL]at d;obtain⟨⟨⟨y,A⟩,B⟩,d⟩:=d
   split at d
   .rename_i T E l
    first
     |exact⟨_,_,_,_,.inl rfl,y,A,B,T,E,l,d⟩
     |exact⟨_,_,_,_,.inr rfl,y,A,B,T,E,l,d⟩
   cases d
 obtain⟨t,f,g,j,b,y,A,B,T,E,l,Y⟩:=b;unfold HO;cases h1:bq m e with
 |none=>trivial
 |some p=>
  cases h2:bq k e with
  |none=>cases p<;>trivial
  |some q=>
   cases h3:bq v e with
   |none=>cases p<;>trivial
   |some z=>
    have Z:=aH F y h1;have G:=aH F A h2;have H:=aH F B h3;generalize hu:a.eval f=u at Z;generalize I:a.eval g=u2 at G;generalize J:a.eval j=L at H;have c:(execOp a.eval go).run P w=((Instr.mapUpdate t u u2 L).run P w).andThen λ_ w=>.ok .skip w:=by rcases b with b|b<;>simp[execOp,b,hu,I,J]
    cases Z with
    |mp o pl N=>
     simp only[];cases n:qC K q with
     |false=>trivial
     |true=>
      simp only[cond_true];cases h4:ao s.h o with
      |none=>trivial
      |some ob=>
       cases ob with
       |mp es=>
        simp only[];obtain⟨h6,D,g2,g3,g4⟩:=Ao hr N h4 Y n G;cases h5:de K es q 0 with
        |none=>trivial
        |some r=>obtain⟨i,vo⟩:=r;cases vo with|none=>obtain⟨O,Q⟩:=g4 i h5;obtain⟨V,W⟩:=Q z L H;refine⟨Go.undef,_,β,.inr ⟨?_,rfl⟩,V,W,.undef⟩;rw[c];simp only[Instr.mapUpdate,Sem.run_bind,run_underlying l,Result.andThen_ok,eL D rfl,g2,O,gZ D rfl]|some v0=>obtain⟨x,O,Q,k3,k4,k5,k6⟩:=g3 i v0 h5;obtain⟨V,W⟩:=k6 z L H;refine⟨Go.undef,_,β,.inr ⟨?_,rfl⟩,V,W,.undef⟩;rw[c];simp only[Instr.mapUpdate,Sem.run_bind,run_underlying l,Result.andThen_ok,eL D rfl,g2,k5,O,ml,iY,Q,C6 Y n G,gZ D rfl]
       |cells=>trivial
       |loop=>trivial
    |_=>trivial
def PV(hr:cf M C β s w)(he:dL β (Live M s β) w e a){go:Oper}{K:Kd}{m k:X}{z:HV}(D:bb P (.men K m k z) go.op=true):cv M C P β s w a go (HU K m k z e s):=by
 cases J:go.op<;>rw[J]at D<;>try cases D
 rename_i t m' k';simp only[bb,aL]at D;obtain⟨⟨hm,hk⟩,D⟩:=D
 split at D
 case h_2=>cases D
 rename_i T E ht;simp only[aL]at D;obtain⟨hK,n⟩:=D;have hzero:∃V,(∀w,(zeroValue E).run P w=.ok V w)/\∀N,HR β N w z V:=by
  split at n
  .rename_i cs L;obtain⟨ha,A,O⟩:=mG.1 L
   split at n
   .rename_i l;refine⟨.agg cs,λw=>by simp[zeroValue,typeInfo,A,O],λN=>?_⟩;have:=dJ n β N w;exact .agg l cs (kT _ _ n) (by simpa using this.1) λi v u hv hu=>this.2 i v u hv (by simpa using hu)
   cases n
  .rename_i v _ L;obtain⟨ha,A,O⟩:=mG.1 L;exact⟨v,λw=>by simp[zeroValue,typeInfo,A,O],λN=>nL n β N w⟩
  cases n
 obtain⟨V,hd,Y⟩:=hzero;unfold HU;cases h1:bq m e with
 |none=>trivial
 |some p=>
  cases h2:bq k e with
  |none=>cases p<;>trivial
  |some q=>
   have hp:=aH he hm h1;have hq:=aH he hk h2;generalize hu:a.eval m'=u at hp;generalize Z:a.eval k'=u2 at hq;have H:∀{β':Bt} {N:aG} {w':World} (v:HV) (x:Value) (i:Nat),HR β' N w' v x->HR β' N w' (.bN [v,.int .i64 (.ofNat i)]) (.tuple #[x,goInt i]):=by
    intro β' N w' v x i hv;refine .bN _ _ rfl λj y z F n=>?_
    match j with|0=>simp at F n;subst F;subst n;exact hv|1=>simp at F n;subst F;subst n;exact .int .i64 (.ofNat i)|j+2=>simp at F
   cases hp with
   |mp o pl hf=>
    simp only[];cases h3:qC K q with
    |false=>trivial
    |true=>
     simp only[cond_true];cases h4:ao s.h o with
     |none=>trivial
     |some ob=>
      cases ob with
      |mp d=>
       simp only[];obtain⟨G,g1,g2,g3,g4⟩:=Ao hr hf h4 hK h3 hq;cases h5:de K d q 0 with
       |none=>trivial
       |some r=>
        obtain⟨i,vo⟩:=r;cases vo with
        |none=>obtain⟨k1,k2⟩:=g4 i h5;obtain⟨B,f⟩:=k2 z V (Y _);simp only[];rw[bF];refine⟨.tuple #[V,goInt d.length],_,β,.inl ?_,B,f,H z V d.length ((Y _).ext f)⟩;simp only[execOp,J,hu,Z,Instr.mapEntry,Sem.run_bind,run_underlying ht,Result.andThen_ok,eL g1 rfl,g2,k1,hd,gZ g1 rfl,Sem.run_pure]
        |some Q=>
         obtain⟨x,k1,k2,k3,k4,k5,k6⟩:=g3 i Q h5;obtain⟨B,f⟩:=k6 Q x.val k4;have h6:lJ d i Q=d:=by
          apply PW;intro j;rw[(lj d i Q j).2];by_cases W:j=i
          .subst W;rw[ar rfl];have:∀(d:List (HV×HV)) (I:Nat) (j:Nat),de K d q I=some (j,some Q)->(d[j-I]?).map (λp=>(p.1,Q))=d[j-I]?:=by
            intro d
            induction d with
            |nil=>intro I j h;cases h
            |cons p d ih=>
             obtain⟨pk,pv⟩:=p;intro I j h;simp only[de]at h
             split at h
             .cases h;simp
             .have k7:=C8 h;have:=ih (I+1) j h;rw[show j-I=(j-(I+1))+1 by omega];simpa using this
             cases h
           simpa using this d 0 j h5
          rw[aq W]
         rw[h6]at B f;have k8:s.aK o (.mp d)={s with h:=av (some (.mp d)) o s.h}:=rfl;have c:∀y,ao (s.aK o (.mp d)).h y=ao s.h y:=λy=>by
          show ao (av (some (.mp d)) o s.h) y=_;rw[af];split
          .rename_i e;rw[e,h4]
          rfl
         have h7:∀b,Live M (s.aK o (.mp d)) β b↔Live M s β b:=λb=>or_congr Iff.rfl ⟨λ⟨y,ob,pl,a1,a2,a3⟩=>⟨y,ob,pl,by rw[<-c];exact a1,a2,a3⟩,λ⟨y,ob,pl,a1,a2,a3⟩=>⟨y,ob,pl,by rw[c];exact a1,a2,a3⟩⟩
         have hg:cf M C β s (dG w pl.b (.map (G.modify i λe=>{e with key:=u2,val:=x.val}) d.length)):=
          ⟨B.lt,λy ob F=>let⟨ho,b1,b2⟩:=B.obj y ob (by rw[c];exact F);⟨ho,b1,b2.keep (Bt.le_refl _) (λb _ hb=>(h7 b).2 hb) (cD.refl _ _) rfl⟩,
           λy y' ob hs hx k0 c1 c2=>B.apart y y' ob hs hx k0 (by rw[c];exact c1) (by rw[c];exact c2),λy t lo hi g F=>B.qV y t lo hi g (by rw[c];exact F),B.vr,B.mlt,hr.sR,B.zH⟩
         have h8:Ext M β s w β s (dG w pl.b (.map (G.modify i λe=>{e with key:=u2,val:=x.val}) d.length)):=
          ⟨f.le,f.keeps,λb hb hl=>f.less b hb ((h7 b).2 hl),f.os,f.tape,f.output,f.loops,f.nx,f.oV⟩
         refine⟨.tuple #[x.val,goInt i],_,β,.inl ?_,hg,h8,H Q x.val i (k4.ext h8)⟩;have h9:(G.modify i λe=>{e with key:=u2})=(G.modify i λe=>{e with key:=u2,val:=x.val}):=by
          apply Bm;intro j;rw[An,An];by_cases W:i=j
          .subst W;rw[ar rfl,ar rfl,k1];rfl
          rw[aq W,aq W]
         simp only[execOp,J,hu,Z,Instr.mapEntry,Sem.run_bind,run_underlying ht,Result.andThen_ok,eL g1 rfl,g2,k5,k1,ml,iY,k2,C6 hK h3 hq,h9,gZ g1 rfl,Sem.run_pure,k3]
      |cells=>trivial
      |loop=>trivial
   |_=>trivial
def PX(N:cf M C β s w)(F:dL β (Live M s β) w e a){go:Oper}{m i v:X}(D:bb P (.mes m i v) go.op=true):cv M C P β s w a go (HW m i v e s):=by
 cases y:go.op<;>rw[y]at D<;>try cases D
 rename_i t m' i' G;simp only[bb,aL]at D;obtain⟨⟨hm,hi⟩,hv⟩:=D;unfold HW;cases h1:bq m e with
 |none=>trivial
 |some p=>
  cases h2:bq i e with
  |none=>cases p<;>trivial
  |some q=>
   cases h3:bq v e with
   |none=>cases p<;>cases q<;>first|trivial|(rename_i k n;cases n<;>trivial)
   |some z=>
    have d:=aH F hm h1;have O:=aH F hi h2;have Q:=aH F hv h3;generalize hu:a.eval m'=u at d;generalize H:a.eval i'=u2 at O;generalize I:a.eval G=u3 at Q;cases d with
    |mp o pl A=>
     cases O with
     |int kd n=>
      cases n with
      |negSucc n=>trivial
      |ofNat n=>
       simp only[];cases T:ao s.h o with
       |none=>trivial
       |some ob=>
        cases ob with
        |mp x=>
         simp only[];cases h5:Nat.blt n (aM x)with
         |false=>trivial
         |true=>
          rw[cp,bF]at h5;simp only[cond_true];obtain⟨b,V,J,E⟩:=N.map A T;have L:b.size=x.length:=by have:=J.1;simpa using this
          have W:=(lj x n z 0).1;obtain⟨Y,Z⟩:=N.ES A T (LQ:=lJ x n z) (C7:=b.modify n λe=>{e with val:=u3}) (by simp[L,W]) (λj k G hj=>by
           have c:=(lj x n z j).2;rw[hj]at c;rw[An];by_cases f:j=n
           .subst f;rw[ar rfl]at c;have g:b[j]?=some (b[j]'(by omega)):=fX (by omega);rw[ar rfl,g];cases l:x[j]?with
            |none=>rw[l]at c;cases c
            |some p=>rw[l]at c;cases c;have d:=J.2 j p _ l (by rw[mI];exact g);exact⟨_,rfl,d.1,Q,by simpa using E j _ g⟩
           rw[aq f]at c;rw[aq (λe=>f e.symm)];have h6:=(aV.1 c.symm).1;have g:b[j]?=some (b[j]'(by omega)):=fX (by omega);have d:=J.2 j (k,G) _ c.symm (by rw[mI];exact g);exact⟨_,g,d.1,d.2,E j _ g⟩)
          rw[W]at Y Z;refine⟨Go.undef,_,β,.inr ⟨?_,rfl⟩,Y,Z,.undef⟩;have r:b.findIdx? (λe=>(e.born:Int)==(Int.ofNat n))=some n:=by
           rw[Array.findIdx?_eq_some_iff_getElem];have B:n<b.size:=by omega
           refine⟨B,?_,λj hj=>?_⟩
           .have:=E n b[n] (fX B);simp[this]
           have:=E j b[j] (fX (by omega));simp[this];omega
          simp only[execOp,y,hu,H,I,Instr.entryStore,Sem.run_bind,eL V rfl,Result.andThen_ok,asInt,asIntOf,Sem.run_pure,r,gZ V rfl]
        |cells=>trivial
        |loop=>trivial
     |_=>trivial
    |_=>trivial
def cf.Gz(h:cf M C β s w){pl:Pl}(hM:¬M pl.b)(hb:pl.b<w.heap.size){ob:Ob}{t:Tr HV}{Z hi:Nat}{g:Ky}(A:ob=.cells t Z hi g)
  {ty:Tr (Nat×Nat)}(Q:ty=s.ty∨∃E,ty=av (some (E,0)) s.nx s.ty/\zG w pl.b E 0)
  {gr:Tr cm}(T:∃ms,ao gr g=some ms/\s.nx∈ms)(q:∀p ms x,ao s.gr p=some ms->x∈ms->(∃ob,ao s.h x=some ob)->∃B,ao gr p=some B/\x∈B)(D:∀p ms,ao gr p=some ms->p.toNat<s.nx.succ.toNat)
  (F:∀o' kB c,ao s.h o'=some kB->β o'=some c->c.b=pl.b->c.s=pl.s/\∃G k l,kB=.cells G k l g)
  (hN:Live M s β pl.b∨∀o kB,ao s.h o=some kB->∃c,β o=some c/\CV C β (λx=>x=pl.b∨Live M s β x) w c kB)
  (V:CV C (β.add s.nx pl) (λx=>x=pl.b∨Live M s β x) w pl ob):
  cf M C (β.add s.nx pl) {h:=av (some ob) s.nx s.h,nx:=s.nx.succ,gr:=gr,ty:=ty} w:=by
 subst A;have n:=h.fresh;have hle:β.le (β.add s.nx pl):=Bt.kC n;have j:∀x,Live M {h:=av (some (.cells t Z hi g)) s.nx s.h,nx:=s.nx.succ,gr:=gr,ty:=ty} (β.add s.nx pl) x->x=pl.b∨Live M s β x:=by
  rintro x (O|⟨o,kB,c,i,d,rfl⟩)
  .exact .inr (.inl O)
  simp only[af]at i;unfold Bt.add at d;by_cases f:o=s.nx
  .simp only[f,bf,bT]at d;subst d;exact .inl rfl
  simp only[f,bp]at i d;exact .inr (.inr ⟨o,kB,c,i,d,rfl⟩)
 refine⟨λo c f=>?_,λo kB f=>?_,λo o' H I J L i d y r N u=>?_,λo G k l p f=>?_,D,h.mlt,?_,h.Jh rfl (Q.imp id λ⟨E,i,d⟩=>⟨E,0,i,d,λh=>absurd rfl h⟩)⟩
 rotate_right
 .rintro x O ⟨o,kB,c,i,d,rfl⟩
  simp only[af]at i;unfold Bt.add at d;by_cases f:o=s.nx
  .simp only[f,bf,bT]at d;subst d;exact hM O
  simp only[f,bp]at i d;exact h.sR _ O ⟨o,kB,c,i,d,rfl⟩
 .unfold Bt.add at f;rw[Ky.ba];by_cases m:o=s.nx
  .simp only[m,bf,bT]at f;subst f;subst m;exact⟨by omega,hb⟩
  simp only[m,bp]at f;have:=h.lt o c f;omega
 .simp only[af]at f;by_cases m:o=s.nx
  .simp only[m,bf,bT]at f;subst f;subst m;exact⟨pl,by simp[Bt.add],V.keep (Bt.le_refl _) (λx _ v=>j x v) (cD.refl _ _) rfl⟩
  simp only[m,bp]at f;rcases hN with hl|hg
  .obtain⟨c,i,d⟩:=h.obj o kB f;refine⟨c,hle _ _ i,d.keep hle (λx _ v=>?_) (cD.refl _ _) rfl⟩;rcases j x v with rfl|v
   .exact hl
   exact v
  obtain⟨c,i,d⟩:=hg o kB f;exact⟨c,hle _ _ i,d.keep hle (λx _ v=>j x v) (cD.refl _ _) rfl⟩
 .simp only[af]at i d;unfold Bt.add at y r;by_cases W:o=s.nx
  .simp only[W,bf,bT]at i y;have z:o'≠s.nx:=λz=>N (W.trans z.symm)
   simp only[z,bp]at d r;subst y;subst i;obtain⟨X,G,k,l,Y⟩:=F o' I L d r u.symm;exact⟨X.symm,_,_,_,_,_,_,_,rfl,Y⟩
  simp only[W,bp]at i y;by_cases z:o'=s.nx
  .simp only[z,bf,bT]at d r;subst r;subst d;obtain⟨X,G,k,l,Y⟩:=F o H J i y u;exact⟨X,_,_,_,_,_,_,_,Y,rfl⟩
  simp only[z,bp]at d r;exact h.apart o o' H I J L i d y r N u
 simp only[af]at f;by_cases m:o=s.nx
 .simp only[m,bf,bT]at f;cases f;subst m;exact T
 simp only[m,bp]at f;obtain⟨ms,i,d⟩:=h.qV o G k l p f;exact q p ms o i d ⟨_,f⟩
def CV.cut{N:aG}{pl:Pl}{t:Tr HV}{c d b:Nat}{g:Ky}(h:CV C β N w pl (.cells t c d g))(q:b<=d):CV C β N w pl (.cells t c b g):=by cases h with|cells _ _ _ _ f E i j l m r n=>exact .cells t c b g f E i j l m (by omega) λk v o u p=>n k v o (by omega) p
def cf.spare(h:cf M C β s w){b:Nat}{cs:Array Value}{E:TypeId}{fr:Nat×Nat}(j:w.heap[b]?=some (.cells cs E fr))(l:iG s β b){p:Nat}{vs:List Value}(m:p+vs.length<=cs.size)
  (f:∀o' d N q x O,ao s.h o'=some (.cells N q x O)->β o'=some d->d.b=b->∀k,q<=k->k<x->¬(p<=k-d.s/\k-d.s<p+vs.length)):
  cf M C β s (dG w b (.cells (nQ cs p vs) E fr))/\Ext M β s w β s (dG w b (.cells (nQ cs p vs) E fr)):=by
 have Q:Live M s β b:=.inr l;have y:cD (Live M s β) w (dG w b (.cells (nQ cs p vs) E fr)):=⟨by simp[dG],λz _ T=>bS w _ λe=>T (by rw[e];exact Q),r6 j (fe vs cs p)⟩;refine⟨⟨λo pl i=>⟨(h.lt o pl i).1,by have:=(h.lt o pl i).2;simpa[dG]using this⟩,λo ob i=>?_,h.apart,h.qV,h.vr,λb D=>by have:=h.mlt b D;simpa[dG]using this,h.sR,λo E n i=>let⟨pl,A,B,V⟩:=h.zH o E n i;⟨pl,A,B.keep y,V⟩⟩,Bt.le_refl _,y,gY.refl _ _,rfl,rfl,rfl,λz r F=>?_,aY _,λz D=>bS w _ λe=>h.sR z D (by rw[e];exact l)⟩
 .obtain⟨pl,A,B⟩:=h.obj o ob i;refine⟨pl,A,?_⟩;by_cases e:pl.b=b
  .cases B with
   |cells t G H g W E' X Y c Z hn hc=>
    rw[e,j]at c;cases c;refine .cells t G H g _ E fr Y (by rw[e];exact fE j) (by rw[fe];exact Z) (by rw[fe];exact hn) λk v I J a3=>?_
    obtain⟨b1,u,b2,b3⟩:=hc k v I J a3;refine⟨b1,u,?_,b3.keep (Bt.le_refl _) (gY.refl _ _) y⟩;rw[rZ vs cs p _ m,aq (f o pl t G H g i A e k I J)];exact b2
   |mp es h4 c=>rw[e,j]at c;cases c
   |loop st L tm ps h5 body r nt keep c=>rw[e,j]at c;cases c
  exact B.keep (Bt.le_refl _) (gY.refl _ _) y (bS w _ e)
 by_cases e:z=b
 .subst e;rw[j]at F;cases F
 exact⟨r,by rw[bS w _ e];exact F⟩
def pg(M:aG)(C:eT)(β:Bt)(s:HS)(w:World)(run:Result Value):da->Prop
 |.v v s'=>∃u b c,run=.ok u b/\cf M C c s' b/\Ext M β s w c s' b/\HR c (Live M s' c) b v u
 |.bad=>True
 |_=>False
def r9{sz dX:Nat}{tx:TypeId}{y:Value}{b:List Value}{new:ak}(c:Src P sz tx y dX b w){N:aG}(d:eS β N w new b):new.length=dX*sz:=by rw[<-d.1,c.newsLen]
def qd(w:World)(o:Obj):(w.drew.alloc o).heap[w.heap.size]?=some o:=by show(w.heap.push o)[w.heap.size]?=_;simp
def ET(w:World)(o:Obj):w.heap.size<(w.drew.alloc o).heap.size:=by show _<(w.heap.push o).size;simp
def ti(w:World){E:TypeId}{z:Value}{sz len dX cap:Nat}(c:z.cells.size=sz){ph d:List Value}(f:ph.length=len*sz)(g:d.length=dX*sz)(w':World)(b:Nat)
  (h:w'.heap[b]?=some (.cells ((ph++d).toArray++Builtin.zeroCells z.cells (grownCap w (len+dX) cap E-(len+dX))) E)):
  oU w' b E (grownCap w (len+dX) cap E*sz):=by
 refine⟨_,(0,0),h,?_⟩;have i:=grownCap_ge w (len+dX) cap E;rw[PY,size_zeroCells,c];simp only[JC,cE,f,g];rw[<-Nat.add_mul,<-Nat.add_mul]
 congr 1;omega
def jW(D:cf M C β s w){f:bG}{t tx ty E:TypeId}(n:∀F,f=some F->F=E){info:TypeInfo}{z:Value}(G:P.underlying t=some (.slice E))(H:P.info? E=some info)(J:info.zero=some z)(p:z.cells.size=info.size){bx:Nat}(q:bx*info.bytes<=140737488355328)(L:bx<=140737488355328)
  {y:Value}{dX:Nat}{b:List Value}(d:Src P info.size tx y dX b w){new:ak}(r:eS β (Live M s β) w new b)(g:∀x∈new,x.one=true):
  pg M C β s w ((Builtin.append_ #[t,tx] ty #[.slice none 0 0,y]).run P w) (s.append info.size bx f .ai new dX):=by
 have u:=r9 d r;show pg M C β s w _ (bif Nat.beq dX 0 then .v .ai s else bif Nat.ble dX bx then s.CJ (Ez f s) new (λo=>.sl o 0 dX info.size)else .bad);cases h0:Nat.beq dX 0 with
 |true=>rw[bh]at h0;subst h0;have:b=[]:=iJ (by rw[d.newsLen];simp);subst this;exact⟨_,w,β,run_append_nothing (P:=P) w t tx ty E info G H none 0 0 (aY _) y d,D,Ext.refl _ _ _,.ai⟩
 |false=>
  cases O:Nat.ble dX bx with
  |false=>trivial
  |true=>
   rw[eo]at O;have h0:dX≠0:=λh=>by rw[h]at h0;cases h0
   simp only[cond_false,cond_true];rw[qc];have i:=run_append_grow_src (P:=P) w t tx ty E info z G H J none 0 0 [] (by simp[Builtin.firstCells]) y dX b d (by omega) (by omega) (growslice_fits (by omega) (fh (jU _ (by omega)) q));have Q:cf M C β s w.drew:=D.drawn rfl;have k:Ext M β s w β s w.drew:=Ext.drawn rfl rfl rfl rfl;have A:=r.ext k;obtain⟨I,T,V,W⟩:=Q.newRow (l:=new) (cs:=([]++b).toArray++Builtin.zeroCells z.cells (grownCap w (0+dX) 0 E-(0+dX))) (E:=E) (fr:=(0,0)) (ty:=Ez f s) (by
     cases f with
     |none=>exact .inl rfl
     |some F=>rw[n F rfl];exact .inr ⟨0,rfl,.inl rfl⟩) (.inl rfl) (by simp[u,d.newsLen]) (λj v B=>by
    have c:j<b.length:=by rw[r.1];exact(aV.1 B).1
    refine⟨g v (cH B),b[j],?_,A.2 j v _ B (aO c)⟩;rw[EU (by simpa using c)];simp[c])
   refine⟨_,_,I,i,T,k.trans V,?_⟩;have X:=grownCap_ge w (0+dX) 0 E;have m:=ti w (E:=E) (cap:=0) p (ph:=[]) (len:=0) (by simp) d.newsLen (w.drew.alloc (.cells (([]++b).toArray++Builtin.zeroCells z.cells (grownCap w (0+dX) 0 E-(0+dX))) E)) w.heap.size (qd _ _);have:=λN=>HR.sl (β:=I) (N:=N) s.nx 0 dX info.size (grownCap w (0+dX) 0 E) _ ⟨w.heap.size,0⟩ W (aY _) (by omega) ⟨E,m⟩ (by simp)
   simpa using this _
def C9(p:cf M C β s w){o:Ky}{t0:Tr HV}{J L:Nat}{g:Ky}(ho:ao s.h o=some (.cells t0 J L g)){ms:cm}(F:ao s.gr g=some ms){A B:Nat}{h0 j:Tr Ob}{q f:cm}(hk:eU s.h 12 ms=(h0,q))(hq:bP h0 o A B q=(j,f))
  {t:Tr HV}{I hi:Nat}{l:Ky}(u:ao j o=some (.cells t I hi l))(hA:A<=hi):
  l=g/\cf M C β {h:=av (some (.cells t I A g)) o j,nx:=s.nx,gr:=av (some f) g s.gr,ty:=s.ty} w/\Ext M β s w β {h:=av (some (.cells t I A g)) o j,nx:=s.nx,gr:=av (some f) g s.gr,ty:=s.ty} w/\
   (∀x D c d,x≠o->ao j x=some (.cells D c d g)->¬(c<B/\A<d)):=by
 obtain⟨N,O,k3⟩:=qZ 12 ms s.h;rw[hk]at N O k3;obtain⟨Q,T,q3⟩:=nP o A B h0 q;rw[hq]at Q T q3;simp only at N O k3 Q T q3;have k:∀{x ob},ao h0 x=some ob->ao s.h x=some ob:=λ{x ob} b=>by
  rcases N x with e|e
  .rw[<-e];exact b
  rw[e]at b;cases b
 have i:∀{x ob},ao j x=some ob->ao h0 x=some ob:=λ{x ob} b=>by
  rcases Q x with e|⟨e,_⟩
  .rw[<-e];exact b
  rw[e]at b;cases b
 have m:∀x,ao j x=ao s.h x∨ao j x=none:=λx=>by cases e:ao j x with|none=>exact .inr rfl|some ob=>exact .inl (k (i e)).symm
 have v:∀{x ob},ao j x=some ob->ao s.h x=some ob:=λ{x ob} b=>k (i b)
 have hg:l=g:=by have:=v u;rw[ho]at this;cases this;rfl
 subst hg;have n:∀{x D c d},ao j x=some (.cells D c d l)->x∈f/\(x≠o->¬(c<B/\A<d)):=λ{x D c d} b=>by obtain⟨V,E,g2⟩:=p.qV _ _ _ _ _ (v b);rw[F]at E;cases E;exact T x (O x g2 _ (i b)) _ _ _ _ b
 have y:cf M C β {h:=j,nx:=s.nx,gr:=av (some f) l s.gr,ty:=s.ty} w:=p.sub m (λx D c d E b=>by
  simp only[af];by_cases G:E=l
  .subst G;rw[ar rfl];exact⟨f,rfl,(n b).1⟩
  .rw[aq G];exact p.qV _ _ _ _ _ (v b)) (λE V z=>by
  simp only[af]at z;by_cases G:E=l
  .subst G;exact p.vr _ _ F
  rw[aq G]at z;exact p.vr _ _ z)
 have W:Ext M β s w β {h:=j,nx:=s.nx,gr:=av (some f) l s.gr,ty:=s.ty} w:=Ext.sub m;obtain⟨pl,X,Y⟩:=y.obj o _ u;obtain⟨r1,r2⟩:=y.qw (w':=w) (kB:=.cells t I A l) u X rfl (λ_ _=>rfl) (λ_ _ _ h=>h) rfl rfl rfl (λr p=>⟨r,p⟩) (λ_=>Y.cut hA) (λo' H h3 _ h1 h2 _ _=>by
  obtain⟨h4,c1,c2⟩:=y.obj o' H h1;rw[h2]at c1;cases c1;exact c2) (.inl ⟨_,_,_,_,_,_,_,rfl,rfl⟩)
 exact⟨rfl,r1,W.trans r2,λx D c d Z b=>(n b).2 Z⟩
def mL(hr:cf M C β s w){tg:bG}{t tx ty E:TypeId}(x6:∀F,tg=some F->F=E){info:TypeInfo}{z:Value}(ht:P.underlying t=some (.slice E))(hi:P.info? E=some info)(hz:info.zero=some z)(km:z.cells.size=info.size){bx:Nat}(x7:bx*info.bytes<=140737488355328)(xy:bx<=140737488355328)
  {y:Value}{dX:Nat}{i:List Value}(L:Src P info.size tx y dX i w){new:ak}(hn:eS β (Live M s β) w new i)(k6:∀x∈new,x.one=true){o:Ky}{bo len kc:Nat}{xv:Value}(hx:HR β (Live M s β) w (.sl o bo len kc) xv):
  pg M C β s w ((Builtin.append_ #[t,tx] ty #[xv,y]).run P w) (s.append info.size bx tg (.sl o bo len kc) new dX):=by
 have kn:=r9 L hn;unfold HS.append;simp only[];cases h0:Nat.beq dX 0 with
 |true=>rw[bh]at h0;subst h0;have:i=[]:=iJ (by rw[L.newsLen];simp);subst this;have ko:=hx;cases hx with|sl _ _ _ _ cap n pl O x8 hl hb kp=>exact⟨_,w,β,run_append_nothing (P:=P) w t tx ty E info ht hi _ len cap hl y L,hr,Ext.refl _ _ _,ko⟩|p8 _ _ _ b k=>exact⟨_,w,β,run_append_nothing (P:=P) w t tx ty E info ht hi _ 0 0 (aY _) y L,hr,Ext.refl _ _ _,ko⟩
 |false=>
 have h0:dX≠0:=λh=>by rw[h]at h0;cases h0
 simp only[cond_false];cases kq:Nat.beq info.size kc with
 |false=>trivial
 |true=>
 rw[bh]at kq;subst kq;simp only[oC,cond_false];cases ho:ao s.h o with
 |none=>trivial
 |some x9=>
 cases x9 with
 |mp es=>trivial
 |loop=>trivial
 |cells t0 xz y0 g=>
 simp only[];cases kr:ao s.gr g with
 |none=>trivial
 |some ms=>
 simp only[];generalize hk:eU s.h 12 ms=q0;obtain⟨xa,xb⟩:=q0;simp only[];generalize hq:bP xa o (bo+len*info.size) (bo+len*info.size+aM new) xb=q1;obtain⟨h',r⟩:=q1;simp only[];cases xc:ao h' o with
 |none=>trivial
 |some xd=>
 cases xd with
 |mp es=>trivial
 |loop=>trivial
 |cells tr lo xe B=>
 simp only[];cases h8:(jn o r&&Nat.ble lo bo&&Nat.ble (bo+len*info.size) xe&&Nat.ble (len+dX) bx)with
 |false=>trivial
 |true=>
 simp only[aL,eo]at h8;obtain⟨⟨⟨c1,c2⟩,c3⟩,c4⟩:=h8;obtain⟨rfl,Q,x1,c5⟩:=C9 hr ho kr hk hq xc c3;simp only[cond_true];generalize hA:bo+len*info.size=A at*;rw[bF]at*;generalize h5:({h:=av (some (.cells tr lo A B)) o h',nx:=s.nx,gr:=av (some r) B s.gr,ty:=s.ty}:HS)=s2 at*;have h6:ao s2.h o=some (.cells tr lo A B):=by rw[<-h5];simp[af]
 have h9:s2.nx=s.nx:=by rw[<-h5]
 have ks:s2.ty=s.ty:=by rw[<-h5]
 have k7:mf tg o s=s2.ty∨(mf tg o s=av (some (E,0)) s2.nx s2.ty/\∃n,ao s.ty o=some (E,n)):=by
  unfold mf;rw[ks,h9];cases tg with
  |none=>exact .inl rfl
  |some F=>
   rw[x6 F rfl];cases hq:ao s.ty o with
   |none=>exact .inl rfl
   |some p=>obtain⟨T,n⟩:=p;simp only[];cases he:Nat.beq T E with|false=>exact .inl rfl|true=>rw[bh]at he;subst he;exact .inr ⟨rfl,n,rfl⟩
 have kt:=hn.ext x1;obtain⟨pl,O,xf⟩:=Q.obj o _ h6;have ku:(len+dX)*info.bytes<=140737488355328:=fh (jU _ c4) x7;have kd:∃ph:List Value,ph.length=len*info.size/\∃q T fr,w.heap[pl.b]?=some (.cells q T fr)/\Je fr q.size/\pl.s<=bo/\A-pl.s<=q.size/\(∀j,j<len*info.size->q[bo-pl.s+j]?=ph[j]?)/\
   (∀k v,bo<=k->k<A->fP tr k=some v->v.one=true/\∃u,ph[k-bo]?=some u/\HR β (Live M s2 β) w v u):=by
  cases xf with
  |cells _ _ _ _ q T fr xg hb hf xi hc=>
   have hle:bo-pl.s+len*info.size<=q.size:=by omega
   refine⟨(q.toList.drop (bo-pl.s)).take (len*info.size),by simp;omega,q,T,fr,hb,hf,by omega,xi,λj hj=>?_,λk v a1 a2 V=>?_⟩
   .rw[rV hj,mH,mI]
   obtain⟨b1,u,b2,b3⟩:=hc k v (by omega) a2 V;refine⟨b1,u,?_,b3⟩;rw[rV (by omega),mH,mI,show bo-pl.s+(k-bo)=k-pl.s by omega];exact b2
 obtain⟨ph,ol,q,T,fr,hb,hf,x8,y3,GA,ha⟩:=kd;have D:iG s2 β pl.b:=⟨o,_,pl,h6,O,rfl⟩;have W:Live M s2 β pl.b:=.inr D;have hg:∀g1 h7,ao (av (some (s.nx::r)) B s.gr) g1=some h7->g1.toNat<s2.nx.succ.toNat:=λg1 h7 ke=>by
  rw[h9,Ky.ba];simp only[af]at ke;by_cases eg:g1=B
  .subst eg;have:=hr.vr _ _ kr;omega
  rw[aq eg]at ke;have:=hr.vr _ _ ke;omega
 have hy:∀g1 h7 x,ao s2.gr g1=some h7->x∈h7->(∃ob,ao s2.h x=some ob)->∃k0,ao (av (some (s.nx::r)) B s.gr) g1=some k0/\x∈k0:=λg1 h7 x f l _=>by
  rw[<-h5]at f;simp only[af]at f ⊢;by_cases eg:g1=B
  .rw[ar eg]at f ⊢;cases f;exact⟨_,rfl,by simp[l]⟩
  rw[aq eg]at f ⊢;exact⟨_,f,l⟩
 have kv:({h:=av (some (.cells (dq new A tr) bo (A+new.length) B)) s.nx (av (some (.cells tr lo A B)) o h'),nx:=s.nx.succ,gr:=av (some (s.nx::r)) B s.gr,ty:=mf tg o s}:HS)=
   {h:=av (some (.cells (dq new A tr) bo (A+new.length) B)) s2.nx s2.h,nx:=s2.nx.succ,gr:=av (some (s.nx::r)) B s.gr,ty:=mf tg o s}:=by rw[<-h5]
 rw[kv];have k8:∃k0,ao (av (some (s.nx::r)) B s.gr) B=some k0/\s2.nx∈k0:=⟨s.nx::r,by rw[af,ar rfl],by rw[h9];simp⟩;have grow:∀(Ad:Option Addr) (cap:Nat),xv=.slice Ad len cap->cap<len+dX->(Builtin.firstCells info.size len (.slice Ad len cap)).run P w.drew=.ok ph.toArray w.drew->
   pg M C β s w ((Builtin.append_ #[t,tx] ty #[xv,y]).run P w) (.v (.sl s.nx bo (len+dX) info.size) {h:=av (some (.cells (dq new A tr) bo (A+new.length) B)) s2.nx s2.h,nx:=s2.nx.succ,gr:=av (some (s.nx::r)) B s.gr,ty:=mf tg o s}):=by
  intro Ad cap xj kx xk;subst xj;have Z:=run_append_grow_src (P:=P) w t tx ty E info z ht hi hz Ad len cap ph xk y dX i L kx (by omega) (growslice_fits kx ku);have xl:=grownCap_ge w (len+dX) cap E;let cells:Array Value:=(ph++i).toArray++Builtin.zeroCells z.cells (grownCap w (len+dX) cap E-(len+dX));have hd:cf M C β s2 w.drew:=Q.drawn rfl;have xm:Ext M β s2 w β s2 w.drew:=Ext.drawn rfl rfl rfl rfl;have hp:cf M C β s2 (w.drew.alloc (.cells cells E)):=hd.push _;have H:Ext M β s2 w β s2 (w.drew.alloc (.cells cells E)):=xm.trans (Ext.push hd.mlt β s2 _);have hN:¬Live M s2 β w.heap.size:=λh=>gR _ (Live.lt Q h)
  have I:∀{v u},HR β (Live M s2 β) w v u->HR (β.add s2.nx ⟨w.heap.size,bo⟩) (λx=>x=w.heap.size∨Live M s2 β x) (w.drew.alloc (.cells cells E)) v u:=λ{v u} h=>h.keep (Bt.kC Q.fresh) (λb hb hx=>hx.resolve_left (by omega)) H.keeps
  have kg:=ti w (E:=E) (cap:=cap) km ol L.newsLen (w.drew.alloc (.cells cells E)) w.heap.size (qd _ _);have G:=hp.Gz (pl:=⟨w.heap.size,bo⟩) (λhm=>gR _ (Q.mlt _ hm)) (ET _ _) (ob:=.cells (dq new A tr) bo (A+new.length) B) rfl (k7.imp id λh=>⟨E,h.1,_,kg,.inl rfl⟩) k8 hy hg (λo' J d f l h3=>absurd (.inr ⟨o',J,d,f,l,h3⟩) hN)
   (.inr λo' J f=>by
    obtain⟨d,a1,a2⟩:=Q.obj o' J f;exact⟨d,a1,a2.keep (Bt.le_refl _) (λb hb hx=>hx.resolve_left (by show¬b=w.heap.size;omega)) H.keeps (gI w _ (Q.lt _ _ a1).2)⟩)
   (by
    refine .cells _ bo _ _ cells E (0,0) (aY _) (qd _ _) (.inl rfl) (by simp only[cells,PY,JC,cE];rw[ol,L.newsLen];omega) λk v a1 a2 V=>?_
    rw[fC]at V;have xn:cells[k-bo]?=(ph++i)[k-bo]?:=by simp only[cells];rw[EU (by simp only[JC,cE];rw[ol,L.newsLen];omega)];simp
    rw[xn];by_cases k1:A<=k/\k<A+new.length
    .rw[ar k1]at V;have k2:k-A<i.length:=by rw[L.newsLen,<-kn];omega
     refine⟨k6 v (cH V),i[k-A],?_,I (kt.2 (k-A) v _ V (aO k2))⟩;rw[gu (by omega),show k-bo-ph.length=k-A by omega];exact aO k2
    rw[aq k1]at V;obtain⟨b1,u,b2,b3⟩:=ha k v a1 (by omega) V;exact⟨b1,u,by rw[ek (by omega)];exact b2,I b3⟩)
  refine⟨_,_,_,Z,G,x1.trans ⟨Bt.kC Q.fresh,H.keeps,?_,H.os,H.tape,H.output,H.loops,by show s2.nx.toNat<=s2.nx.succ.toNat;rw[Ky.ba];omega,H.oV⟩,?_⟩
  .rintro b ky (hm|⟨o',J,d,f,l,rfl⟩)
   .exact .inl hm
   simp only[af]at f;unfold Bt.add at l;by_cases e:o'=s2.nx
   .rw[ar e]at l;cases l;exact absurd ky (gR _)
   rw[aq e]at f l;exact .inr ⟨o',J,d,f,l,rfl⟩
  have k3:=ti w (E:=E) (cap:=cap) km ol L.newsLen (w.drew.alloc (.cells cells E)) w.heap.size (qd _ _);have:=λN=>HR.sl (β:=β.add s2.nx ⟨w.heap.size,bo⟩) (N:=N) s2.nx bo (len+dX) info.size (grownCap w (len+dX) cap E) _ ⟨w.heap.size,bo⟩ (by simp[Bt.add]) (aY _) xl ⟨E,k3⟩ (by simp)
  rw[<-h9];simpa using this _
 cases hx with
 |p8 _ _ _ b k=>have xo:ph=[]:=iJ (by rw[ol];simp);exact grow _ 0 rfl (by omega) (by rw[xo];simp[Builtin.firstCells,loadCells,loadCellsFrom])
 |sl _ _ _ _ cap n c k9 ka hl k3 kp=>
  have xp:c=pl:=by have:=x1.le _ _ k9;rw[O]at this;cases this;rfl
  subst xp;by_cases X:len+dX<=cap
  .
   obtain⟨E1,y4,y5,q1,q2⟩:=k3;rw[hb]at q1;cases q1;have xq:q.size=n:=q2;have hmul:(len+dX)*info.size<=cap*info.size:=jU _ X;rw[qW]at hmul;have kb:(A-c.s)+i.length<=q.size:=by rw[L.newsLen];omega
   have kz:i.length=new.length:=by rw[L.newsLen,kn]
   have k4:∀j,j<i.length->(w.cell? ⟨c.b,bo-c.s+len*info.size+j,none⟩).isSome=true:=λj hj=>by
    have:bo-c.s+len*info.size+j<q.size:=by omega
    simp[World.cell?,hb,fX this]
   have x0:∀j,j<i.length->w.frozen? ⟨c.b,bo-c.s+len*info.size+j,none⟩=false:=λj hj=>by
    simp only[World.frozen?,hb];rcases hf with rfl|hf
    .simp
    simp;omega
   have Z:=run_append_room_src (P:=P) w t tx ty E info ht hi c.b (bo-c.s) len cap y dX i L X k4 x0;have e0:bo-c.s+len*info.size=A-c.s:=by omega
   have xr:=run_storeCells_cells (P:=P) c.b (bo-c.s+len*info.size) i 0 w (by simpa using k4) (by simpa using x0) L.one;have ki:=jb (P:=P) c.b (bo-c.s+len*info.size) T fr i 0 w q hb hf (by omega) L.one;rw[xr]at ki;simp only[fR,Result.ok.injEq,Bq]at ki;have xt:w.setCells c.b (bo-c.s+len*info.size) i=dG w c.b (.cells (nQ q (A-c.s) i) T fr):=by rw[ki,e0];rfl
   rw[xt]at Z;obtain⟨r2,x2⟩:=Q.spare hb D (p:=A-c.s) (vs:=i) kb (λx d t1 kj x3 g1 Y k5 xu k a1 a2=>by
    obtain⟨xx,y1,y2⟩:=Q.obj _ _ Y;rw[k5]at y1;cases y1;have xg:d.s<=kj:=by cases y2;assumption
    by_cases ex:x=o
    .subst ex;rw[h6]at Y;cases Y;rw[O]at k5;cases k5;omega
    obtain⟨z1,_,_,_,_,_,_,_,z2,z3⟩:=Q.apart x o _ _ d c Y h6 k5 O ex xu;cases z2;cases z3;have x4:ao h' x=some (.cells t1 kj x3 B):=by rw[<-h5]at Y;simp only[af]at Y;rwa[aq ex]at Y
    have:=c5 x t1 kj x3 ex x4;rw[z1,kz];omega)
   have kk:(dG w c.b (.cells (nQ q (A-c.s) i) T fr)).heap[c.b]?=some (.cells (nQ q (A-c.s) i) T fr):=fE hb;have x5:=rZ i q (A-c.s);have I:∀{v u},HR β (Live M s2 β) w v u->HR (β.add s2.nx c) (λx=>x=c.b∨Live M s2 β x) (dG w c.b (.cells (nQ q (A-c.s) i) T fr)) v u:=λ{v u} h=>
    h.keep (Bt.kC Q.fresh) (λb hb hx=>by
     rcases hx with rfl|hx
     .exact W
     exact hx) x2.keeps
   have kl:mf tg o s=s2.ty∨∃E,mf tg o s=av (some (E,0)) s2.nx s2.ty/\zG (dG w c.b (.cells (nQ q (A-c.s) i) T fr)) c.b E 0:=by
    rcases k7 with h|⟨f,n,l⟩
    .exact .inl h
    obtain⟨d,h3,⟨m,h4,_⟩,_⟩:=hr.zH o E n l;rw[k9]at h3;cases h3;exact .inr ⟨E,f,m,x2.keeps.has _ _ _ h4,.inl rfl⟩
   have G:=r2.Gz (pl:=c) (λhm=>Q.sR _ hm D) (lt_of_block kk) (ob:=.cells (dq new A tr) bo (A+new.length) B) rfl kl k8 hy hg (λo' J d f l h3=>by
     by_cases ex:o'=o
     .subst ex;rw[h6]at f;cases f;rw[O]at l;cases l;exact⟨rfl,_,_,_,rfl⟩
     obtain⟨z1,_,_,_,_,_,_,_,z2,z3⟩:=Q.apart o' o _ _ d c f h6 l O ex h3;cases z3;exact⟨z1,_,_,_,z2⟩)
    (.inl W)
    (by
     refine .cells _ bo _ _ _ T fr ka kk (by rw[fe];exact hf) (by rw[fe];omega) λk v a1 a2 V=>?_
     rw[fC]at V;rw[x5 (k-c.s) kb];by_cases k1:A<=k/\k<A+new.length
     .rw[ar k1]at V;rw[ar (by omega)];have k2:k-A<i.length:=by omega
      refine⟨k6 v (cH V),i[k-A],?_,I (kt.2 (k-A) v _ V (aO k2))⟩;rw[show k-c.s-(A-c.s)=k-A by omega];exact aO k2
     rw[aq k1]at V;rw[aq (by omega)];obtain⟨b1,u,b2,b3⟩:=ha k v a1 (by omega) V;refine⟨b1,u,?_,I b3⟩;have:=GA (k-bo) (by omega);rw[show bo-c.s+(k-bo)=k-c.s by omega]at this;rw[this];exact b2)
   refine⟨_,_,_,Z,G,x1.trans ⟨Bt.kC Q.fresh,x2.keeps,?_,x2.os,x2.tape,x2.output,x2.loops,by show s2.nx.toNat<=s2.nx.succ.toNat;rw[Ky.ba];omega,x2.oV⟩,?_⟩
   .rintro b ky (hm|⟨o',J,d,f,l,rfl⟩)
    .exact .inl hm
    simp only[af]at f;unfold Bt.add at l;by_cases e:o'=s2.nx
    .rw[ar e]at l;cases l;exact W
    rw[aq e]at f l;exact .inr ⟨o',J,d,f,l,rfl⟩
   rw[<-h9];exact HR.sl s2.nx bo (len+dX) info.size cap n c (by simp[Bt.add]) ka X ⟨T,_,fr,kk,by rw[fe];exact xq⟩ kp
  refine grow _ cap rfl (by omega) ?_;have hle:bo-c.s+len*info.size<=q.size:=by omega
  have xw:=run_loadCells P w.drew c.b (bo-c.s) (len*info.size) (λj=>ph.getD j Go.undef) (λj hj=>by
   have f:dv w.drew c.b (bo-c.s+j)=q[bo-c.s+j]?:=iE (E:=T) (fr:=fr) hb;rw[f,GA j hj];have:j<ph.length:=by omega
   simp[List.getD,this])
  simp only[Builtin.firstCells];rw[xw]
  congr 1
  apply sZ;apply PW;intro j;by_cases hj:j<len*info.size
  .have:j<ph.length:=by omega
   simp[hj,List.getD,this]
  simp[hj];omega
def pg.Wa{go:Oper}{run:Result Value}{r:da}(h:pg M C β s w run r)(b:(execOp a.eval go).run P w=run.andThen (λv w'=>.ok (.value v) w')):cv M C P β s w a go r:=by cases r with|v v s'=>obtain⟨u,w',c,d,g,i,j⟩:=h;exact⟨u,w',c,.inl (by rw[b,d];rfl),g,i,j⟩|bad=>trivial|call f l=>exact h.elim|round l m=>exact h.elim
def Ap{E:TypeId}{sz bx:Nat}(d:dI P E=some sz)(b:oT P E bx=true)(f:U5 P E sz=true):
  ∃info z,P.info? E=some info/\info.zero=some z/\z.cells.size=info.size/\info.size=sz/\bx*info.bytes<=140737488355328/\bx<=140737488355328:=by
 unfold dI at d;unfold oT at b;unfold U5 at f;cases g:P.info? E with
 |none=>simp[g]at d
 |some i=>simp only[g,ml,bT]at d;simp only[g,aL,bL]at b;simp only[g,EV]at f;cases c:i.zero with|none=>simp[c]at f|some z=>simp only[c,bZ]at f;exact⟨i,z,rfl,c,by rw[f,d],d,b.1,b.2⟩
def PZ(t:cf M C β s w){tx e':TypeId}(y:P.underlying tx=some (.slice e')){o:Ky}{bo len sz h:Nat}{u:Value}(z:HR β (Live M s β) w (.sl o bo len h) u){l:ak}(A:s.bE o bo (len*sz)=some l)(i:len≠0):
  ∃m,Src P sz tx u len m w/\eS β (Live M s β) w l m/\∀x∈l,x.one=true:=by
 cases z with
 |p8=>exact absurd rfl i
 |sl _ _ _ _ cap n pl k F G H B=>
  obtain⟨I,p,q,g,D,E⟩:=t.bE k A;have f:eS β (Live M s β) w l (List.ofFn (n:=len*sz) λj=>g j):=by
   refine⟨by simp[p],λj v x r d=>?_⟩;have c:j<len*sz:=by rw[<-p];exact(aV.1 r).1
   simp only[tc,c,dite_true,bT]at d;subst d;exact E j v r
  refine⟨_,Src.ofSlice w y ⟨pl.b,bo-pl.s,none⟩ len cap _ (by simp) (λj x d=>?_) (f.Bi q),f,q⟩;have c:j<len*sz:=by have:=(aV.1 d).1;simpa using this
  simp only[tc,c,dite_true,bT]at d;subst d;rw[gw];exact D j c
def GB(_:cf M C β s w){tx e':TypeId}(t:P.underlying tx=some (.slice e')){au:aR}{sz:Nat}{u:Value}(B:HR β (Live M s β) w (.psl au) u)(L:dt sz au=true)(y:au.length≠0):
  ∃F,Src P sz tx u au.length F w/\eS β (Live M s β) w (aD au) F/\∀x∈aD au,x.one=true:=by
 have hlen:=ir L;obtain⟨G,H⟩:=gJ hlen;generalize D:HV.psl au=p at B;cases B<;>first|(cases D;done)|skip
 .cases D;exact absurd rfl y
 rename_i I b o cap c g Q N J E h0 O B;cases D;have z:c=sz:=by cases au with|nil=>exact absurd rfl y|cons r l=>rw[<-E 0 r rfl];exact hlen r dy
 subst z;have f:∀x∈aD au,x.one=true:=λx i=>by obtain⟨k,t,rfl⟩:=oW i;obtain⟨_,row,m,q⟩:=H k _ (aO t);exact h0 row (cH m) _ (cH q)
 have A:eS β (Live M s β) w (aD au) (List.ofFn (n:=au.length*c) λk=>g (k/c) (k%c)):=by
  refine⟨by simp[G],λk v x t i=>?_⟩;have d:k<au.length*c:=by rw[<-G];exact(aV.1 t).1
  simp only[tc,d,dite_true,bT]at i;subst i;obtain⟨_,row,m,q⟩:=H k v t;exact B _ _ _ _ m q
 refine⟨_,Src.ofSlice w t ⟨b,o,none⟩ au.length cap _ (by simp) (λk x i=>?_) (A.Bi f),A,f⟩;have d:k<au.length*c:=by have:=(aV.1 i).1;simpa using this
 simp only[tc,d,dite_true,bT]at i;subst i;rw[gw];have j:0<c:=by
  rcases Nat.eq_zero_or_pos c with h|h
  .subst h;simp at d
  exact h
 have:=O (k/c) (k%c) (by rw[Nat.div_lt_iff_lt_mul j];exact d) (Nat.mod_lt _ j);rw[Nat.div_add_mod']at this;exact this
def pj(k:cf M C β s w){go:Oper}{t u E ty:TypeId}{sz bx:Nat}(l:P.underlying t=some (.slice E))(A:dI P E=some sz)(j:oT P E bx=true)(B:U5 P E sz=true){m:bG}(d:∀F,m=some F->F=E)
  {x:HV}{n y:Value}(o:HR β (Live M s β) w x n){dX:Nat}{p:List Value}(b:Src P sz u y dX p w){new:ak}(q:eS β (Live M s β) w new p)(c:∀x∈new,x.one=true)
  (D:(execOp a.eval go).run P w=((Builtin.append_ #[t,u] ty #[n,y]).run P w).andThen (λv w'=>.ok (.value v) w')):cv M C P β s w a go (s.append sz bx m x new dX):=by
 obtain⟨info,z,r,f,g,rfl,h,i⟩:=Ap A j B;refine pg.Wa ?_ D;cases x<;>first|trivial|skip
 .cases o;exact jW k d l r f g h i b q c
 exact mL k d l r f g h i b q c o
def ra{N:aG}{v:HV}{u:Value}(b:HR β N w v u)(h:iS v=true):∃A l c,u=.slice A l c/\l<=c:=by
 cases b<;>first|(cases h;done)|skip
 .exact⟨_,_,_,rfl,aY _⟩
 .exact⟨_,_,_,rfl,‹_›⟩
 exact⟨_,_,_,rfl,aY _⟩
def lV(j:cf M C β s w){go:Oper}{t u E ty:TypeId}{sz bx:Nat}(k:P.underlying t=some (.slice E))(m:dI P E=some sz)(d:oT P E bx=true)(n:U5 P E sz=true)
  {x:HV}{h y:Value}(i:HR β (Live M s β) w x h)(f:iS x=true)(b:Src P sz u y 0 [] w)
  (o:(execOp a.eval go).run P w=((Builtin.append_ #[t,u] ty #[h,y]).run P w).andThen (λv w'=>.ok (.value v) w')):cv M C P β s w a go (.v x s):=by
 obtain⟨info,z,p,q,r,rfl,B,D⟩:=Ap m d n;obtain⟨A,l,c,rfl,g⟩:=ra i f;exact pg.Wa (C:=C) ⟨_,w,β,run_append_nothing (P:=P) w t u ty E info k p A l c g y b,j,Ext.refl _ _ _,i⟩ o
def P0(z:cf M C β s w)(he:dL β (Live M s β) w e a){go:Oper}{sz bx:Nat}{T:bG}{x y:X}(B:bb P (.app sz bx T x y) go.op=true):cv M C P β s w a go (HM sz bx T x y e s):=by
 cases I:go.op<;>rw[I]at B<;>try cases B
 rename_i cl;simp only[bb,aL]at B;obtain⟨⟨hb,B⟩,Q⟩:=B
 split at hb
 case h_2=>cases hb
 rename_i J;obtain⟨x',y',ha,hx,hy⟩:=qa B
 split at Q
 case h_2=>cases Q
 rename_i t u f;have f:cl.argTypes= #[t,u]:=by rw[<-Array.toList_inj];exact f
 simp only[aL]at Q;obtain⟨j,L⟩:=Q
 split at j
 case h_2=>cases j
 rename_i E D;simp only[aL,bZ]at j;obtain⟨⟨⟨N,i⟩,O⟩,k⟩:=j;have k:∀F,T=some F->F=E:=λF hF=>by subst hF;simpa using(Eq.symm (by simpa using k):F=E)
 split at L
 case h_2=>cases L
 rename_i E2 c;have D:=iH D;have r:∃ty,(execOp a.eval go).run P w=((Builtin.append_ #[t,u] ty #[a.eval x',a.eval y']).run P w).andThen (λv w'=>.ok (.value v) w'):=by refine⟨go.type,?_⟩;simp[execOp,I,resolve,J,ha,f,invoke,builtin]
 obtain⟨ty,r⟩:=r;unfold HM;cases h1:bq x e with
 |none=>trivial
 |some p=>
 cases h2:bq y e with
 |none=>trivial
 |some q=>
 have H:=aH he hx h1;have d:=aH he hy h2;simp only[];cases G:iS p with
 |false=>trivial
 |true=>
 simp only[cond_true];generalize hq:a.eval y'=yv at d r;cases q<;>first|trivial|skip
 .cases d;exact lV z D N i O H G (Src.ofNil w c 0) r
 .rename_i o V len W;simp only[];cases h0:Nat.beq len 0 with
  |true=>rw[bh]at h0;subst h0;simp only[cond_true];refine lV z D N i O H G ?_ r;cases d with|sl _ _ _ _ cap n pl h6 h7 hl h8 h9=>exact Src.ofSlice w c _ 0 cap [] (by simp) (by simp) (by simp)|p8=>exact Src.ofSlice w c _ 0 0 [] (by simp) (by simp) (by simp)
  |false=>
   have h0:len≠0:=λh=>by rw[h]at h0;cases h0
   simp only[cond_false];cases Y:s.bE o V (len*sz)with|none=>trivial|some l=>obtain⟨nv,Z,a2,a3⟩:=PZ z c d Y h0;exact pj z D N i O k H Z a2 a3 r
 rename_i m;simp only[];cases h0:Nat.beq (aM m) 0 with
 |true=>
  rw[bh,bF]at h0;have:m=[]:=iJ h0;subst this;simp only[cond_true];refine lV z D N i O H G ?_ r;generalize hp:HV.psl []=p' at d;cases d<;>first|(cases hp;done)|skip
  .rename_i A cap hn;cases A with|none=>rw[hn rfl];exact Src.ofNil w c 0|some A=>exact Src.ofSlice w c A 0 cap [] (by simp) (by simp) (by simp)
  rename_i h4 b o cap W g hN hd h5 hf h0 B H;cases hp;exact Src.ofSlice w c _ 0 cap [] (by simp) (by simp) (by simp)
 |false=>
  have h0:m.length≠0:=λh=>by rw[bF,h]at h0;cases h0
  simp only[cond_false];cases h3:dt sz m with|false=>trivial|true=>obtain⟨nv,Z,a2,a3⟩:=GB z c d h3 h0;simp only[cond_true];rw[bF];exact pj z D N i O k H Z a2 a3 r
def qF{N:aG}(b:ByteArray):eS β N w (fQ (eb b)) (byteCells b)/\∀x∈fQ (eb b),x.one=true:=by
 have key:∀l:List UInt8,eS β N w (fQ (l.map UInt8.toNat)) (l.map λb=>Value.int .u8 b.toNat)/\∀x∈fQ (l.map UInt8.toNat),x.one=true:=by
  intro l
  induction l with
  |nil=>exact⟨.nil,by simp[fQ]⟩
  |cons x l d=>
   refine⟨.cons (.int _ _) d.1,?_⟩;intro y c;simp only[cL,fQ,bm]at c;rcases c with rfl|c
   .rfl
   exact d.2 y c
 exact key b.data.toList
def P1(D:cf M C β s w)(G:dL β (Live M s β) w e a){go:Oper}{bx:Nat}{z:bG}{x y:X}(h:bb P (.aps bx z x y) go.op=true):cv M C P β s w a go (HT bx z x y e s):=by
 cases i:go.op<;>rw[i]at h<;>try cases h
 rename_i Q;simp only[bb,aL]at h;obtain⟨⟨H,h⟩,o⟩:=h
 split at H
 case h_2=>cases H
 rename_i j;obtain⟨T,I,V,W,Y⟩:=qa h
 split at o
 case h_2=>cases o
 rename_i t u d;have d:Q.argTypes= #[t,u]:=by rw[<-Array.toList_inj];exact d
 simp only[aL]at o;obtain⟨f,k⟩:=o
 split at f
 case h_2=>cases f
 rename_i E r;simp only[aL,bZ]at f;obtain⟨⟨⟨J,l⟩,L⟩,g⟩:=f;have g:∀F,z=some F->F=E:=λF Z=>by subst Z;simpa using(Eq.symm (by simpa using g):F=E)
 split at k
 case h_2=>cases k
 rename_i A;have r:=iH r;have m:∃ty,(execOp a.eval go).run P w=((Builtin.append_ #[t,u] ty #[a.eval T,a.eval I]).run P w).andThen (λv w'=>.ok (.value v) w'):=by refine⟨go.type,?_⟩;simp[execOp,i,resolve,j,V,d,invoke,builtin]
 obtain⟨ty,m⟩:=m;unfold HT;cases h1:bq x e with
 |none=>trivial
 |some p=>
 cases h2:bq y e with
 |none=>trivial
 |some q=>
 have O:=aH G W h1;have n:=aH G Y h2;simp only[];cases B:iS p with
 |false=>trivial
 |true=>
 simp only[cond_true];generalize hq:a.eval I=yv at n m;cases n<;>first|trivial|skip
 rename_i b;simp only[];rw[bF,gx];have c:=Src.ofString (P:=P) w A b;cases h0:Nat.beq b.size 0 with|true=>rw[bh]at h0;simp only[cond_true];rw[h0]at c;have:byteCells b=[]:=iJ (by rw[byteCells_length,h0]);rw[this]at c;exact lV D r J l L O B c m|false=>simp only[cond_false];obtain⟨o1,o2⟩:=qF (β:=β) (N:=Live M s β) (w:=w) b;exact pj D r J l L g O c o1 o2 m
def wO(z:ak):∀(n:Nat),(mB z n).length=n*z.length/\∀j v,(mB z n)[j]?=some v->z[j%z.length]?=some v
 |0=>⟨by simp[mB],by simp[mB]⟩
 |n+1=>by
  obtain⟨f,g⟩:=wO z n;refine⟨by simp[mB,f,jV];omega,λj v b=>?_⟩;simp only[mB]at b;rcases jM j z.length with c|d
  .rw[ek c]at b;rw[EJ c];exact b
  rw[gu d]at b;have:=g _ _ b;rw[Nat.mod_eq_sub_mod d];exact this
def JD(q:cf M C β s w){w1:World}(g:w1.heap=w.heap)(r:w1.os=w.os)(i:w1.tape=w.tape)(k:w1.output=w.output){go:Oper}{l:ak}{cs:Array Value}{E:TypeId}{fr:Nat×Nat}{len sz cap:Nat}(t:Je fr cs.size)(x:l.length<=cs.size)(y:∀(j:Nat) (v:HV),l[j]?=some v->v.one=true/\∃u,cs[j]?=some u/\HR β (Live M s β) w v u)
  (m:len<=cap)(b:cap*sz<=cs.size)
  (c:(execOp a.eval go).run P w=.ok (.value (.slice (some ⟨w.heap.size,0,none⟩) len cap)) {w1 with heap:=w1.heap.push (.cells cs E fr)}):cv M C P β s w a go (s.new l (λo=>.sl o 0 len sz)):=by
 rw[wN];have z:cf M C β s w1:=q.drawn g;have d:Ext M β s w β s w1:=Ext.drawn g r i k;obtain⟨n,A,B,p⟩:=z.newRow (l:=l) (cs:=cs) (E:=E) (fr:=fr) (.inl rfl) t x (λj v D=>by
  obtain⟨F,u,G,H⟩:=y j v D;exact⟨F,u,G,H.ext d⟩)
 rw[g]at p;refine⟨_,_,n,.inl c,A,d.trans B,?_⟩;have f:Has {w1 with heap:=w1.heap.push (.cells cs E fr)} w.heap.size cs.size:=⟨E,cs,fr,by show(w1.heap.push _)[w.heap.size]?=_;rw[g];simp,rfl⟩;simpa using HR.sl (β:=n) (N:=Live M {h:=av (some (.cells (dq l 0 .lf) 0 (aM l) s.nx)) s.nx s.h,nx:=s.nx.succ,gr:=av (some [s.nx]) s.nx s.gr,ty:=s.ty} n) s.nx 0 len sz cap cs.size ⟨w.heap.size,0⟩ p (aY _) m f (by simpa using b)
def Aq{E:TypeId}{sz:Nat}{z:ak}(f:dI P E=some sz)(c:rQ P E z=true)(h:z.length=sz):
  ∃info d,P.info? E=some info/\info.zero=some d/\d.cells.size=sz/\info.size=sz/\iX z d.cells.toList=true:=by
 unfold dI at f;unfold rQ at c;cases g:P.info? E with
 |none=>simp[g]at f
 |some i=>simp only[g,ml,bT]at f;simp only[g,EV]at c;cases b:i.zero with|none=>simp[b]at c|some d=>simp only[b]at c;have:=(dJ c (λ_=>none) (λ_=>False) default).1;exact⟨i,d,rfl,b,by simp at this;omega,f,c⟩
def P2(hr:cf M C β s w)(T:dL β (Live M s β) w e a){go:Oper}{sz bx:Nat}{z:ak}{l c:X}(F:bb P (.mks sz bx z l c) go.op=true):cv M C P β s w a go (HN sz bx z l c e s):=by
 cases h:go.op<;>rw[h]at F<;>try cases F
 rename_i t l' c';simp only[bb,aL]at F;obtain⟨⟨hl,H⟩,G⟩:=F
 split at G
 case h_2=>cases G
 rename_i E I;simp only[aL,bZ,bL]at G;obtain⟨⟨⟨⟨hs,i⟩,hz⟩,d⟩,h4⟩:=G;have I:=iH I;obtain⟨info,o,V,J,r,f,x⟩:=Aq hs hz d;unfold oT at i;simp only[V,aL,bL]at i;unfold HN;cases W:bq l e with
 |none=>trivial
 |some p=>
 cases Y:bq c e with
 |none=>cases p<;>first|trivial|(rename_i k n;cases n<;>trivial)
 |some q=>
 have Z:=aH T hl W;have y:=aH T H Y;generalize hu:a.eval l'=u at Z;generalize L:a.eval c'=u2 at y;cases Z<;>first|trivial|skip
 rename_i k n;cases n with
 |negSucc n=>trivial
 |ofNat n=>
 cases y<;>first|trivial|skip
 rename_i k2 m;cases m with
 |negSucc m=>trivial
 |ofNat m=>
 simp only[];cases b:(Nat.ble n m&&Nat.ble m bx)with
 |false=>trivial
 |true=>
 simp only[aL,eo]at b;simp only[cond_true];have N:(info.bytes:Int)*(m:Int)<=281474976710656:=by
  have W:m*info.bytes<=bx*info.bytes:=jU _ b.2;have Y:info.bytes*m=m*info.bytes:=ER _ _;have h3:((info.bytes*m:Nat):Int)<=281474976710656:=by omega
  rwa[Int.natCast_mul]at h3
 have A:=run_make (P:=P) w t E info o I V J k k2 (Int.ofNat n) (Int.ofNat m) (by simp) (by simpa using b.1) (by simpa using N) (by simp;omega);obtain⟨f1,f2⟩:=wO z n;have B:=kT z _ x;have O:=dJ x β (Live M s β) w;refine JD (w1:=w) (cs:=madeCells o.cells (m*info.size)) (cap:=m) (E:=E) (fr:=(0,0)) hr rfl rfl rfl rfl (.inl rfl) (by rw[size_madeCells,f1,d,f];exact jU _ b.1) (λj v hj=>?_) b.1 (by rw[size_madeCells,f];exact aY _) ?_
 .have g:=f2 j v hj;have Q:j<m*info.size:=by have:=(aV.1 hj).1;rw[f1,d]at this;rw[f];exact ej this (jU sz b.1)
  refine⟨B v (cH g),o.cells[j%o.cells.size]!,by simp[madeCells,Q],?_⟩;have D:j%z.length<o.cells.size:=by rw[r,<-d];exact(aV.1 g).1
  refine O.2 (j%z.length) v _ g ?_;rw[d]at D ⊢;rw[r];simp[D]
 simp only[execOp,h,hu,L];rw[Sem.run_bind,A];simp
def P3(q:cf M C β s w)(r:dL β (Live M s β) w e a){go:Oper}{x:X}(c:bb P (.csb x) go.op=true):cv M C P β s w a go (HQ x e s):=by
 cases g:go.op<;>rw[g]at c<;>try cases c
 rename_i t z y;simp only[bb,aL]at c;obtain⟨A,c⟩:=c
 split at c
 case h_2=>cases c
 rename_i d B D
 split at c
 case h_2=>cases c
 rename_i F;unfold HQ;cases G:bq x e with
 |none=>trivial
 |some p=>
 have n:=aH r A G;generalize H:a.eval y=u at n;cases n<;>first|trivial|skip
 rename_i b;simp only[];have h:=run_bytes_of_string (P:=P) w t z d b B D F;have i:=grownCap_ge w b.size 0 d;rw[bF,gx];obtain⟨l,I⟩:=qF (β:=β) (N:=Live M s β) (w:=w) b;have k:(bytesRow b (grownCap w b.size 0 d)).size=grownCap w b.size 0 d:=by simp[bytesRow];have:b.data.size=b.size:=rfl;omega
 refine JD (w1:=w.drew) (cs:=bytesRow b (grownCap w b.size 0 d)) (cap:=grownCap w b.size 0 d) (E:=d) (fr:=((bytesRow b (grownCap w b.size 0 d)).size,(bytesRow b (grownCap w b.size 0 d)).size+1)) q rfl rfl rfl rfl (.inr (aY _)) (by rw[l.1.symm,byteCells_length,k];exact i) (λj v m=>?_) i (by rw[k];omega) ?_
 .have f:j<(byteCells b).length:=by rw[l.1];exact(aV.1 m).1
  refine⟨I v (cH m),(byteCells b)[j],?_,l.2 j v _ m (aO f)⟩;rw[byteCells_length]at f;have o:j<b.data.size:=f;simp[bytesRow,byteCells,Array.getElem?_append,f]
 simp only[execOp,g,H];rw[Sem.run_bind,h];simp;rfl
def P4(m:cf M C β s w)(j:dL β (Live M s β) w e a){go:Oper}{d:Bool}{op:BinOp}{x y:X}(f:bb P (.bin d op x y) go.op=true):cv M C P β s w a go (ve d op x y e s):=by
 cases c:go.op<;>rw[c]at f<;>try cases f
 rename_i n t g h I;simp only[bb,aL,bZ]at f;obtain⟨⟨⟨rfl,o⟩,v⟩,A⟩:=f;unfold ve;cases B:bq x e with
 |none=>trivial
 |some p=>
 cases D:bq y e with
 |none=>trivial
 |some q=>
 have E:=aH j o B;have i:=aH j v D;show cv M C P β s w a go (rv s (HJ d op p q));cases F:HJ d op p q with
 |none=>trivial
 |some r=>
  obtain⟨z,b,G⟩:=Mf (P:=P) (x:=g) (y:=h) F E i A;refine .val m ?_ G;simp only[execOp,c];rw[Sem.run_bind]at b;simp only[Sem.run_bind];cases l:(eqGuard op t g h (a.eval g) (a.eval h)).run P w with
  |ok u H=>rw[l]at b;simp only[Result.andThen_ok]at b ⊢;rw[b];rfl
  |halt k H=>rw[l]at b;cases b
end sound
end Go.Proofs.YtclepinjnoiakaaGreatDoor.K.Hm
