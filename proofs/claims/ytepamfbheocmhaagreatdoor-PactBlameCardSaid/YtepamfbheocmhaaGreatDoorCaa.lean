/- PactBlame returns true for every pact and word, part 1. -/
import Derived.Below
import Derived.RangeFuncLeaves
import Derived.OrdersIn
import Derived.Laws.Entries
import Derived.WalkKit
import Derived.Laws.BytesString
import Derived.Laws.Slices
import Derived.Laws.StructEq
import Derived.Laws.Cover3
import Derived.Laws.Pointers
import Derived.Deep.AppendSrc
import Derived.Deep.Upon
import Derived.Laws.MakeOwn
import Derived.Laws.IdiomStrings
set_option linter.all false
open List renaming length_nil->aE,length_cons->az,mem_of_mem_drop->OH,extract_eq_take_drop->OW,foldl_cons->mY,cons_append->bx,drop_eq_nil_of_le->O2,ext_getElem?->Pf
open Nat renaming add_zero->gH,add_assoc->OI,pred_succ->Pb
open Option renaming getD_some->hU,map_some->lO,isSome_none->Iu,map_none->OU,bind_some->D8
open Array renaming toList_inj->OJ,toList_extract->OV,size_append->Ph
open Int renaming ofNat_eq_natCast->mW,negSucc_eq->OK,toNat_natCast->hY
namespace Go.Proofs
def aS:=@List.getElem?_eq_some_iff
def aR:=@List.getElem?_eq_getElem
def aL:=@Bool.and_eq_true
def cG:=@List.mem_of_getElem?
def ar:=@if_pos
def au:=@if_neg
def aW:=@Nat.le_refl
def cp:=@List.getElem_mem
def eD:=@List.getD_eq_getElem?_getD
def bF:=@Nat.zero_add
def bL:=@Option.some.injEq
def bk:=@List.mem_cons
def bX:=@decide_eq_true_eq
def bG:=@List.length_map
def cz:=@Bool.false_eq_true
def cA:=@List.length_append
def cS:=@List.mem_cons_of_mem
def fC:=@List.take_succ_eq_append_getElem
def ea:=@List.getElem?_append_left
def fA:=@Array.getD_eq_getD_getElem?
def dm:=@List.mem_cons_self
def dq:=@List.mem_singleton
def cP:=@List.mem_append
def fM:=@Array.getElem?_eq_getElem
def cx:=@List.map_cons
def eH:=@List.mem_iff_getElem
def dZ:=@Nat.lt_of_lt_of_le
def iJ:=@List.eq_nil_of_length_eq_zero
def bR:=@beq_iff_eq
def bn:=@if_false
def iG:=@List.getElem?_append_right
def gn:=@List.getElem?_set_self
def bj:=@if_true
def ef:=@decide_eq_false
def dt:=@List.mem_map
def iH:=@List.take_of_length_le
def ey:=@decide_eq_true
def fq:=@List.all_eq_true
def fR:=@List.getElem?_map
def fB:=@List.map_append
def oB:=@Array.getElem?_setIfInBounds_ne
def jd:=@List.getElem?_set_ne
def gP:=@List.getElem?_set
def jD:=@Nat.mul_le_mul_right
def cC:=@congrArg
def nU:=@List.drop_eq_getElem_cons
def vK:=@Array.getElem?_setIfInBounds_self_of_lt
def gd:=@List.mem_range
def l9:=@Option.map_eq_some_iff
def eO:=@decide_true
def nR:=@Option.bind_eq_some_iff
def fz:=@Nat.le_trans
def lr:=@List.mem_of_mem_take
def l7:=@Array.getElem?_toList
def mu:=@List.eq_nil_or_concat
def gF:=@Nat.lt_irrefl
def fm:=@Nat.zero_le
def nP:=@Nat.eq_of_beq_eq_true
def jc:=@List.length_set
def rb:=@Array.getElem?_eq_some_iff
def cQ:=@eq_true
def l6:=@List.getElem?_drop
def rh:=@List.getElem?_take_of_lt
def iI:=@Bool.true_and
def mB:=@List.flatMap_cons
def jb:=@Bool.and_true
def oy:=@List.getElem_of_mem
def my:=@List.take_length
def lz:=@Option.some.inj
def iu:=@Nat.mul_one
def xH:=@List.mem_or_eq_of_mem_set
def me:=@List.nodup_cons
def jw:=@Nat.lt_or_ge
def jE:=@Nat.succ_mul
def tO:=@List.mem_iff_getElem?
def nS:=@Bool.or_eq_true
def oA:=@List.length_take
def yc:=@List.getElem?_replicate
def lx:=@Prod.mk.injEq
def C0:=@List.take_append_of_le_length
def kJ:=@decide_false
def qi:=@List.ext_getElem
def zP:=@List.eq_of_mem_replicate
def rq:=@Bool.not_eq_true'
def zo:=@decide_eq_false_iff_not
def zJ:=@List.length_eq_zero_iff
def nV:=@Bool.not_true
def qf:=@Bool.eq_iff_iff
def mA:=@List.map_set
def ue:=@of_decide_eq_true
def zc:=@Nat.ble_eq_true_of_le
def ze:=@UInt8.lt_iff_toNat_lt
def zk:=@Array.getElem?_modify
def zq:=@List.getElem?_eq_none
def Da:=@List.getElem_append_left
def vX:=@Nat.eq_or_lt_of_le
def tZ:=@List.countP_cons
def oz:=@Nat.sub_self
def Cr:=@List.drop_of_length_le
def xJ:=@List.any_eq_false
def tb:=@List.flatMap_append
def Az:=@Classical.byContradiction
def Bl:=@List.mem_of_find?_eq_some
def BA:=@List.getElem?_eq_none_iff
def xM:=@List.concat_eq_append
def xN:=@List.dropLast_sublist
def xX:=@List.set_getElem_self
def sr:=@List.getElem?_ofFn
def qT:=@List.mem_flatMap
def qp:=@List.cons.injEq
def xK:=@List.length_pos_iff
def mZ:=@List.map_nil
def sF:=@List.any_eq_true
def D7:=@Array.getElem?_append_left
def By:=@List.length_replicate
def Fj:=@List.getElem_append_right
def sB:=@List.mem_filter
def Au:=@List.mem_append_left
def oN:=@Nat.le_of_eq
def A8:=@Bool.or_eq_false_iff
def qo:=@Nat.beq_refl
def An:=@Array.ext_getElem?
def qL:=@Nat.le_of_lt
def Br:=@List.find?_eq_none
def BG:=@List.prefix_append
def BN:=@List.getElem_range
def DU:=@Nat.le_of_ble_eq_true
def D1:=@List.take_append_drop
def AF:=@List.nodup_append
def Bk:=@List.append_assoc
def BO:=@List.length_range
def qs:=@Nat.add_mul
def xQ:=@Bool.false_and
def xR:=@Bool.and_false
def xT:=@Bool.not_false
def sv:=@List.map_map
def Ay:=@List.drop_length
def Bu:=@List.getElem_map
def BD:=@Bool.not_eq_true
def BF:=@List.prefix_refl
def BI:=@List.not_mem_nil
def EV:=@List.map_congr_left
def Fe:=@List.map_eq_nil_iff
def vG:=@Bool.false_or
def jQ:=@Ne.symm
def Bg:=@Bool.decide_and
def BB:=@List.append_nil
def DY:=@Nat.lt_trichotomy
def vZ:=@Nat.add_comm
def A9:=@Bool.and_assoc
def IM:=@List.mem_append_right
def J7:=@List.dropLast_eq_take
def Kf:=@List.length_filter_le
def so:=@Array.ext'
def DZ:=@beq_self_eq_true
def D0:=@Nat.mod_eq_of_lt
def SN:=@List.mem_eraseIdx_iff_getElem?
def Al:=@List.map_take
def JM:=@List.getElem?_append
def J3:=@List.mem_of_getLast?
def J5:=@List.dropLast_concat
def Kl:=@List.idxOf_eq_length
def D9:=@Nat.min_eq_left
def Ea:=@Nat.min_le_left
def ES:=@List.findIdx_eq
def ET:=@List.range_succ
def Tq:=@List.countP_eq_length_filter
def TF:=@List.dropLast_concat_getLast
def Ik:=@Array.getElem?_push
def JR:=@Int.toNat_of_nonneg
def Ke:=@Nat.add_le_add_left
def Ks:=@List.getElem_set_ne
def BM:=@List.set_set
def Tu:=@List.idxOf_lt_length_of_mem
def Ip:=@List.map_inj_right
def vI:=@bne_iff_ne
def SO:=@List.length_eraseIdx_of_lt
def SW:=@List.tail_append_of_ne_nil
def O8:=@Array.mapM_eq_mapM_toList
def PG:=@List.getElem?_zip_eq_some
def Tc:=@List.getLast?_eq_getElem?
def TL:=@List.getLast?_eq_none_iff
def IH:=@List.size_toArray
def JP:=@List.all_eq_false
def Io:=@List.length_drop
def D4:=@Nat.mul_comm
def E8:=@Bool.or_comm
def Iq:=@UInt8.toNat_inj
def JQ:=@List.sum_append
def IB:=@List.drop_drop
def Kx:=@List.take_succ
def KB:=@Bool.decide_or
def BJ:=@or_false
abbrev eh:=List (List Nat)
abbrev ay:=List Nat
abbrev aY:=List Int
abbrev bE:=Option Nat
abbrev cb:=List Bool
abbrev aC:=Nat->Prop
end Go.Proofs
set_option maxRecDepth 10000
noncomputable section
namespace Go.Proofs.YtepamfbheocmhaaGreatDoor.K.Hm
open Go
inductive Ky where
 |e
 |z (k:Ky)
 |o (k:Ky)
 deriving Inhabited,DecidableEq
abbrev bU:=Ky->Prop
abbrev cg:=List Ky
abbrev aZ:=Ky->bE
def Ky.succ(k:Ky):Ky:=Ky.rec (motive:=λ_=>Ky) (.z .e) (λk _=>.o k) (λ_ ih=>.z ih) k
def Ky.beq(a:Ky):Ky->Bool:=Ky.rec (motive:=λ_=>Ky->Bool)
 (λb=>Ky.rec (motive:=λ_=>Bool) true (λ_ _=>false) (λ_ _=>false) b)
 (λ_ ih b=>Ky.rec (motive:=λ_=>Bool) false (λk _=>ih k) (λ_ _=>false) b)
 (λ_ ih b=>Ky.rec (motive:=λ_=>Bool) false (λ_ _=>false) (λk _=>ih k) b) a
inductive Tr(α:Type) where
 |lf
 |nd (v:Option α) (l r:Tr α)
 deriving Inhabited
section Ow
variable{α:Type}
def ak(t:Tr α):Ky->Option α:=
 Tr.rec (motive:=λ_=>Ky->Option α) (λ_=>none) (λv _ _ b gr k=>Ky.rec (motive:=λ_=>Option α) v (λk' _=>b k') (λk' _=>gr k') k) t
def tv(t:Tr α):Option α:=Tr.rec (motive:=λ_=>Option α) none (λv _ _ _ _=>v) t
def tl(t:Tr α):Tr α:=Tr.rec (motive:=λ_=>Tr α) .lf (λ_ l _ _ _=>l) t
def tr(t:Tr α):Tr α:=Tr.rec (motive:=λ_=>Tr α) .lf (λ_ _ r _ _=>r) t
def ax(x:Option α)(k:Ky):Tr α->Tr α:=
 Ky.rec (motive:=λ_=>Tr α->Tr α) (λt=>.nd x (tl t) (tr t)) (λ_ ih t=>.nd (tv t) (ih (tl t)) (tr t)) (λ_ ih t=>.nd (tv t) (tl t) (ih (tr t))) k
def fE(t:Tr α):Nat->Option α:=
 Tr.rec (motive:=λ_=>Nat->Option α) (λ_=>none)
  (λv _ _ b gr k=>Bool.rec (motive:=λ_=>Option α) (Bool.rec (motive:=λ_=>Option α) (gr (Nat.div (Nat.pred k) 2)) (b (Nat.div k 2)) (Nat.beq (Nat.mod k 2) 1)) v (Nat.beq k 0)) t
def mN(x:Option α)(n:Nat):Nat->Tr α:=Nat.rec (motive:=λ_=>Nat->Tr α) (λ_=>.lf)
 (λ_ ih k=>Bool.rec (motive:=λ_=>Tr α) (Bool.rec (motive:=λ_=>Tr α) (.nd none .lf (ih (Nat.div (Nat.pred k) 2))) (.nd none (ih (Nat.div k 2)) .lf) (Nat.beq (Nat.mod k 2) 1)) (.nd x .lf .lf) (Nat.beq k 0)) n
def je(x:Option α)(t:Tr α):Nat->Tr α:=
 Tr.rec (motive:=λ_=>Nat->Tr α) (λk=>mN x (Nat.succ k) k)
  (λv l r sl b k=>Bool.rec (motive:=λ_=>Tr α) (Bool.rec (motive:=λ_=>Tr α) (.nd v l (b (Nat.div (Nat.pred k) 2))) (.nd v (sl (Nat.div k 2)) r) (Nat.beq (Nat.mod k 2) 1)) (.nd x l r) (Nat.beq k 0)) t
end Ow
inductive HV where
 |int (k:IntKind) (n:Int)
 |bool (b:Bool)
 |str (s:ay)
 |ah|dO|gG|fK|fQ|undef
 |ptr (o:Ky) (k:Nat)
 |sl (o:Ky) (bm len sz:Nat)
 |mp (o:Ky)
 |fn (f:Nat) (Ox aa3:List HV)
 |iR (l:Ky)
 |agg (l:List HV)
 |bM (l:List HV)
 |psl (aq:List (List HV))
 |aw (cells:List HV)
 deriving Inhabited
abbrev dv:=List (Ky×List HV)
abbrev bO:=Option HV
abbrev aj:=List HV
abbrev aO:=List aj
inductive X where
 |t (n:Nat)
 |k (v:HV)
 deriving Inhabited
inductive Pc where
 |z (l:aj)
 |x (o:X) (n:Nat)
 deriving Inhabited
structure Kd where
 ag:Bool
 ks:ay
 deriving Inhabited
inductive ll where
 |mv (x:X)
 |pick (c a b:X)
 |alloc (z:aj)
 |alb (t:Nat) (z:aj)
 |box (x:X)
 |fbx (x:X)
 |build (ps:List Pc)
 |bsl (sz:Nat) (xs:List X)
 |fbl (sz:Nat) (xs:List X)
 |ld (x:X) (n:bE)
 |st (n:Nat) (a x:X)
 |fa (x:X) (bm:Nat)
 |ia (x i:X) (sz:Nat)
 |idx (x i:X)
 |len (k:Nat) (x:X)
 |bin (bl:Bool) (op:BinOp) (x y:X)
 |un (op:UnOp) (x:X)
 |mkf (g:Nat) (Ox aa3:List X)
 |ext (x:X) (i:Nat)
 |cnv (k:IntKind) (x:X)
 |nck (x:X)
 |mm (ahq:Bool) (x y:X)
 |app (sz bw:Nat) (tg:bE) (x ys:X)
 |mks (sz bw:Nat) (z:aj) (l c:X)
 |mkm
 |lkp (K:Kd) (m k:X) (z:HV) (ok:Bool)
 |mup (K:Kd) (m k v:X)
 |eqs (K:Kd) (neg:Bool) (x y:X)
 |niq (k:Nat) (neg:Bool) (x:X)
 |slc (x:X) (lo hi mx:Option X) (sz:Nat)
 |sls (x:X) (lo hi:Option X)
 |call (f:Nat) (xs:List X)
 |dyn (x:X) (xs:List X)
 |cis (x:X)
 |cbs (x:X)
 |csb (x:X)
 |men (K:Kd) (m k:X) (z:HV)
 |mes (m st v:X)
 |aps (bw:Nat) (tg:bE) (x y:X)
 |cpy (sz:Nat) (x y:X)
 |clr (sz:Nat) (z:aj) (x:X)
 |cap (x:X)
 |cvs (x:X)
 |bad
 deriving Inhabited
structure aP where
 d:bE
 op:ll
 g:Option (Nat×Bool)
 deriving Inhabited
inductive DK where
 |r
 |l (lo hi:Nat)
 |a
 |e
 deriving Inhabited
structure dL where
 i:Nat
 o:aP
 k:DK
 deriving Inhabited
inductive HC where
 |skip|ret
 |exit (i:Nat)
 |seq (a b:HC)
 |cond (x:X) (a b:HC)
 |block (i:Nat) (c:HC)
 |loop (c:HC)
 |rg (outs:ay) (lV:List aP)
 |K8 (outs:ay) (main:List dL) (cr:List aP)
 |rf (x:X) (ps:ay) (iS body:HC)
 |KX (ts:ay)
 |Oy (t bm n:Nat)
 |gh (keep:ay)
 deriving Inhabited
inductive Rs where
 |tmp (n:Nat)
 |cell (n:Nat) (sz:bE)
 deriving Inhabited
structure HF where
 nt:Nat
 np:Nat
 keep:ay
 rs:List Rs
 c:HC
 pu:Bool:=false
 deriving Inhabited
inductive En where
 |nil
 |cons (n:Nat) (v:HV) (r:En)
 deriving Inhabited
inductive Ob where
 |cells (t:Tr HV) (lo hi:Nat) (g:Ky)
 |mp (es:List (HV×HV))
 |loop (st:Nat) (vu:Option HC) (tm:En) (ps:ay) (iS body:HC)
 deriving Inhabited
structure HS where
 h:Tr Ob
 nx:Ky
 gr:Tr cg
 ty:Tr (Nat×Nat)
def look(e:En)(k:Nat):bO:=
 En.rec (motive:=λ_=>bO) none (λn v _ ih=>Bool.rec (motive:=λ_=>bO) ih (some v) (Nat.beq n k)) e
def En.p8(e:En)(k:Nat)(x:HV):En:=
 En.rec (motive:=λ_=>En) (.cons k x .nil) (λn v r ih=>Bool.rec (motive:=λ_=>En) (.cons n v ih) (.cons n x r) (Nat.beq n k)) e
def bp(x:X)(e:En):bO:=X.rec (motive:=λ_=>bO) (λn=>look e n) (λv=>some v) x
def ob{α β:Type}(f:α->Option β)(o:Option α):Option β:=Option.rec (motive:=λ_=>Option β) none f o
def fY(l:List X)(e:En):Option aj:=
 List.rec (motive:=λ_=>Option aj) (some []) (λx _ ih=>Option.rec (motive:=λ_=>Option aj) none (λv=>Option.rec (motive:=λ_=>Option aj) none (λl=>some (v::l)) ih) (bp x e)) l
def cY(l:aj):Nat->Tr HV->Tr HV:=
 List.rec (motive:=λ_=>Nat->Tr HV->Tr HV) (λ_ t=>t) (λv _ ih k t=>ih (Nat.succ k) (je (some v) t k)) l
def mO(t:Tr HV)(n:Nat):Nat->Option aj:=
 Nat.rec (motive:=λ_=>Nat->Option aj) (λ_=>some [])
  (λ_ ih k=>Option.rec (motive:=λ_=>Option aj) none (λv=>Option.rec (motive:=λ_=>Option aj) none (λl=>some (v::l)) (ih (Nat.succ k))) (fE t k)) n
def aM{α:Type}(l:List α):Nat:=List.rec (motive:=λ_=>Nat) 0 (λ_ _ n=>Nat.succ n) l
inductive cR where
 |v (x:HV) (s:HS)
 |call (f:Nat) (args:aj)
 |round (l:Ky) (args:aj)
 |bad
def rv(s:HS)(o:bO):cR:=Option.rec (motive:=λ_=>cR) .bad (λv=>.v v s) o
def HS.new(s:HS)(l:aj)(K:Ky->HV):cR:=
 .v (K s.nx) {h:=ax (some (.cells (cY l 0 .lf) 0 (aM l) s.nx)) s.nx s.h,nx:=s.nx.succ,gr:=ax (some [s.nx]) s.nx s.gr,ty:=s.ty}
section elim
variable{β:Type}
def HV.kB(v:HV)(f:Ky->Nat->β)(d:β):β:=HV.casesOn (motive_1:=λ_=>β) v (λ_ _=>d) (λ_=>d) (λ_=>d) d d d d d d (λo k=>f o k) (λ_ _ _ _=>d) (λ_=>d) (λ_ _ _=>d) (λ_=>d) (λ_=>d) (λ_=>d) (λ_=>d) (λ_=>d)
def HV.asInt(v:HV)(f:IntKind->Int->β)(d:β):β:=HV.casesOn (motive_1:=λ_=>β) v (λk n=>f k n) (λ_=>d) (λ_=>d) d d d d d d (λ_ _=>d) (λ_ _ _ _=>d) (λ_=>d) (λ_ _ _=>d) (λ_=>d) (λ_=>d) (λ_=>d) (λ_=>d) (λ_=>d)
def HV.asBool(v:HV)(t f d:β):β:=HV.casesOn (motive_1:=λ_=>β) v (λ_ _=>d) (λb=>Bool.rec (motive:=λ_=>β) f t b) (λ_=>d) d d d d d d (λ_ _=>d) (λ_ _ _ _=>d) (λ_=>d) (λ_ _ _=>d) (λ_=>d) (λ_=>d) (λ_=>d) (λ_=>d) (λ_=>d)
def HV.Oz(v:HV)(f:Ky->Nat->Nat->Nat->β)(d:β):β:=HV.casesOn (motive_1:=λ_=>β) v (λ_ _=>d) (λ_=>d) (λ_=>d) d d d d d d (λ_ _=>d) (λo a b c=>f o a b c) (λ_=>d) (λ_ _ _=>d) (λ_=>d) (λ_=>d) (λ_=>d) (λ_=>d) (λ_=>d)
def HV.NP(v:HV)(f:aj->β)(d:β):β:=HV.casesOn (motive_1:=λ_=>β) v (λ_ _=>d) (λ_=>d) (λ_=>d) d d d d d d (λ_ _=>d) (λ_ _ _ _=>d) (λ_=>d) (λ_ _ _=>d) (λ_=>d) (λ_=>d) (λl=>f l) (λ_=>d) (λ_=>d)
def HV.Vi(v:HV)(f:ay->β)(d:β):β:=HV.casesOn (motive_1:=λ_=>β) v (λ_ _=>d) (λ_=>d) (λl=>f l) d d d d d d (λ_ _=>d) (λ_ _ _ _=>d) (λ_=>d) (λ_ _ _=>d) (λ_=>d) (λ_=>d) (λ_=>d) (λ_=>d) (λ_=>d)
end elim
def cellsOf(v:HV):Option aj:=HV.casesOn (motive_1:=λ_=>Option aj) v (λ_ _=>some [v]) (λ_=>some [v]) (λ_=>some [v]) (some [v]) (some [v]) (some [v]) (some [v]) (some [v]) none (λ_ _=>some [v]) (λ_ _ _ _=>some [v]) (λ_=>some [v]) (λ_ _ _=>some [v]) (λ_=>some [v]) (λl=>some l) (λ_=>none) (λ_=>some [v]) (λ_=>some [v])
def Ob.uG{β:Type}(b:Ob)(f:Tr HV->Nat->Nat->Ky->β)(d:β):β:=Ob.rec (motive:=λ_=>β) (λt lo hi g=>f t lo hi g) (λ_=>d) (λ_ _ _ _ _ _=>d) b
def gD{β:Type}(b:Bool)(x y:β):β:=Bool.rec (motive:=λ_=>β) y x b
def bN{α β:Type}(o:Option α)(f:α->β)(d:β):β:=Option.rec (motive:=λ_=>β) d f o
def HS.cell(s:HS)(o:Ky)(k:Nat):bO:=
 bN (ak s.h o) (λb=>b.uG (λt c d _=>gD (Nat.ble c k) (gD (Nat.blt k d) (fE t k) none) none) none) none
def HS.bz(s:HS)(o:Ky)(k n:Nat):Option aj:=
 bN (ak s.h o) (λb=>b.uG (λt c d _=>gD (Nat.ble c k) (gD (Nat.ble (Nat.add k n) d) (mO t n k) none) none) none) none
def HS.load(s:HS)(o:Ky)(k:Nat)(n:bE):bO:=
 bN n (λm=>bN (s.bz o k m) (λl=>some (.agg l)) none) (s.cell o k)
def bI(h:Tr Ob)(o:Ky)(a b:Nat):cg->(Tr Ob×List Ky)
 |[]=>(h,[])
 |m::r=>match bI h o a b r with
  |(c,l)=>bif m.beq o then(c,m::l)else match ak c m with|some (.cells _ d f _)=>bif Nat.blt d b&&Nat.blt a f then(ax none m c,l)else(c,m::l)|_=>(c,l)
def HS.kC(s:HS)(o:Ky)(k:Nat)(l:aj)(t:Tr HV)(c d:Nat)(g:Ky):cg->Option HS:=λms=>
 match ms with
 |[_]=>some {h:=ax (some (.cells (cY l k t) c d g)) o s.h,nx:=s.nx,gr:=s.gr,ty:=s.ty}
 |ms=>match bI s.h o k (Nat.add k (aM l)) ms with|(f,b)=>some {h:=ax (some (.cells (cY l k t) c d g)) o f,nx:=s.nx,gr:=ax (some b) g s.gr,ty:=s.ty}
def HS.store(s:HS)(o:Ky)(k:Nat)(l:aj):Option HS:=
 bN (ak s.h o) (λb=>b.uG (λt c d g=>gD (Nat.ble c k) (gD (Nat.ble (Nat.add k (aM l)) d) (bN (ak s.gr g) (s.kC o k l t c d g) none) none) none) none) none
def gE{α}:Nat->List α->List α
 |0,_=>[]
 |_+1,[]=>[]
 |n+1,x::r=>x::gE n r
def ig{α}:Nat->List α->List α
 |0,l=>l
 |_+1,[]=>[]
 |n+1,_::r=>ig n r
def iW(o:Ky):cg->Bool
 |[]=>false
 |m::r=>bif m.beq o then true else iW o r
def eL(h:Tr Ob):Nat->cg->(Tr Ob×List Ky)
 |0,[]=>(h,[])
 |0,m::r=>eL (ax none m h) 0 r
 |_+1,[]=>(h,[])
 |n+1,m::r=>match eL h n r with|(b,l)=>(b,m::l)
def DQ(b:bE)(s:HS):Tr (Nat×Nat):=match b with|none=>s.ty|some E=>ax (some (E,0)) s.nx s.ty
def lJ(b:bE)(o:Ky)(s:HS):Tr (Nat×Nat):=match b with
 |none=>s.ty
 |some E=>match ak s.ty o with|some (c,_)=>bif Nat.beq c E then ax (some (E,0)) s.nx s.ty else s.ty|none=>s.ty
def HS.B2(s:HS)(ty:Tr (Nat×Nat))(l:aj)(K:Ky->HV):cR:=
 .v (K s.nx) {h:=ax (some (.cells (cY l 0 .lf) 0 (aM l) s.nx)) s.nx s.h,nx:=s.nx.succ,gr:=ax (some [s.nx]) s.nx s.gr,ty:=ty}
def HS.append(s:HS)(sz bw:Nat)(i:bE)(x:HV)(new:aj)(dP:Nat):cR:=
 match x with
 |.ah=>bif Nat.beq dP 0 then .v .ah s else bif Nat.ble dP bw then s.B2 (DQ i s) new (λo=>.sl o 0 dP sz)else .bad
 |.sl o b len d=>bif Nat.beq dP 0 then .v x s else bif !(Nat.beq sz d)then .bad else(
  match ak s.h o with
  |some (.cells _ _ _ g)=>
   match ak s.gr g with
   |some l=>
    match eL s.h 12 l with
    |(h0,f)=>match bI h0 o (b+len*sz) (b+len*sz+aM new) f with
     |(j,c)=>match ak j o with
      |some (.cells t k m _)=>
       bif iW o c&&Nat.ble k b&&Nat.ble (b+len*sz) m&&Nat.ble (len+dP) bw then
        .v (.sl s.nx b (len+dP) sz) {h:=ax (some (.cells (cY new (b+len*sz) t) b (b+len*sz+aM new) g)) s.nx (ax (some (.cells t k (b+len*sz) g)) o j),nx:=s.nx.succ,gr:=ax (some (s.nx::c)) g s.gr,ty:=lJ i o s}
       else .bad
      |_=>.bad
   |none=>.bad
  |_=>.bad)
 |_=>.bad
def mP(a b:Int):Bool:=Int.rec (motive:=λ_=>Bool) (λx=>Int.rec (motive:=λ_=>Bool) (λy=>Nat.beq x y) (λ_=>false) b) (λx=>Int.rec (motive:=λ_=>Bool) (λ_=>false) (λy=>Nat.beq x y) b) a
def jU(a b:Int):Bool:=Int.rec (motive:=λ_=>Bool) (λx=>Int.rec (motive:=λ_=>Bool) (λy=>Nat.ble x y) (λ_=>false) b) (λx=>Int.rec (motive:=λ_=>Bool) (λ_=>true) (λy=>Nat.ble y x) b) a
def pY:ay->ay->Bool
 |[],[]=>true
 |x::r,y::s=>Nat.beq x y&&pY r s
 |_,_=>false
def tB:ay->ay->Bool
 |[],[]=>false
 |[],_=>true
 |_,[]=>false
 |x::r,y::s=>bif Nat.blt x y then true else bif Nat.beq x y then tB r s else false
def lK:Nat->HV->Bool
 |0,.int _ _=>true
 |1,.bool _=>true
 |2,.str _=>true
 |_,_=>false
def df:ay->aj->Bool
 |[],[]=>true
 |k::r,v::l=>lK k v&&df r l
 |_,_=>false
def HV.y7:HV->HV->Option Bool
 |.int k a,.int j b=>bif decide (k=j)then some (mP a b)else none
 |.bool a,.bool b=>some (a==b)
 |.str a,.str b=>some (pY a b)
 |_,_=>none
def sh:aj->aj->Option Bool
 |[],[]=>some true
 |x::r,y::s=>match x.y7 y with|some true=>sh r s|some false=>some false|none=>none
 |_,_=>none
def ql(K:Kd)(x y:HV):Option Bool:=bif K.ag
 then(match x,y with|.agg l,.agg m=>bif df K.ks l&&df K.ks m then sh l m else none|_,_=>none)
 else bif df K.ks [x]&&df K.ks [y]then x.y7 y else none
def bQ(k:IntKind)(n:Int):Int:=match k,n with|.i64,.ofNat m=>bif Nat.blt m 9223372036854775808 then .ofNat m else k.wrap n|.i64,.negSucc m=>bif Nat.blt m 9223372036854775808 then .negSucc m else k.wrap n|k,n=>k.wrap n
def vx(a b:Int):Int:=match a,b with|.ofNat x,.ofNat y=>.ofNat (Nat.add x y)|a,b=>Int.add a b
def Ie(a b:Int):Int:=match a,b with|.ofNat x,.ofNat y=>bif Nat.ble y x then .ofNat (Nat.sub x y)else .negSucc (Nat.sub y (Nat.succ x))|a,b=>Int.sub a b
def jf:IntKind->Bool
 |.i64=>true
 |.u64=>true
 |_=>false
def OA(op:BinOp)(k:IntKind)(a b:Int):bO:=match op with
  |.add=>some (.int k (bQ k (vx a b)))
  |.sub=>some (.int k (bQ k (Ie a b)))
  |.mul=>some (.int k (bQ k (a*b)))
  |.eql=>some (.bool (mP a b))
  |.neq=>some (.bool (!mP a b))
  |.lss=>some (.bool (!jU b a))
  |.leq=>some (.bool (jU a b))
  |.gtr=>some (.bool (!jU a b))
  |.geq=>some (.bool (jU b a))
  |.rem=>bif mP b 0 then none else some (.int k (a.tmod b))
  |.and=>(match a,b with|.ofNat x,.ofNat y=>bif Nat.blt x 9223372036854775808&&Nat.blt y 9223372036854775808&&jf k then some (.int k (.ofNat (Nat.land x y)))else none|_,_=>none)
  |.quo=>bif mP b 0 then none else some (.int k (bQ k (a.tdiv b)))
  |_=>none
def OB(op:BinOp)(a b:Bool):bO:=match op with|.eql=>some (.bool (a==b))|.neq=>some (.bool (a != b))|_=>none
def OC(op:BinOp)(a b:ay):bO:=match op with|.eql=>some (.bool (pY a b))|.neq=>some (.bool (!pY a b))|.add=>gD (Nat.ble (Nat.add (aM a) (aM b)) 9223372036854775807) (some (.str (a++b))) none|.lss=>some (.bool (tB a b))|.gtr=>some (.bool (tB b a))|.leq=>some (.bool (!tB b a))|.geq=>some (.bool (!tB a b))|_=>none
def GR(c:Bool)(op:BinOp)(x y:HV):bO:=
  x.asInt (λk a=>y.asInt (λj b=>match op with
      |.shr=>(match a,b with|.ofNat x,.ofNat y=>bif Nat.blt y 64&&jf k then some (.int k (.ofNat (Nat.shiftRight x y)))else none|_,_=>none)
      |.shl=>(match a,b with|.ofNat x,.ofNat y=>bif Nat.blt y 64&&jf k then some (.int k (bQ k (.ofNat (Nat.shiftLeft x y))))else none|_,_=>none)
      |op=>bif decide (k=j)then OA op k a b else none) none)
    (match x,y with
     |.bool a,.bool b=>bif c then OB op a b else none
     |.str a,.str b=>OC op a b
     |_,_=>none)
def y8{α:Type}(l:List α):Nat->Option α:=List.rec (motive:=λ_=>Nat->Option α) (λ_=>none) (λx _ ih k=>Nat.rec (motive:=λ_=>Option α) (some x) (λp _=>ih p) k) l
def p9(K:Kd)(k:HV):Bool:=bif K.ag then(match k with|.agg l=>df K.ks l|_=>false)else df K.ks [k]
def dM(K:Kd)(m:List (HV×HV))(k:HV)(i:Nat):Option (Nat×Option HV):=match m with
 |[]=>some (i,none)
 |(a,v)::r=>match ql K k a with|some true=>some (i,some v)|some false=>dM K r k (Nat.succ i)|none=>none
def lL:List (HV×HV)->Nat->HV->List (HV×HV)
 |[],_,_=>[]
 |(a,x)::r,i,v=>bif Nat.beq i 0 then(a,v)::r else(a,x)::lL r (Nat.pred i) v
def eA(e:En):List Pc->Option aj
 |[]=>some []
 |.z l::r=>match eA e r with|some m=>some (l++m)|none=>none
 |.x o n::r=>match bp o e with|some v=>(match cellsOf v,eA e r with|some l,some m=>bif Nat.beq (aM l) n then some (l++m)else none|_,_=>none)|none=>none
def flat(sz:Nat):aj->Option aj
 |[]=>some []
 |v::r=>match cellsOf v,flat sz r with|some l,some m=>bif Nat.beq (aM l) sz then some (l++m)else none|_,_=>none
def lW(z:aj):Nat->aj
 |0=>[]
 |n+1=>z++lW z n
def NQ:HV->bE
 |.int _ (.ofNat n)=>some n
 |_=>none
def fu(e:En)(d:Nat):Option X->bE
 |none=>some d
 |some x=>match bp x e with|some v=>NQ v|none=>none
def lX(l:ay)(b c:Nat):ay:=gE (c-b) (l.drop b)
def bytesOf:aj->Option ay
 |[]=>some []
 |.int .u8 (.ofNat n)::r=>bif Nat.blt n 256 then(match bytesOf r with|some l=>some (n::l)|none=>none)else none
 |_=>none
def fG:ay->aj
 |[]=>[]
 |n::r=>.int .u8 (.ofNat n)::fG r
def dI:Nat->Nat->ay
 |0,_=>[]
 |f+1,n=>bif Nat.blt n 10 then [48+n]else dI f (n/10)++[48+n%10]
def itoa:Int->ay
 |.ofNat n=>dI 25 n
 |.negSucc n=>45::dI 25 (n+1)
def Un(x:X)(e:En)(s:HS):cR:=rv s (bp x e)
def ln(c a b:X)(e:En)(s:HS):cR:=bN (bp c e) (λv=>v.asBool (rv s (bp a e)) (rv s (bp b e)) .bad) .bad
def DR(z:aj)(_:En)(s:HS):cR:=s.new z (λo=>.ptr o 0)
def OD(t:Nat)(z:aj)(_:En)(s:HS):cR:=s.B2 (ax (some (t,aM z)) s.nx s.ty) z (λo=>.ptr o 0)
def GS(x:X)(e:En)(s:HS):cR:=bN (bp x e) (λv=>bN (cellsOf v) (λl=>s.new l (λo=>.ptr o 0)) .bad) .bad
def uf(x:X)(e:En)(s:HS):cR:=bN (bp x e) (λv=>bN (cellsOf v) (λl=>.v (.aw l) s) .bad) .bad
def lM(ps:List Pc)(e:En)(s:HS):cR:=bN (eA e ps) (λl=>.v (.agg l) s) .bad
def GU(sz:Nat)(xs:List X)(e:En)(s:HS):cR:=bN (fY xs e) (λl=>bN (flat sz l) (λm=>s.new m (λo=>.sl o 0 (aM xs) sz)) .bad) .bad
def ju(sz:Nat):aj->Option aO
 |[]=>some []
 |v::r=>match cellsOf v,ju sz r with|some l,some m=>bif Nat.beq (aM l) sz then some (l::m)else none|_,_=>none
def ug(sz:Nat)(xs:List X)(e:En)(s:HS):cR:=bN (fY xs e) (λl=>bN (ju sz l) (λm=>.v (.psl m) s) .bad) .bad
def lY(v:HV)(n:bE):bO:=match v with|.aw c=>bN n (λm=>gD (Nat.ble m (aM c)) (some (.agg (gE m c))) none) (y8 c 0)|_=>none
def NR(x:X)(n:bE)(e:En)(s:HS):cR:=bN (bp x e) (λv=>v.kB (λo k=>rv s (s.load o k n)) (rv s (lY v n))) .bad
def Uo(n:Nat)(a x:X)(e:En)(s:HS):cR:=bN (bp a e) (λp=>p.kB (λo k=>bN (bp x e) (λv=>bN (cellsOf v) (λl=>gD (Nat.beq (aM l) n) (bN (s.store o k l) (λs'=>.v .undef s') .bad) .bad) .bad) .bad) .bad) .bad
def faP(v:HV)(bm:Nat):bO:=match v with|.aw c=>gD (Nat.ble bm (aM c)) (some (.aw (ig bm c))) none|_=>none
def H8(x:X)(bm:Nat)(e:En)(s:HS):cR:=bN (bp x e) (λv=>v.kB (λo k=>.v (.ptr o (Nat.add k bm)) s) (rv s (faP v bm))) .bad
def Uq(v:HV)(i:bO)(sz:Nat):bO:=match v,i with
  |.psl b,some (.int _ (.ofNat n))=>(match y8 b n with|some r=>gD (Nat.beq (aM r) sz) (some (.aw r)) none|none=>none)
  |_,_=>none
def BX(x i:X)(sz:Nat)(e:En)(s:HS):cR:=bN (bp x e) (λv=>v.Oz (λo bm len DJ=>bN (bp i e) (λq=>q.asInt (λ_ z=>Int.rec (motive:=λ_=>cR) (λn=>gD (Nat.blt n len) (gD (Nat.beq sz DJ) (.v (.ptr o (Nat.add bm (Nat.mul n sz))) s) .bad) .bad) (λ_=>.bad) z) .bad) .bad) (rv s (Uq v (bp i e) sz))) .bad
def hIdx(x i:X)(e:En)(s:HS):cR:=bN (bp x e) (λv=>v.Vi (λl=>bN (bp i e) (λq=>q.asInt (λ_ z=>Int.rec (motive:=λ_=>cR) (λn=>bN (y8 l n) (λb=>.v (.int .u8 (.ofNat b)) s) .bad) (λ_=>.bad) z) .bad) .bad) .bad) .bad
def K9(k:Nat)(s:HS)(v:HV):bE:=match k,v with
  |0,.ah=>some 0
  |0,.sl _ _ n _=>some n
  |0,.psl b=>some (aM b)
  |1,.str l=>some (aM l)
  |2,.fK=>some 0
  |2,.mp o=>(match ak s.h o with|some (.mp c)=>some (aM c)|_=>none)
  |_,_=>none
def B3(k:Nat)(x:X)(e:En)(s:HS):cR:=bN (bp x e) (λv=>bN (K9 k s v) (λn=>.v (.int .i64 (.ofNat n)) s) .bad) .bad
def uh(c:Bool)(op:BinOp)(x y:X)(e:En)(s:HS):cR:=bN (bp x e) (λa=>bN (bp y e) (λb=>rv s (GR c op a b)) .bad) .bad
def Ur(op:UnOp)(x:X)(e:En)(s:HS):cR:=match bp x e with
  |some (.bool b)=>(match op with|.not=>.v (.bool (!b)) s|_=>.bad)
  |some (.int k n)=>(match op with|.neg=>.v (.int k (bQ k (0-n))) s|_=>.bad)
  |_=>.bad
def ui(g:Nat)(c cs:List X)(e:En)(s:HS):cR:=bN (fY c e) (λa=>bN (fY cs e) (λb=>.v (.fn g a b) s) .bad) .bad
def uj(x:X)(i:Nat)(e:En)(s:HS):cR:=bN (bp x e) (λv=>v.NP (λl=>rv s (y8 l i)) .bad) .bad
def uk(k:IntKind)(x:X)(e:En)(s:HS):cR:=bN (bp x e) (λv=>v.asInt (λ_ n=>.v (.int k (bQ k n)) s) .bad) .bad
def um(x:X)(e:En)(s:HS):cR:=bN (bp x e) (λv=>v.kB (λo k=>.v (.ptr o k) s) (match v with|.aw c=>.v (.aw c) s|_=>.bad)) .bad
def Ut(m:Bool)(x y:X)(e:En)(s:HS):cR:=match bp x e,bp y e with|some (.int k a),some (.int _ b)=>.v (.int k (bif m then(bif jU a b then b else a)else(bif jU a b then a else b))) s|_,_=>.bad
def aB:aO->aj
 |[]=>[]
 |r::l=>r++aB l
def cZ(sz:Nat):aO->Bool
 |[]=>true
 |r::l=>Nat.beq (aM r) sz&&cZ sz l
def iz:HV->Bool
 |.ah=>true
 |.sl .. =>true
 |_=>false
def GV(sz bw:Nat)(f:bE)(x ys:X)(e:En)(s:HS):cR:=match bp x e,bp ys e with
  |some a,some b=>bif iz a then(match b with
   |.ah=>.v a s
   |.sl o d len _=>bif Nat.beq len 0 then .v a s else bN (s.bz o d (len*sz)) (λl=>s.append sz bw f a l len) .bad
   |.psl c=>bif Nat.beq (aM c) 0 then .v a s else bif cZ sz c then s.append sz bw f a (aB c) (aM c)else .bad
   |_=>.bad)else .bad
  |_,_=>.bad
def GW(sz bw:Nat)(z:aj)(l c:X)(e:En)(s:HS):cR:=match bp l e,bp c e with|some (.int _ (.ofNat n)),some (.int _ (.ofNat m))=>bif Nat.ble n m&&Nat.ble m bw then s.new (lW z n) (λo=>.sl o 0 n sz)else .bad|_,_=>.bad
def HS.Vj(s:HS)(o:Ob)(K:Ky->HS->cR):cR:=K s.nx {h:=ax (some o) s.nx s.h,nx:=s.nx.succ,gr:=s.gr,ty:=s.ty}
def HS.aK(s:HS)(o:Ky)(b:Ob):HS:={h:=ax (some b) o s.h,nx:=s.nx,gr:=s.gr,ty:=s.ty}
def HS.kill(s:HS)(o:Ky):HS:={h:=ax none o s.h,nx:=s.nx,gr:=s.gr,ty:=s.ty}
def Vk(_:En)(s:HS):cR:=s.Vj (.mp []) (λo s'=>.v (.mp o) s')
def B4(K:Kd)(m k:X)(z:HV)(ok:Bool)(e:En)(s:HS):cR:=match bp m e,bp k e with
  |some .fK,some key=>bif p9 K key then .v (bif ok then .bM [z,.bool false]else z) s else .bad
  |some (.mp o),some key=>bif p9 K key then(match ak s.h o with
   |some (.mp b)=>(match dM K b key 0 with
    |some (_,some v)=>.v (bif ok then .bM [v,.bool true]else v) s
    |some (_,none)=>.v (bif ok then .bM [z,.bool false]else z) s
    |none=>.bad)
   |_=>.bad)else .bad
  |_,_=>.bad
def GX(K:Kd)(m k v:X)(e:En)(s:HS):cR:=match bp m e,bp k e,bp v e with
  |some (.mp o),some key,some v=>bif p9 K key then(match ak s.h o with
   |some (.mp b)=>(match dM K b key 0 with
    |some (i,some _)=>.v .undef (s.aK o (.mp (lL b i v)))
    |some (_,none)=>.v .undef (s.aK o (.mp (b++[(key,v)])))
    |none=>.bad)
   |_=>.bad)else .bad
  |_,_,_=>.bad
def GY(K:Kd)(neg:Bool)(x y:X)(e:En)(s:HS):cR:=match bp x e,bp y e with|some a,some b=>(match ql K a b with|some q=>.v (.bool (q != neg)) s|none=>.bad)|_,_=>.bad
def nM(k:Nat)(v:HV):Option Bool:=match k,v with|0,.ah=>some true|0,.sl .. =>some false|0,.psl (_::_)=>some false|1,.fK=>some true|1,.mp _=>some false|2,.gG=>some true|2,.fn .. =>some false|2,.iR _=>some false|3,.dO=>some true|3,.ptr .. =>some false|3,.aw _=>some false|_,_=>none
def uo(k:Nat)(neg:Bool)(x:X)(e:En)(s:HS):cR:=bN (bp x e) (λv=>bN (nM k v) (λq=>.v (.bool (q != neg)) s) .bad) .bad
def B5(x:X)(d f g:Option X)(sz:Nat)(e:En)(s:HS):cR:=match bp x e with
  |some (.sl o h len i)=>(match fu e 0 d,fu e len f,g with
   |some a,some b,none=>bif Nat.ble a b&&Nat.ble b len&&Nat.beq sz i then .v (.sl o (h+a*sz) (b-a) sz) s else .bad
   |_,_,_=>.bad)
  |some (.psl c)=>(match fu e 0 d,fu e (aM c) f,g with
   |some a,some b,none=>bif Nat.ble a b&&Nat.ble b (aM c)&&cZ sz c then .v (.psl (gE (b-a) (ig a c))) s else .bad
   |_,_,_=>.bad)
  |some .ah=>(match fu e 0 d,fu e 0 f,g with|some 0,some 0,none=>.v .ah s|_,_,_=>.bad)
  |_=>.bad
def B6(x:X)(c d:Option X)(e:En)(s:HS):cR:=match bp x e with
  |some (.str l)=>(match fu e 0 c,fu e (aM l) d with
   |some a,some b=>bif Nat.ble a b&&Nat.ble b (aM l)then .v (.str (lX l a b)) s else .bad
   |_,_=>.bad)
  |_=>.bad
def B7(x:X)(e:En)(s:HS):cR:=match bp x e with|some (.int _ (.ofNat n))=>bif Nat.blt n 128 then .v (.str [n]) s else bif Nat.blt n 2048 then .v (.str [192+n/64,128+n%64]) s else .bad|_=>.bad
def B8(x:X)(e:En)(s:HS):cR:=match bp x e with
  |some .ah=>.v (.str []) s
  |some (.sl o d len _)=>(match s.bz o d len with|some l=>(match bytesOf l with|some b=>.v (.str b) s|none=>.bad)|none=>.bad)
  |some (.psl c)=>bif cZ 1 c then(match bytesOf (aB c)with|some b=>.v (.str b) s|none=>.bad)else .bad
  |_=>.bad
def GZ(x:X)(e:En)(s:HS):cR:=match bp x e with|some (.str l)=>s.new (fG l) (λo=>.sl o 0 (aM l) 1)|_=>.bad
def G0(bw:Nat)(c:bE)(x y:X)(e:En)(s:HS):cR:=match bp x e,bp y e with
  |some a,some b=>bif iz a then(match b with
   |.str l=>bif Nat.beq (aM l) 0 then .v a s else s.append 1 bw c a (fG l) (aM l)
   |_=>.bad)else .bad
  |_,_=>.bad
def G1(K:Kd)(m k:X)(z:HV)(e:En)(s:HS):cR:=match bp m e,bp k e with
  |some (.mp o),some key=>bif p9 K key then(match ak s.h o with
   |some (.mp b)=>(match dM K b key 0 with
    |some (i,some v)=>.v (.bM [v,.int .i64 (.ofNat i)]) s
    |some (_,none)=>.v (.bM [z,.int .i64 (.ofNat (aM b))]) (s.aK o (.mp (b++[(key,z)])))
    |none=>.bad)
   |_=>.bad)else .bad
  |_,_=>.bad
def G2(m i v:X)(e:En)(s:HS):cR:=match bp m e,bp i e,bp v e with
  |some (.mp o),some (.int _ (.ofNat i)),some v=>(match ak s.h o with
   |some (.mp b)=>bif Nat.blt i (aM b)then .v .undef (s.aK o (.mp (lL b i v)))else .bad
   |_=>.bad)
  |_,_,_=>.bad
def G3(sz:Nat)(x y:X)(e:En)(s:HS):cR:=match bp x e,bp y e with
    |some (.sl o d len f),some (.sl h g b _)=>
      bif !(Nat.beq sz f)then .bad else
      bif Nat.beq (bif Nat.ble len b then len else b) 0 then .v (.int .i64 0) s else
      (match s.bz h g ((bif Nat.ble len b then len else b)*sz)with
       |some l=>(match s.store o d l with|some s'=>.v (.int .i64 (.ofNat (bif Nat.ble len b then len else b))) s'|none=>.bad)
       |none=>.bad)
    |some (.sl o d len f),some (.psl c)=>
      bif !(Nat.beq sz f)then .bad else
      bif Nat.beq (bif Nat.ble len (aM c)then len else aM c) 0 then .v (.int .i64 0) s else bif cZ sz c then
      (match s.store o d (aB (gE (bif Nat.ble len (aM c)then len else aM c) c))with|some s'=>.v (.int .i64 (.ofNat (bif Nat.ble len (aM c)then len else aM c))) s'|none=>.bad)else .bad
    |some (.sl ..),some .ah=>.v (.int .i64 0) s
    |some .ah,some .ah=>.v (.int .i64 0) s
    |some .ah,some (.sl ..)=>.v (.int .i64 0) s
    |some .ah,some (.psl _)=>.v (.int .i64 0) s
    |_,_=>.bad
def G4(z:aj)(x:X)(e:En)(s:HS):cR:=match bp x e with
  |some .ah=>.v .undef s
  |some (.sl o b len _)=>bif Nat.beq len 0 then .v .undef s else(match s.store o b (lW z len)with|some s'=>.v .undef s'|none=>.bad)
  |_=>.bad
def y9(f:Nat)(xs:List X)(e:En)(_:HS):cR:=bN (fY xs e) (λl=>.call f l) .bad
def DS(x:X)(xs:List X)(e:En)(_:HS):cR:=match bp x e,fY xs e with|some (.fn f a b),some l=>.call f (a++l++b)|some (.iR r),some l=>.round r l|_,_=>.bad
def B9(x:X)(e:En)(s:HS):cR:=match bp x e with|some (.str l)=>.v (.str l) s|_=>.bad
def Vl(_:En)(_:HS):cR:=.bad
def cU(op:ll):En->HS->cR:=
 ll.rec (motive:=λ_=>En->HS->cR) Un ln DR OD GS uf lM GU ug NR Uo H8 BX hIdx B3 uh Ur ui uj uk um Ut GV GW Vk B4 GX GY uo B5 B6 y9 DS B7 B8 GZ G1 G2 G0 G3 (λ_ z x=>G4 z x) (λ_=>Vl) B9 Vl op
def fh(h:Tr Ob):cg->Tr Ob
 |[]=>h
 |m::r=>ax none m (fh h r)
mutual
def bV:HV->Bool
 |.ptr _ _=>false
 |.sl _ _ _ _=>false
 |.mp _=>false
 |.iR _=>false
 |.fn _ a b=>cj a&&cj b
 |.agg l=>cj l
 |.bM l=>cj l
 |.aw l=>cj l
 |.psl c=>gZ c
 |_=>true
def cj:aj->Bool
 |[]=>true
 |v::r=>bV v&&cj r
def gZ:aO->Bool
 |[]=>true
 |l::r=>cj l&&gZ r
end
mutual
def dX:HV->Bool
 |.ptr _ _=>false
 |.sl _ _ _ _=>false
 |.mp _=>false
 |.iR _=>false
 |.ah=>false
 |.fn _ a b=>da a&&da b
 |.agg l=>da l
 |.bM l=>da l
 |.aw l=>da l
 |.psl c=>eM c
 |_=>true
def da:aj->Bool
 |[]=>true
 |v::r=>dX v&&da r
def eM:aO->Bool
 |[]=>true
 |l::r=>da l&&eM r
end
mutual
def nn:HV->HV
 |.ah=>.psl []
 |.agg l=>.agg (n9 l)
 |.bM l=>.bM (n9 l)
 |.aw l=>.aw (n9 l)
 |.psl b=>.psl (pZ b)
 |v=>v
def n9:aj->aj
 |[]=>[]
 |v::r=>nn v::n9 r
def pZ:aO->aO
 |[]=>[]
 |l::r=>n9 l::pZ r
end
def eN:HV->Bool
 |.int _ _=>true
 |.bool _=>true
 |.str _=>true
 |.ah=>true
 |.dO=>true
 |.gG=>true
 |.fK=>true
 |.fQ=>true
 |.psl []=>true
 |_=>false
def eP:HV->Bool
 |.bM l=>l.all eN
 |.agg l=>l.all eN
 |v=>eN v
def jv(sz:Nat):Nat->aj->aO
 |0,_=>[]
 |n+1,l=>gE sz l::jv sz n (ig sz l)
section vw
variable(s:HS)
def oe(f:HV->Option (HV×List Ky)):aj->Option (List HV×List Ky)
 |[]=>some ([],[])
 |v::r=>match f v,oe f r with|some (b,t),some (c,d)=>some (b::c,t++d)|_,_=>none
def vw:Nat->HV->Option (HV×List Ky)
 |0,_=>none
 |n+1,v=>bif dX v then some (v,[])else match v with
  |.ah=>some (.psl [],[])
  |.psl d=>bif gZ d then some (.psl (pZ d),[])else none
  |.aw l=>bif cj l then some (.aw (n9 l),[])else none
  |.sl o g len i=>bif Nat.beq len 0 then some (.psl [],[])else(match s.bz o g (len*i)with
   |some l=>(match oe (vw n) l with
    |some (c,t)=>some (.psl (jv i len c),o::t)
    |none=>none)
   |none=>none)
  |.ptr o k=>(match ak s.h o with
   |some (.cells _ _ j _)=>bif Nat.ble k j then(match s.bz o k (j-k)with
    |some l=>(match oe (vw n) l with
     |some (c,t)=>some (.aw c,o::t)
     |none=>none)
    |none=>none)else none
   |_=>none)
  |.agg l=>(match oe (vw n) l with|some (c,t)=>some (.agg c,t)|none=>none)
  |.bM l=>(match oe (vw n) l with|some (c,t)=>some (.bM c,t)|none=>none)
  |.fn f a b=>(match oe (vw n) a,oe (vw n) b with|some (m,t),some (p,q)=>some (.fn f m p,t++q)|_,_=>none)
  |v=>bif bV v then some (v,[])else none
end vw
def br(s:HS):cg->HS
 |[]=>s
 |o::r=>match br s r with
  |s'=>(match ak s.h o with
   |some (.cells _ _ _ g)=>(match ak s.gr g with
    |some b=>{h:=fh s'.h b,nx:=s'.nx,gr:=s'.gr,ty:=s'.ty}
    |none=>s')
   |_=>s')
def qa(s:HS)(e:En):ay->Option (En×HS)
 |[]=>some (e,s)
 |t::r=>match qa s e r with
  |some (b,s')=>(match look b t with
   |some v=>(match vw s' 16 v with
    |some (c,l)=>some (b.p8 t c,br s' l)
    |none=>none)
   |none=>none)
  |none=>none
def tC(s:HS)(e:En)(t bm n:Nat):Option HS:=match look e t with
 |some (.ptr o k)=>(match s.bz o (k+bm) n with
  |some l=>(match oe (vw s 16) l with
   |some (c,b)=>bif iW o b then none else(match br s b with
    |s'=>(match ak s'.h o with
     |some (.cells tr d f g)=>some {h:=ax (some (.cells (cY c (k+bm) tr) d f g)) o s'.h,nx:=s'.nx,gr:=s'.gr,ty:=s'.ty}
     |_=>none))
   |none=>none)
  |none=>none)
 |_=>none
mutual
def ids:HV->cg
 |.ptr o _=>[o]
 |.sl o _ _ _=>[o]
 |.mp o=>[o]
 |.iR o=>[o]
 |.fn _ a b=>DT a++DT b
 |.agg l=>DT l
 |.bM l=>DT l
 |.aw l=>DT l
 |.psl c=>NS c
 |_=>[]
def DT:aj->cg
 |[]=>[]
 |v::r=>ids v++DT r
def NS:aO->cg
 |[]=>[]
 |l::r=>DT l++NS r
end
def OE:Tr HV->cg
 |.lf=>[]
 |.nd v l r=>(match v with|some x=>ids x|none=>[])++(OE l++OE r)
def Vm:List (HV×HV)->cg
 |[]=>[]
 |(k,v)::r=>ids k++(ids v++Vm r)
def G5(s:HS):Nat->cg->cg->Option cg
 |0,_,_=>none
 |_+1,[],b=>some b
 |n+1,o::r,b=>bif iW o b then G5 s n r b else(match ak s.h o with
  |some (.cells t _ _ _)=>G5 s n (OE t++r) (b++[o])
  |some (.mp c)=>G5 s n (Vm c++r) (b++[o])
  |_=>none)
def yE:Nat->Ky
 |0=>.e
 |n+1=>(yE n).succ
def NU(o:Ky):List (Ky×Ky)->Option Ky
 |[]=>none
 |(a,b)::r=>bif a.beq o then some b else NU o r
def uq:Nat->cg->List (Ky×Ky)
 |_,[]=>[]
 |n,o::r=>(o,yE n)::uq (n+1) r
mutual
def nN(r:List (Ky×Ky)):HV->bO
 |.ptr o k=>match NU o r with|some g=>some (.ptr g k)|none=>none
 |.sl o a b c=>match NU o r with|some g=>some (.sl g a b c)|none=>none
 |.mp o=>match NU o r with|some g=>some (.mp g)|none=>none
 |.iR _=>none
 |.fn f a b=>match ur r a,ur r b with|some i,some j=>some (.fn f i j)|_,_=>none
 |.agg l=>match ur r l with|some d=>some (.agg d)|none=>none
 |.bM l=>match ur r l with|some d=>some (.bM d)|none=>none
 |.aw l=>match ur r l with|some d=>some (.aw d)|none=>none
 |.psl h=>match za r h with|some d=>some (.psl d)|none=>none
 |v=>some v
def ur(r:List (Ky×Ky)):aj->Option aj
 |[]=>some []
 |v::l=>match nN r v,ur r l with|some b,some c=>some (b::c)|_,_=>none
def za(r:List (Ky×Ky)):aO->Option aO
 |[]=>some []
 |v::l=>match ur r v,za r l with|some b,some c=>some (b::c)|_,_=>none
end
def yG(r:List (Ky×Ky)):Tr HV->Option (Tr HV)
 |.lf=>some .lf
 |.nd none l m=>match yG r l,yG r m with|some b,some c=>some (.nd none b c)|_,_=>none
 |.nd (some v) l m=>match nN r v,yG r l,yG r m with|some d,some b,some c=>some (.nd (some d) b c)|_,_,_=>none
def G6(r:List (Ky×Ky)):List (HV×HV)->Option (List (HV×HV))
 |[]=>some []
 |(k,v)::l=>match nN r k,nN r v,G6 r l with|some b,some c,some d=>some ((b,c)::d)|_,_,_=>none
def Ca(r:List (Ky×Ky))(e:En):ay->Option En
 |[]=>some .nil
 |t::l=>match Ca r e l with
  |some b=>(match look e t with
   |some v=>(match nN r v with|some c=>some (.cons t c b)|none=>none)
   |none=>some b)
  |none=>none
def Cb(s:HS)(r:List (Ky×Ky)):List (Ky×Ky)->Option (Tr Ob×Tr cg×Tr (Nat×Nat)×List Ky)
 |[]=>some (.lf,.lf,.lf,[])
 |(o,k)::l=>match Cb s r l with
  |some (h,d,ty,b)=>(match ak s.h o with
   |some (.cells t f i g)=>bif iW g b then none else(match yG r t with
    |some j=>some (ax (some (.cells j f i k)) k h,ax (some [k]) k d,(match ak s.ty o with|some p=>ax (some p) k ty|none=>ty),g::b)
    |none=>none)
   |some (.mp m)=>(match G6 r m with
    |some c=>some (ax (some (.mp c)) k h,d,ty,b)
    |none=>none)
   |_=>none)
  |none=>none
def Ig(e:En):ay->cg
 |[]=>[]
 |t::l=>(match look e t with|some v=>ids v|none=>[])++Ig e l
def canon(keep:ay)(e:En)(s:HS):Option (En×HS):=match G5 s 500 (Ig e keep) []with
 |some b=>(match Ca (uq 0 b) e keep,Cb s (uq 0 b) (uq 0 b)with
  |some d,some (h,c,ty,_)=>some (d,{h:=h,nx:=yE (aM b),gr:=c,ty:=ty})
  |_,_=>none)
 |none=>none
inductive Ex where
 |normal|ret
 |exit (i:Nat)
inductive Task where
 |call (f:Nat) (args:aj) (s:HS)
 |round (l:Ky) (args:aj) (s:HS)
 |loop (c:HC) (e:En) (s:HS)
 |og (c:HC) (e:En) (s:HS)
inductive Out where
 |val (v:HV) (s:HS)
 |code (x:Ex) (e:En) (s:HS)
 |bad (why:Nat)
def Out.nO{β:Type}(o:Out)(f:HV->HS->β)(d:β):β:=Out.rec (motive:=λ_=>β) (λv s=>f v s) (λ_ _ _=>d) (λ_=>d) o
def Out.bY(o:Out)(f:En->HS->Out):Out:=Out.rec (motive:=λ_=>Out) (λ_ _=>o) (λx e s=>Ex.rec (motive:=λ_=>Out) (f e s) o (λ_=>o) x) (λ_=>o) o
def En.put(e:En)(d:bE)(v:HV):En:=Option.rec (motive:=λ_=>En) e (λn=>.cons n v e) d
def gL(outs:ay)(l:En):En->En:=List.rec (motive:=λ_=>En->En) (λe=>e) (λn _ ih e=>ih (bN (look l n) (λv=>e.p8 n v) e)) outs
def kD(e:En)(g:Option (Nat×Bool)):Option Bool:=
 Option.rec (motive:=λ_=>Option Bool) (some true) (λp=>match look e p.1 with|some (.bool q)=>some (q==p.2)|some .undef=>some false|_=>none) g
def one(ih:Task->Out)(o:aP)(e:En)(s:HS)(K:En->HS->Out):Out:=
 bN (kD e o.g) (λw=>Bool.rec (motive:=λ_=>Out) (K (e.put o.d .undef) s)
   (cR.rec (motive:=λ_=>Out) (λv s'=>K (e.put o.d v) s') (λf l=>(ih (.call f l s)).nO (λv s'=>K (e.put o.d v) s') (.bad 1)) (λf l=>(ih (.round f l s)).nO (λv s'=>K (e.put o.d v) s') (.bad 2)) (.bad 3) (cU o.op e s)) w) (.bad 4)
def lV(ih:Task->Out)(K:En->HS->Out)(l:List aP):En->HS->Out:=
 List.rec (motive:=λ_=>En->HS->Out) K (λo _ rest e s=>one ih o e s rest) l
def kG(ih:Task->Out)(K:En->HS->List HS->Out)(l:List dL):En->HS->List HS->Out:=
 List.rec (motive:=λ_=>En->HS->List HS->Out) K (λd _ rest e s vs=>one ih d.o e s (λe' s'=>rest e' s' (DK.rec (motive:=λ_=>List HS) vs (λ_ _=>vs) (vs++[s']) (vs++[s']) d.k))) l
def fw:HV->HV->Bool
 |.int k a,.int j b=>decide (k=j)&&mP a b
 |.bool a,.bool b=>a==b
 |.str a,.str b=>pY a b
 |.ah,.ah=>true
 |.dO,.dO=>true
 |.gG,.gG=>true
 |.fK,.fK=>true
 |.fQ,.fQ=>true
 |.ptr o k,.ptr p j=>o.beq p&&Nat.beq k j
 |.sl o a b c,.sl p d e f=>o.beq p&&Nat.beq a d&&Nat.beq b e&&Nat.beq c f
 |.mp o,.mp p=>o.beq p
 |.fn f a b,.fn g c d=>Nat.beq f g&&ij a c&&ij b d
 |.iR a,.iR b=>a.beq b
 |.agg a,.agg b=>ij a b
 |.bM a,.bM b=>ij a b
 |.aw a,.aw b=>ij a b
 |.psl a,.psl b=>qn a b
 |.undef,.undef=>true
 |_,_=>false
where
 ij:aj->aj->Bool
 |[],[]=>true
 |x::r,y::s=>fw x y&&ij r s
 |_,_=>false
 qn:aO->aO->Bool
 |[],[]=>true
 |x::r,y::s=>ij x y&&qn r s
 |_,_=>false
def gV(o:aP)(e:En)(n:Nat):List HS->Bool
 |[]=>true
 |s::r=>(match o.d with
   |some d=>(match look e d,cU o.op e s with
    |some v,.v u _=>fw v u
    |_,_=>false)
   |none=>false)&&(match n with|0=>true|m+1=>gV o e m r)
def bS(e:En)(vs:List HS):List dL->Bool
 |[]=>true
 |d::r=>(match d.k with
   |.l b c=>(match kD e d.o.g with|some true=>gV d.o e (c-b) (vs.drop b)|some false=>true|none=>false)
   |_=>true)&&bS e vs r
def NV(ih:Task->Out)(outs:ay)(main:List dL)(b:List aP)(e0:En)(s:HS):Out:=
 kG ih (λe s' d=>gD (bS e d main) (lV ih (λf c=>.code .normal (gL outs f e0) c) b e s') (.bad 14)) main e0 s [s]
def lg(ih:Task->Out)(x:X)(ps:ay)(iS body:HC)(e:En)(s:HS):Out:=
 match bp x e with
 |some (.fn f a b)=>(match ih (.call f (a++[HV.iR s.nx]++b) {h:=ax (some (.loop 0 none e ps iS body)) s.nx s.h,nx:=s.nx.succ,gr:=s.gr,ty:=s.ty})with
  |.val _ s2=>(match ak s2.h s.nx with
   |some (.loop d c ..)=>bif Nat.beq d 2 then .bad 15 else(match c with
    |none=>.code .normal e (s2.kill s.nx)
    |some .ret=>.code .ret e (s2.kill s.nx)
    |some (.exit i)=>.code (.exit i) e (s2.kill s.nx)
    |_=>.bad 5)
   |_=>.bad 5)
  |_=>.bad 6)
 |_=>.bad 7
def ev(ih:Task->Out)(c:HC):En->HS->Out:=
 HC.rec (motive:=λ_=>En->HS->Out)
  (λe s=>.code .normal e s) (λe s=>.code .ret e s) (λi e s=>.code (.exit i) e s)
  (λ_ _ d f e s=>(d e s).bY f)
  (λx _ _ d f e s=>bN (bp x e) (λv=>v.asBool (d e s) (f e s) (.bad 8)) (.bad 8))
  (λi _ g e s=>Out.rec (motive:=λ_=>Out) (λ_ _=>.bad 9) (λx e' s'=>Ex.rec (motive:=λ_=>Out) (.code .normal e' s') (.code .ret e' s') (λj=>gD (Nat.beq i j) (.code .normal e' s') (.code (.exit j) e' s')) x) (λw=>.bad w) (g e s))
  (λc g e s=>(g e s).bY (λe' s'=>ih (.loop c e' s')))
  (λouts l e s=>lV ih (λe' s'=>.code .normal (gL outs e' e) s') l e s)
  (λouts main b e s=>NV ih outs main b e s)
  (λx ps iS body _ _ e s=>lg ih x ps iS body e s)
  (λh e s=>bN (qa s e h) (λp=>.code .normal p.1 p.2) (.bad 50))
  (λt bm n e s=>bN (tC s e t bm n) (λs'=>.code .normal e s') (.bad 51))
  (λ_ _ _=>.bad 52) c
def bJ(ih:Task->Out)(c:HC):En->HS->Out:=
 HC.rec (motive:=λ_=>En->HS->Out)
  (λe s=>.code .normal e s) (λe s=>.code .ret e s) (λi e s=>.code (.exit i) e s)
  (λ_ _ d f e s=>(d e s).bY f)
  (λx _ _ d f e s=>bN (bp x e) (λv=>v.asBool (d e s) (f e s) (.bad 8)) (.bad 8))
  (λi _ g e s=>Out.rec (motive:=λ_=>Out) (λ_ _=>.bad 9) (λx e' s'=>Ex.rec (motive:=λ_=>Out) (.code .normal e' s') (.code .ret e' s') (λj=>gD (Nat.beq i j) (.code .normal e' s') (.code (.exit j) e' s')) x) (λw=>.bad w) (g e s))
  (λc g e s=>(g e s).bY (λe' s'=>ih (.og c e' s')))
  (λouts l e s=>lV ih (λe' s'=>.code .normal (gL outs e' e) s') l e s)
  (λouts main b e s=>NV ih outs main b e s)
  (λx ps iS body _ _ e s=>lg ih x ps iS body e s)
  (λh e s=>bN (qa s e h) (λp=>.code .normal p.1 p.2) (.bad 50))
  (λt bm n e s=>bN (tC s e t bm n) (λs'=>.code .normal e s') (.bad 51))
  (λkeep e s=>bN (canon keep e s) (λp=>.code .normal p.1 p.2) (.bad 52)) c
def bb(l:aj):Nat->En:=List.rec (motive:=λ_=>Nat->En) (λ_=>.nil) (λv _ ih i=>.cons i v (ih (Nat.succ i))) l
def oi(e:En):ay->aj->En
 |p::q,v::r=>.cons p v (oi e q r)
 |_,_=>e
def dN(e:En)(s:HS):List Rs->Option aj
 |[]=>some []
 |.tmp n::r=>match look e n,dN e s r with|some v,some l=>some (v::l)|_,_=>none
 |.cell n b::r=>match look e n with
  |some (.ptr o k)=>(match s.load o k b,dN e s r with|some v,some l=>some (v::l)|_,_=>none)
  |some (.aw c)=>(match lY (.aw c) b,dN e s r with|some v,some l=>some (v::l)|_,_=>none)
  |_=>none
def leave(F:HF)(e:En)(s:HS):Out:=match dN e s F.rs with|some [v]=>.val v s|some l=>.val (.bM l) s|none=>.bad 10
def s0:HS:={h:=.lf,nx:=.e,gr:=.lf,ty:=.lf}
def iX(F:HF)(ih:Task->Out)(args:aj):bO:=
 gD (Nat.beq (aM args) F.np) (match bJ ih F.c (bb args 0) s0 with
  |.code (.exit _) _ _=>none
  |.code _ e s=>(match leave F e s with
   |.val v s'=>(match vw s' 16 v with|some (b,_)=>some b|none=>none)
   |_=>none)
  |_=>none) none
def uu(f:HV->Bool):aj->Bool
 |[]=>true
 |v::r=>f v&&uu f r
def uH(s:HS):Nat->HV->Bool
 |0,_=>false
 |n+1,v=>bif eN v then true else(match v with
  |.sl o b len c=>bif Nat.beq len 0 then true else(match s.bz o b (len*c)with|some l=>uu (uH s n) l|none=>false)
  |.agg l=>uu (uH s n) l
  |.bM l=>uu (uH s n) l
  |_=>false)
def fL(F:HF)(ih:Task->Out)(args:aj):Bool:=
 match bJ ih F.c (bb args 0) s0 with
  |.code (.exit _) _ _=>false
  |.code _ e s=>(match leave F e s with
   |.val v s'=>uH s' 16 v
   |_=>false)
  |_=>false
def bP(F:HF)(ih:Task->Out)(args:aj)(s:HS):Out:=
  bif cj args then bN (iX F ih (bif da args then args else n9 args)) (λv=>.val v s) (.bad 40)else
    (match oe (vw s 16) args with
     |some (l,_)=>bN (iX F ih l) (λv=>bif eP v then .val v s else bif fL F ih l then .val v s else .bad 41) (.bad 42)
     |none=>.bad 43)
def dw(F:HF)(ih:Task->Out)(args:aj)(s:HS):Out:=
 gD (Nat.beq (aM args) F.np) (Out.rec (motive:=λ_=>Out) (λ_ _=>.bad 11) (λx e s'=>Ex.rec (motive:=λ_=>Out) (leave F e s') (leave F e s') (λ_=>.bad 12) x) (λw=>.bad w) (ev ih F.c (bb args 0) s)) (.bad 32)
def bu(P:Nat->Option HF)(ih:Task->Out)(f:Nat)(args:aj)(s:HS):Out:=
 bN (P f) (λF=>bif F.pu then bP F ih args s else dw F ih args s) (.bad 13)
structure jg where
 bt:Nat
 H9:Nat
 dk:Nat
 str:Nat
 fmt:Nat
 uI:bE:=none
 Ih:ay:=[]
def tD(L:jg)(args:aj)(s:HS):Out:=match args with
      |[.ptr o 0]=>(match ak s.ty o with
        |some (E,n)=>bif Nat.beq E L.bt&&Nat.beq n 2 then(match s.cell o 0 with
          |some .dO=>(match s.store o 0 [.ptr o 0]with|some s'=>.val .undef s'|none=>.bad 26)
          |some (.ptr p j)=>bif p.beq o&&Nat.beq j 0 then .val .undef s else .bad 27
          |_=>.bad 28)else .bad 30
        |none=>.bad 31)
      |_=>.bad 29
def lN(L:jg)(args:aj)(s:HS):Out:=match args with
      |[.ptr o 0]=>(match s.load o 1 none with
        |some .ah=>.val (.str []) s
        |some (.sl c 0 len _)=>(match ak s.ty c with
          |some (E,_)=>bif Nat.beq E L.H9&&(Nat.blt 0 len&&Nat.ble len 4611686018427387904)then(match s.bz c 0 len with
            |some l=>(match bytesOf l with
              |some b=>(match ak s.h c with
                |some (.cells _ _ _ g)=>(match ak s.gr g with
                  |some d=>.val (.str b) {h:=fh s.h d,nx:=s.nx,gr:=s.gr,ty:=s.ty}
                  |none=>.bad 33)
                |_=>.bad 34)
              |none=>.bad 20)
            |none=>.bad 21)else .bad 35
          |none=>.bad 36)
        |_=>.bad 23)
      |_=>.bad 24
def vy(args:aj)(s:HS):Out:=match args with|[.int .i64 (.ofNat n),.int .i64 (.ofNat b)]=>bif Nat.blt n 9223372036854775808&&Nat.beq b 10 then .val (.str (dI 25 n)) s else .bad 25|[.int .i64 (.negSucc n),.int .i64 (.ofNat b)]=>bif Nat.blt n 9223372036854775808&&Nat.beq b 10 then .val (.str (45::dI 25 (Nat.succ n))) s else .bad 25|_=>.bad 25
def lp(args:aj)(s:HS):Out:=match args with|[]=>.val (.bool true) s|_=>.bad 60
def Af(f:Nat)(l:ay):Bool:=List.rec (motive:=λ_=>Bool) false (λa _ r=>bif Nat.beq f a then true else r) l
def hH(L:jg)(f:Nat)(args:aj)(s:HS)(K:Out):Out:=bif Af f L.Ih then(match args with
      |[.psl []]=>.val (.psl []) s
      |_=>K)else K
def zb(L:jg)(f:Nat)(args:aj)(s:HS):(∀K,hH L f args s K=K)∨(Af f L.Ih=true/\args=[.psl []]/\∀K,hH L f args s K=.val (.psl []) s):=by
 unfold hH;cases Af f L.Ih with
 |false=>exact .inl λK=>rfl
 |true=>
  simp only[cond_true]
  split
  .exact .inr ⟨by simp,rfl,λK=>rfl⟩
  exact .inl λK=>rfl
def se(L:jg)(f:Nat)(args:aj)(s:HS)(K:Out):Out:=
 bif Nat.beq f L.dk then tD L args s else bif Nat.beq f L.str then lN L args s else bif Nat.beq f L.fmt then vy args s else bN L.uI (λt=>bif Nat.beq f t then lp args s else hH L f args s K) (hH L f args s K)
def kH(l:Ky)(d:Nat)(b:Option HC)(s:HS):Out:=match ak s.h l with|some (.loop _ _ e f c body)=>.val (.bool (Nat.beq d 0)) (s.aK l (.loop d b e f c body))|_=>.bad 16
def gx(ih:Task->Out)(l:Ky)(args:aj)(s:HS):Out:=match ak s.h l with
  |some (.loop _ _ e g d body)=>bif Nat.beq (aM args) (aM g)then(match ev ih d (oi e g args) s with
   |.code .normal k j=>(match ak j.h l with
    |some (.loop m n o f c b)=>bif Nat.beq m 0 then(match ev ih body k (j.aK l (.loop 2 n o f c b))with
     |.code .normal _ s2=>kH l 0 none s2
     |.code .ret _ s2=>kH l 1 (some .ret) s2
     |.code (.exit i) _ s2=>kH l 1 (some (.exit i)) s2
     |_=>.bad 11)else .bad 17
    |_=>.bad 18)
   |_=>.bad 12)else .bad 19
  |_=>.bad 13
def step(L:jg)(P:Nat->Option HF)(ih:Task->Out)(t:Task):Out:=
 Task.rec (motive:=λ_=>Out) (λf args s=>se L f args s (bu P ih f args s)) (λl args s=>gx ih l args s)
  (λc e s=>(ev ih c e s).bY (λe' s'=>ih (.loop c e' s')))
  (λc e s=>(bJ ih c e s).bY (λe' s'=>ih (.og c e' s'))) t
def run(L:jg)(P:Nat->Option HF)(n:Nat):Task->Out:=Nat.rec (motive:=λ_=>Task->Out) (λ_=>.bad 99) (λ_ ih=>step L P ih) n
def isTrue(o:Out):Bool:=o.nO (λv _=>v.asBool true false false) false
def Ky.toNat:Ky->Nat
 |.e=>0
 |.z k=>2*k.toNat+1
 |.o k=>2*k.toNat+2
def Ky.aV(k:Ky):k.succ.toNat=k.toNat+1:=by induction k with|e=>rfl|z k _=>rfl|o k b=>have:(Ky.o k).succ=.z k.succ:=rfl;rw[this];simp only[Ky.toNat,b];omega
def Ky.beq_iff(a:Ky):∀b:Ky,a.beq b=true↔a=b:=by
 induction a with
 |e=>intro b;cases b<;>simp[Ky.beq]
 |z a c=>intro b;cases b with|z b=>have:(Ky.z a).beq (.z b)=a.beq b:=rfl;rw[this,c];simp|_=>simp[Ky.beq]
 |o a c=>intro b;cases b with|o b=>have:(Ky.o a).beq (.o b)=a.beq b:=rfl;rw[this,c];simp|_=>simp[Ky.beq]
section Ow
variable{α:Type}
def vz(t:Tr α):ak t .e=tv t:=by cases t<;>rfl
def si(t:Tr α)(k:Ky):ak t (.z k)=ak (tl t) k:=by cases t<;>rfl
def sj(t:Tr α)(k:Ky):ak t (.o k)=ak (tr t) k:=by cases t<;>rfl
def af(x:Option α)(k:Ky):∀(t:Tr α) (j:Ky),ak (ax x k t) j=if j=k then x else ak t j:=by
 induction k with
 |e=>intro t j;have:ax x .e t=.nd x (tl t) (tr t):=rfl;rw[this];cases j with|e=>simp[vz,tv]|z j=>rw[si,si];simp[tl]|o j=>rw[sj,sj];simp[tr]
 |z k b=>intro t j;have:ax x (.z k) t=.nd (tv t) (ax x k (tl t)) (tr t):=rfl;rw[this];cases j with|e=>rw[vz,vz];simp[tv]|z j=>rw[si,si];have:=b (tl t) j;simp only[tl]at this ⊢;rw[this];simp|o j=>rw[sj,sj];simp[tr]
 |o k b=>intro t j;have:ax x (.o k) t=.nd (tv t) (tl t) (ax x k (tr t)):=rfl;rw[this];cases j with|e=>rw[vz,vz];simp[tv]|z j=>rw[si,si];simp[tl]|o j=>rw[sj,sj];have:=b (tr t) j;simp only[tr]at this ⊢;rw[this];simp
def uJ(k:Nat):fE (Tr.lf:Tr α) k=none:=rfl
def iD(v:Option α)(l r:Tr α)(k:Nat):fE (.nd v l r) k=if k=0 then v else if k%2=1 then fE l (k/2)else fE r ((k-1)/2):=by
 have h:fE (.nd v l r) k=Bool.rec (Bool.rec (fE r (Nat.div (Nat.pred k) 2)) (fE l (Nat.div k 2)) (Nat.beq (Nat.mod k 2) 1)) v (Nat.beq k 0):=rfl;rw[h];cases hk:Nat.beq k 0 with
 |true=>have:=nP hk;simp[this]
 |false=>
  have b:k≠0:=by rintro rfl;simp at hk
  simp only[b,bn];cases hm:Nat.beq (Nat.mod k 2) 1 with|true=>have:=nP hm;rw[ar (by exact this)];rfl|false=>rw[au (by intro h;have c:Nat.mod k 2=1:=h;rw[c]at hm;simp at hm)];rfl
def G7(x:Option α):∀(n k:Nat),k<n->∀j,fE (mN x n k) j=if j=k then x else none:=by
 intro n
 induction n with
 |zero=>intro k h;omega
 |succ n ih=>
  intro k hk j;have h:mN x (n+1) k=Bool.rec (Bool.rec (.nd none .lf (mN x n (Nat.div (Nat.pred k) 2))) (.nd none (mN x n (Nat.div k 2)) .lf) (Nat.beq (Nat.mod k 2) 1)) (.nd x .lf .lf) (Nat.beq k 0):=rfl;rw[h];cases c:Nat.beq k 0 with
  |true=>have:=nP c;subst this;simp only[iD,uJ];split<;>simp_all
  |false=>
   have g:k≠0:=by rintro rfl;simp at c
   have i:Nat.div k 2=k/2:=rfl;have l:Nat.div (Nat.pred k) 2=(k-1)/2:=rfl;cases hm:Nat.beq (Nat.mod k 2) 1 with
   |true=>
    have f:k%2=1:=nP hm;simp only[iD,uJ,i];rw[ih (k/2) (by omega)];by_cases h0:j=0
    .simp only[h0,bj];rw[au (by omega)]
    by_cases d:j%2=1
    .simp only[h0,d,bj,bn];by_cases b:j=k
     .rw[ar (by rw[b]),ar b]
     rw[au (by omega),au b]
    simp only[h0,d,bn];rw[au (by omega)]
   |false=>
    have f:k%2≠1:=by intro h;have m:Nat.mod k 2=1:=h;rw[m]at hm;simp at hm
    simp only[iD,uJ,l];rw[ih ((k-1)/2) (by omega)];by_cases h0:j=0
    .simp only[h0,bj];rw[au (by omega)]
    by_cases d:j%2=1
    .simp only[h0,d,bj,bn];rw[au (by omega)]
    simp only[h0,d,bn];by_cases b:j=k
    .rw[ar (by rw[b]),ar b]
    rw[au (by omega),au b]
def G8(x:Option α)(t:Tr α):∀(k j:Nat),fE (je x t k) j=if j=k then x else fE t j:=by
 induction t with
 |lf=>intro k j;exact G7 x (k+1) k (by omega) j
 |nd v l r f g=>
  intro k j;have h:je x (.nd v l r) k=Bool.rec (Bool.rec (.nd v l (je x r (Nat.div (Nat.pred k) 2))) (.nd v (je x l (Nat.div k 2)) r) (Nat.beq (Nat.mod k 2) 1)) (.nd x l r) (Nat.beq k 0):=rfl;rw[h];have m:Nat.div k 2=k/2:=rfl;have n:Nat.div (Nat.pred k) 2=(k-1)/2:=rfl;cases c:Nat.beq k 0 with
  |true=>have:=nP c;subst this;simp only[iD];split<;>simp_all
  |false=>
   have o:k≠0:=by rintro rfl;simp at c
   cases hm:Nat.beq (Nat.mod k 2) 1 with
   |true=>
    have i:k%2=1:=nP hm;simp only[iD,m];rw[f (k/2)];by_cases h0:j=0
    .simp only[h0,bj];rw[au (by omega)]
    by_cases d:j%2=1
    .simp only[h0,d,bj,bn];by_cases b:j=k
     .rw[ar (by rw[b]),ar b]
     rw[au (by omega),au b]
    simp only[h0,d,bn];rw[au (by omega)]
   |false=>
    have i:k%2≠1:=by intro h;have p:Nat.mod k 2=1:=h;rw[p]at hm;simp at hm
    simp only[iD,n];rw[g ((k-1)/2)];by_cases h0:j=0
    .simp only[h0,bj];rw[au (by omega)]
    by_cases d:j%2=1
    .simp only[h0,d,bj,bn];rw[au (by omega)]
    simp only[h0,d,bn];by_cases b:j=k
    .rw[ar (by rw[b]),ar b]
    rw[au (by omega),au b]
end Ow
def bB{α:Type}(l:List α):aM l=l.length:=by induction l with|nil=>rfl|cons x l b=>have:aM (x::l)=(aM l).succ:=rfl;rw[this,b];rfl
def vC{α:Type}(l:List α):∀k,y8 l k=l[k]?:=by
 induction l with
 |nil=>intro k;rfl
 |cons x l b=>intro k;cases k with|zero=>rfl|succ k=>have:y8 (x::l) (k+1)=y8 l k:=rfl;rw[this,b];simp
def fj(l:aj):∀(k:Nat) (t:Tr HV) (j:Nat),fE (cY l k t) j=if k<=j/\j<k+l.length then l[j-k]?else fE t j:=by
 induction l with
 |nil=>intro k t j;simp only[aE];rw[au (by omega)];rfl
 |cons v l d=>
  intro k t j;have:cY (v::l) k t=cY l (k+1) (je (some v) t k):=rfl;rw[this,d,G8];simp only[az];by_cases b:j=k
  .subst b;rw[au (by omega),ar rfl,ar (by omega)];simp
  by_cases c:k+1<=j/\j<k+1+l.length
  .rw[ar c,ar (by omega),show j-k=(j-(k+1))+1 by omega];simp
  rw[au c,au b,au (by omega)]
def G9{t:Tr HV}:∀{n k:Nat} {l:aj},mO t n k=some l->l.length=n/\∀i,i<n->fE t (k+i)=l[i]?:=by
 intro n
 induction n with
 |zero=>intro k l h;have:mO t 0 k=some []:=rfl;rw[this]at h;cases h;simp
 |succ n ih=>
  intro k l h;have he:mO t (n+1) k=Option.rec none (λv=>Option.rec none (λl=>some (v::l)) (mO t n (k+1))) (fE t k):=rfl;rw[he]at h;cases c:fE t k with
  |none=>rw[c]at h;cases h
  |some v=>
   cases d:mO t n (k+1)with
   |none=>rw[c,d]at h;cases h
   |some m=>rw[c,d]at h;cases h;obtain⟨a,b⟩:=ih d;refine⟨by simp[a],λi hi=>?_⟩;cases i with|zero=>simpa using c|succ i=>have:=b i (by omega);rw[show k+(i+1)=k+1+i by omega,this];simp
def dY(n:Nat)(v:HV)(r:En)(k:Nat):look (.cons n v r) k=if n=k then some v else look r k:=by have h:look (.cons n v r) k=Bool.rec (look r k) (some v) (Nat.beq n k):=rfl;rw[h];cases hb:Nat.beq n k with|true=>rw[ar (nP hb)]|false=>rw[au (by rintro rfl;simp at hb)]
def qX(e:En)(k:Nat)(x:HV)(j:Nat):look (e.p8 k x) j=if j=k then some x else look e j:=by
 induction e with
 |nil=>
  have h:En.p8 .nil k x=.cons k x .nil:=rfl;rw[h,dY];by_cases b:j=k
  .rw[ar b,ar b.symm]
  rw[au b,au (λe=>b e.symm)]
 |cons n v r ih=>
  have h:En.p8 (.cons n v r) k x=Bool.rec (.cons n v (r.p8 k x)) (.cons n x r) (Nat.beq n k):=rfl;rw[h];cases hb:Nat.beq n k with
  |true=>
   have:=nP hb;subst this;simp only[dY];by_cases b:j=n
   .simp[b]
   have c:¬n=j:=λe=>b e.symm
   simp[b,c]
  |false=>
   have d:n≠k:=by rintro rfl;simp at hb
   simp only[dY,ih];by_cases b:j=k
   .subst b;rw[au d,ar rfl,ar rfl]
   simp[b]
def oj(e:En)(d:bE)(v:HV)(j:Nat):look (e.put d v) j=if d=some j then some v else look e j:=by cases d with|none=>simp[En.put]|some n=>have:e.put (some n) v=.cons n v e:=rfl;rw[this,dY];simp
def qY(a b:Int):mP a b=true↔a=b:=by
 cases a with
 |ofNat x=>cases b with
  |ofNat y=>
   have:mP (.ofNat x) (.ofNat y)=Nat.beq x y:=rfl;rw[this];constructor
   .intro h;rw[nP h]
   intro h;cases h;exact qo x
  |negSucc y=>have:mP (.ofNat x) (.negSucc y)=false:=rfl;rw[this];simp
 |negSucc x=>cases b with|ofNat y=>have:mP (.negSucc x) (.ofNat y)=false:=rfl;rw[this];simp|negSucc y=>
   have:mP (.negSucc x) (.negSucc y)=Nat.beq x y:=rfl;rw[this];constructor
   .intro h;rw[nP h]
   intro h;cases h;exact qo x
def uK(a b:Int):mP a b=decide (a=b):=by
 by_cases h:a=b
 .rw[(qY a b).2 h];simp[h]
 cases c:mP a b with|true=>exact absurd ((qY a b).1 c) h|false=>simp[h]
def Ag(a b:Int):jU a b=decide (a<=b):=by
 cases a with
 |ofNat x=>cases b with
  |ofNat y=>
   have:jU (.ofNat x) (.ofNat y)=Nat.ble x y:=rfl;rw[this];by_cases h:x<=y
   .rw[zc h];simp[h]
   have:Nat.ble x y=false:=by cases c:Nat.ble x y with|true=>exact absurd (DU c) h|false=>rfl
   rw[this];simp;omega
  |negSucc y=>have:jU (.ofNat x) (.negSucc y)=false:=rfl;rw[this];simp;omega
 |negSucc x=>cases b with|ofNat y=>have:jU (.negSucc x) (.ofNat y)=true:=rfl;rw[this];simp;omega|negSucc y=>
   have:jU (.negSucc x) (.negSucc y)=Nat.ble y x:=rfl;rw[this];by_cases h:y<=x
   .rw[zc h];simp;omega
   have:Nat.ble y x=false:=by cases c:Nat.ble y x with|true=>exact absurd (DU c) h|false=>rfl
   rw[this];simp;omega
def oq:∀(a b:ay),pY a b=true↔a=b:=by
 intro a
 induction a with
 |nil=>intro b;cases b<;>simp[pY]
 |cons x a c=>intro b;cases b with|nil=>simp[pY]|cons y b=>
   simp only[pY,aL,c,qp];constructor
   .rintro⟨h,rfl⟩;exact⟨nP h,rfl⟩
   rintro⟨rfl,rfl⟩;exact⟨qo x,rfl⟩
def La(a b:Int):vx a b=a+b:=by unfold vx;split<;>rfl
def Lb(a b:Int):Ie a b=a-b:=by
 unfold Ie
 split
 .rename_i x y;cases h:Nat.ble y x with|true=>have:=DU h;simp only[cond_true];show(Int.ofNat (x-y))=_;simp;omega|false=>
   have:¬y<=x:=λc=>by rw[zc c]at h;cases h
   simp only[cond_false];show Int.negSucc (y-(x+1))=_;simp;omega
 rfl
def dS(s:ByteArray):ay:=s.data.toList.map UInt8.toNat
def Ah:HV->Value->Bool
 |.int k n,.int c d=>k==c&&n==d
 |.bool b,.bool f=>b==f
 |.str l,.string s=>dS s==l
 |.ah,.slice none 0 0=>true
 |.dO,.pointer none=>true
 |.gG,.nilFunc=>true
 |.fK,.map none=>true
 |.fQ,.nilIface=>true
 |_,_=>false
def iE:aj->List Value->Bool
 |[],[]=>true
 |x::r,y::s=>Ah x y&&iE r s
 |_,_=>false
def cO:X->Operand->Bool
 |.t n,.tmp m=>n==m
 |.k (.fn g [] []),.func h=>g==h
 |.k v,.const u=>Ah v u
 |_,_=>false
def fy:List X->List Operand->Bool
 |[],[]=>true
 |x::r,y::s=>cO x y&&fy r s
 |_,_=>false
def qb:Option X->Option Operand->Bool
 |none,none=>true
 |some x,some y=>cO x y
 |_,_=>false
def dD(P:Program)(t:TypeId):Option Bool:=match P.underlying t with|some (.struct _)|some (.array _ _)=>some true|some _=>some false|none=>none
def dB(P:Program)(t:TypeId):bE:=(P.info? t).map (·.size)
def qZ(P:Program)(t:TypeId)(z:aj):Bool:=match(P.info? t).bind (·.zero)with|some v=>iE z v.cells.toList|none=>false
def ou(P:Program)(t:TypeId)(bw:Nat):Bool:=match P.info? t with|some i=>decide (bw*i.bytes<=140737488355328)&&decide (bw<=140737488355328)|none=>false
def Uu(P:Program)(t:TypeId)(n:Nat):Bool:=match(P.info? t).bind (·.zero)with|some z=>z.cells.size==n|none=>false
def nQ(P:Program)(t:TypeId):Option TypeId:=match P.underlying t with|some (.slice e)=>some e|_=>none
def sk(P:Program)(g:TypeId->Option ay):List Field->Nat->Option ay
 |[],_=>some []
 |f::r,b=>if f.name != "_" &&f.offset==b then(match g f.type with
   |some l=>if dB P f.type==some l.length then(match sk P g r (b+l.length)with|some m=>some (l++m)|none=>none)else none
   |none=>none)else none
def eQ(P:Program):Nat->TypeId->Option ay
 |0,_=>none
 |d+1,t=>match P.underlying t with|some (.int _)=>some [0]|some .bool=>some [1]|some .string=>some [2]|some (.struct b)=>if P.stoodInHeld t then none else sk P (eQ P d) b.toList 0|_=>none
def eQ.vD(P:Program)(d:Nat)(l:List Field)(bm:Nat):Option ay:=sk P (eQ P d) l bm
def mQ(P:Program)(K:Kd)(t:TypeId):Bool:=eQ P 8 t==some K.ks&&dD P t==some K.ag
def eB(P:Program)(c:List Value):Nat->List Field->List Pc->List (Nat×Operand)->Nat->Bool
 |_,[],[],[],_=>true
 |i,f::d,.z z::g,l,b=>f.offset==b&&dB P f.type==some z.length&&iE z ((c.drop b).take z.length)&&eB P c (i+1) d g l (b+z.length)
 |i,f::d,.x o n::g,(j,y)::l,b=>f.offset==b&&dB P f.type==some n&&i==j&&cO o y&&eB P c (i+1) d g l (b+n)
 |_,_,_,_,_=>false
def sn:List Pc->Nat
 |[]=>0
 |.z z::r=>z.length+sn r
 |.x _ n::r=>n+sn r
def aX(P:Program):ll->Op->Bool
 |.mv x,.move y=>cO x y
 |.mv x,.assign y=>cO x y
 |.pick c a b,.pick N a' b'=>cO c N&&cO a a'&&cO b b'
 |.alloc z,.alloc t=>qZ P t z
 |.alb t z,.alloc t'=>t==t'&&qZ P t z
 |.box x,.box _ y=>cO x y
 |.fbx x,.box _ y=>cO x y
 |.bsl d q,.buildSlice t n B=>(match nQ P t with|some E=>dB P E==some d&&decide (n*d<=16777216)&&((P.info? E).bind (·.zero)).isSome|none=>false)&&n==q.length&&B.toList.map (·.1)==List.range n&&fy q (B.toList.map (·.2))
 |.fbl d q,.buildSlice t n B=>(match nQ P t with|some E=>dB P E==some d&&decide (n*d<=16777216)&&((P.info? E).bind (·.zero)).isSome|none=>false)&&n==q.length&&B.toList.map (·.1)==List.range n&&fy q (B.toList.map (·.2))
 |.build B,.build t l=>(match P.underlying t with|some (.struct I)=>(match(P.info? t).bind (·.zero)with|some z=>eB P z.cells.toList 0 I.toList B l.toList 0&&decide (z.cells.size=sn B)|none=>false)|_=>false)
 |.ld x none,.load t y=>cO x y&&dD P t==some false
 |.ld x (some n),.load t y=>cO x y&&dD P t==some true&&dB P t==some n
 |.st n x v,.store t y u=>cO x y&&cO v u&&dB P t==some n
 |.fa x O,.fieldAddr t y i=>cO x y&&(match P.underlying t with|some (.struct I)=>(match I[i]?with|some f=>f.offset==O&&(match dB P f.type with|some n=>n != 0|none=>false)|none=>false)|_=>false)
 |.ia x i d,.indexAddr t y j=>cO x y&&cO i j&&(match nQ P t with|some E=>dB P E==some d|none=>false)
 |.idx x i,.index t y j=>cO x y&&cO i j&&(match P.underlying t with|some .string=>true|_=>false)
 |.len k x,.call c=>(match c.callee with|.builtin .len=>true|_=>false)&&(match c.args.toList,c.argTypes.toList with|[y],[t]=>cO x y&&(match k,P.underlying t with|0,some (.slice _)=>true|1,some .string=>true|2,some (.map _ _)=>true|_,_=>false)|_,_=>false)
 |.bin bl op x y,.binOp D t h p _=>op==D&&cO x h&&cO y p&&(match P.underlying t with|some .bool=>bl|some (.int _)|some .string=> !bl|_=>false)
 |.un op x,.unOp D _ y=>op==D&&cO x y
 |.ext x i,.extract y j=>cO x y&&i==j
 |.cnv k x,.convert s t y=>cO x y&&(match P.underlying s,P.underlying t with|some _,some (.int r)=>k==r|_,_=>false)
 |.nck x,.nilCheck y=>cO x y
 |.mm m x y,.call c=>(match c.callee with|.builtin .max=>m|.builtin .min=> !m|_=>false)&&fy [x,y] c.args.toList
 |.mkf g I J,.makeFunc (.func g') Q V=>g==g'&&fy I Q.toList&&fy J V.toList
 |.app d o W x y,.call c=>(match c.callee with|.builtin .append=>true|_=>false)&&fy [x,y] c.args.toList&&(match c.argTypes.toList with
   |[t,u]=>(match nQ P t with|some E=>dB P E==some d&&ou P E o&&Uu P E d&&(match W with|some F=>E==F|none=>true)|none=>false)&&(match P.underlying u with|some (.slice _)=>true|_=>false)
   |_=>false)
 |.aps o W x y,.call c=>(match c.callee with|.builtin .append=>true|_=>false)&&fy [x,y] c.args.toList&&(match c.argTypes.toList with
   |[t,u]=>(match nQ P t with|some E=>dB P E==some 1&&ou P E o&&Uu P E 1&&(match W with|some F=>E==F|none=>true)|none=>false)&&(match P.underlying u with|some .string=>true|_=>false)
   |_=>false)
 |.mks d o z l c,.makeSlice t l' N=>cO l l'&&cO c N&&(match nQ P t with|some E=>dB P E==some d&&ou P E o&&qZ P E z&&z.length==d&&decide (o<=9223372036854775807)|none=>false)
 |.mkm,.makeMap _ none=>true
 |.lkp K m k z ok,.lookup t A r X=>cO m A&&cO k r&&ok==X&&(match P.underlying t with|some (.map T E)=>mQ P K T&&(match(P.info? E).bind (·.zero)with|some (.agg J)=>(match z with|.agg l=>iE l J.toList|_=>false)|some v=>Ah z v|none=>false)|_=>false)
 |.mup K m k v,.mapUpdate t A r L=>cO m A&&cO k r&&cO v L&&(match P.underlying t with|some (.map T _)=>mQ P K T|_=>false)
 |.mup K m k v,.insert t A r L=>cO m A&&cO k r&&cO v L&&(match P.underlying t with|some (.map T _)=>mQ P K T|_=>false)
 |.men K m k z,.mapEntry t A r=>cO m A&&cO k r&&(match P.underlying t with|some (.map T E)=>mQ P K T&&(match(P.info? E).bind (·.zero)with|some (.agg J)=>(match z with|.agg l=>iE l J.toList|_=>false)|some v=>Ah z v|none=>false)|_=>false)
 |.mes m i v,.entryStore _ A i' L=>cO m A&&cO i i'&&cO v L
 |.eqs K neg x y,.binOp op t h p _=>cO x h&&cO y p&&(match op with|.eql=> !neg|.neq=>neg|_=>false)&&mQ P K t&&K.ag&& !P.eqGuardType P.depth t
 |.niq k neg x,.binOp op t h p _=>(match op with|.eql=> !neg|.neq=>neg|_=>false)&&(match k,P.underlying t with
   |0,some (.slice _)=>(cO x h&&(match p with|.const (.slice none 0 0)=>true|_=>false))||(cO x p&&(match h with|.const (.slice none 0 0)=>true|_=>false))
   |1,some (.map _ _)=>(cO x h&&(match p with|.const (.map none)=>true|_=>false))||(cO x p&&(match h with|.const (.map none)=>true|_=>false))
   |2,some (.func _ _ _)=>(cO x h&&(match p with|.const .nilFunc=>true|_=>false))||(cO x p&&(match h with|.const .nilFunc=>true|_=>false))
   |3,some (.pointer _)=>(cO x h&&(match p with|.const (.pointer none)=>true|_=>false))||(cO x p&&(match h with|.const (.pointer none)=>true|_=>false))
   |_,_=>false)
 |.slc x Y Z mx d,.slice t h G H h1=>cO x h&&qb Y G&&qb Z H&&qb mx h1&&(match nQ P t with|some E=>dB P E==some d|none=>false)
 |.sls x Y Z,.slice t h G H none=>cO x h&&qb Y G&&qb Z H&&(match P.underlying t with|some .string=>true|_=>false)
 |.call f q,.call c=>(match c.callee with|.value (.func g)=>f==g|_=>false)&&fy q c.args.toList&&(match P.funcs[f]?with|some fn=>fn.body.isSome&&fn.name != "runtime.NumGoroutine" |none=>false)
 |.dyn x q,.call c=>(match c.callee with|.value y=>cO x y|_=>false)&&fy q c.args.toList
 |.cis x,.convert s t y=>cO x y&&(match P.underlying s,P.underlying t with|some (.int _),some .string=>true|_,_=>false)
 |.cbs x,.convert s t y=>cO x y&&(match P.underlying s,P.underlying t with|some (.slice e),some .string=>(match P.underlying e with|some (.int .u8)=>true|_=>false)|_,_=>false)
 |.csb x,.convert s t y=>cO x y&&(match P.underlying s,P.underlying t with|some .string,some (.slice e)=>(match P.underlying e with|some (.int .u8)=>true|_=>false)|_,_=>false)
 |.cpy d x y,.call c=>(match c.callee with|.builtin .copy=>true|_=>false)&&fy [x,y] c.args.toList&&(match c.argTypes.toList with
   |t::_=>(match nQ P t with|some E=>dB P E==some d|none=>false)
   |_=>false)
 |.clr d z x,.call c=>(match c.callee with|.builtin .clear=>true|_=>false)&&fy [x] c.args.toList&&(match c.argTypes.toList with
   |[t]=>(match nQ P t with|some E=>dB P E==some d&&qZ P E z&&z.length==d|none=>false)
   |_=>false)
 |.cvs x,.convert s t y=>cO x y&&(match P.underlying s,P.underlying t with|some .string,some .string=>true|_,_=>false)
 |.bad,_=>true
 |.cap _,_=>true
 |_,_=>false
def DV(lV:Array Oper):Option (Nat×Bool)->Option (Nat×Bool)->Bool
 |none,none=>true
 |some (t,b),some (j,c)=>b==c&&(match lV[j]?with|some o=>o.dst==some t|none=>false)
 |_,_=>false
def Uv(b:Nat):bE->Bool
 |some d=>d<b
 |none=>true
def Lc(keep outs:ay):bE->Bool
 |some d=>outs.contains d|| !keep.contains d
 |none=>true
def yH(P:Program)(b:Nat)(keep outs:ay)(lV:Array Oper)(o:aP)(go:Oper):Bool:=
 o.d==go.dst&&Uv b go.dst&&Lc keep outs go.dst&&aX P o.op go.op&&DV lV o.g go.guard
def ra(P:Program)(b:Nat)(keep outs:ay)(lV:Array Oper):List aP->List Oper->Bool
 |[],[]=>true
 |o::r,go::s=>yH P b keep outs lV o go&&ra P b keep outs lV r s
 |_,_=>false
def Ha(l keep:ay):Bool:=l.all keep.contains
structure Pl where
 b:Nat
 s:Nat
abbrev Bt:=Ky->Option Pl
def dh(w:World)(b k:Nat):Option Value:=w.cell? ⟨b,k,none⟩
def ik{w:World}{b k:Nat}{cs:Array Value}{E:TypeId}{fr:Nat×Nat}(h:w.heap[b]?=some (.cells cs E fr)):dh w b k=cs[k]?:=by simp[dh,World.cell?,h]
def mR{w w':World}{b k:Nat}(h:w'.heap[b]?=w.heap[b]?):dh w' b k=dh w b k:=by simp[dh,World.cell?,h]
def lt_of_block{w:World}{b:Nat}{o:Obj}(h:w.heap[b]?=some o):b<w.heap.size:=(rb.1 h).1
def re{w:World}{b k:Nat}{v:Value}(h:dh w b k=some v):b<w.heap.size:=by
 rcases jw b w.heap.size with c|d
 .exact c
 simp[dh,World.cell?,Array.getElem?_eq_none d]at h
def Ii(fr:Nat×Nat)(n:Nat):Prop:=fr=(0,0)∨n<=fr.1
def ov(w:World)(b:Nat)(E:TypeId)(n:Nat):Prop:=∃c d,w.heap[b]?=some (.cells c E d)/\c.size=n
def Has(w:World)(b n:Nat):Prop:=∃E,ov w b E n
def HV.one:HV->Bool
 |.agg _|.bM _|.undef=>false
 |_=>true
inductive HR(β:Bt)(N:aC)(w:World):HV->Value->Prop
 |int (k n):HR β N w (.int k n) (.int k n)
 |bool (b):HR β N w (.bool b) (.bool b)
 |str (s:ByteArray):HR β N w (.str (dS s)) (.string s)
 |ah:HR β N w .ah (.slice none 0 0)
 |dO:HR β N w .dO (.pointer none)
 |gG:HR β N w .gG .nilFunc
 |fK:HR β N w .fK (.map none)
 |fQ:HR β N w .fQ .nilIface
 |undef:HR β N w .undef Go.undef
 |ptr (o:Ky) (k:Nat) (pl:Pl) (h:β o=some pl) (hk:pl.s<=k):HR β N w (.ptr o k) (.pointer (some ⟨pl.b,k-pl.s,none⟩))
 |sl (o:Ky) (bm len sz cap n:Nat) (pl:Pl) (h:β o=some pl) (hs:pl.s<=bm) (hl:len<=cap) (hb:Has w pl.b n) (hc:bm-pl.s+cap*sz<=n):
   HR β N w (.sl o bm len sz) (.slice (some ⟨pl.b,bm-pl.s,none⟩) len cap)
 |pF (o:Ky) (bm sz:Nat) (b k:Nat):HR β N w (.sl o bm 0 sz) (.slice (some ⟨b,k,none⟩) 0 0)
 |mp (o:Ky) (pl:Pl) (h:β o=some pl):HR β N w (.mp o) (.map (some pl.b))
 |fn (f:FuncId) (fi ca:aj) (fs cps:Array Value) (h1:fs.size=fi.length) (h2:cps.size=ca.length)
   (h3:∀(i:Nat) (v:HV) (u:Value),fi[i]?=some v->fs[i]?=some u->HR β N w v u)
   (h4:∀(i:Nat) (v:HV) (u:Value),ca[i]?=some v->cps[i]?=some u->HR β N w v u):HR β N w (.fn f fi ca) (.func (.func f) fs cps)
 |iR (l:Ky) (pl:Pl) (h:β l=some pl):HR β N w (.iR l) (.func (.yield pl.b) #[] #[])
 |agg (l:aj) (cs:Array Value) (h0:∀v∈l,v.one=true) (h1:cs.size=l.length) (h2:∀(i:Nat) (v:HV) (u:Value),l[i]?=some v->cs[i]?=some u->HR β N w v u):HR β N w (.agg l) (.agg cs)
 |bM (l:aj) (cs:Array Value) (h1:cs.size=l.length) (h2:∀(i:Nat) (v:HV) (u:Value),l[i]?=some v->cs[i]?=some u->HR β N w v u):HR β N w (.bM l) (.tuple cs)
 |psl0 (A:Option Addr) (cap:Nat) (hn:A=none->cap=0):HR β N w (.psl []) (.slice A 0 cap)
 |psl (aq:aO) (b o cap sz:Nat) (g:Nat->Nat->Value) (hN:¬N b) (hlt:b<w.heap.size) (hcap:aq.length<=cap)
   (hsz:∀(i:Nat) (row:aj),aq[i]?=some row->row.length=sz) (h0:∀row∈aq,∀v∈row,v.one=true)
   (hc:∀i j,i<aq.length->j<sz->dh w b (o+(i*sz+j))=some (g i j))
   (hv:∀(i:Nat) (row:aj) (j:Nat) (a:HV),aq[i]?=some row->row[j]?=some a->HR β N w a (g i j)):
   HR β N w (.psl aq) (.slice (some ⟨b,o,none⟩) aq.length cap)
 |aw (cells:aj) (b o:Nat) (g:Nat->Value) (h0:∀v∈cells,v.one=true) (hN:¬N b) (hlt:b<w.heap.size)
   (hc:∀j,j<cells.length->dh w b (o+j)=some (g j))
   (hv:∀(j:Nat) (a:HV),cells[j]?=some a->HR β N w a (g j)):
   HR β N w (.aw cells) (.pointer (some ⟨b,o,none⟩))
structure cv(N:aC)(w w':World):Prop where
 size:w.heap.size<=w'.heap.size
 same:∀b,b<w.heap.size->¬N b->w'.heap[b]?=w.heap[b]?
 has:∀b E n,ov w b E n->ov w' b E n
def cv.refl(N:aC)(w:World):cv N w w:=⟨aW _,λ_ _ _=>rfl,λ_ _ _ h=>h⟩
def cv.cell{N:aC}{w w':World}{b k:Nat}{v:Value}(h:cv N w w')(d:¬N b)(c:dh w b k=some v):dh w' b k=some v:=by rw[mR (h.same b (re c) d)];exact c
def gM(c N:aC)(w:World):Prop:=∀b,b<w.heap.size->c b->N b
def gM.refl(N:aC)(w:World):gM N N w:=λ_ _ h=>h
def Bt.le(β b:Bt):Prop:=∀o pl,β o=some pl->b o=some pl
def Bt.le_refl(β:Bt):β.le β:=λ_ _ h=>h
def Bt.le_trans{a b c:Bt}(h:a.le b)(d:b.le c):a.le c:=λo pl x=>d o pl (h o pl x)
def HR.keep{β Q:Bt}{N T:aC}{w w':World}(B:β.le Q)(V:gM T N w)(q:cv N w w'){v:HV}{u:Value}(h:HR β N w v u):HR Q T w' v u:=by induction h with|int k n=>exact .int k n|bool b=>exact .bool b|str s=>exact .str s|ah=>exact .ah|dO=>exact .dO|gG=>exact .gG|fK=>exact .fK|fQ=>exact .fQ|undef=>exact .undef|ptr o k pl h D=>exact .ptr o k pl (B _ _ h) D|sl o m len r cap n pl h W X Y t=>exact .sl o m len r cap n pl (B _ _ h) W X (let⟨E,Z⟩:=Y;⟨E,q.has _ _ _ Z⟩) t|pF o m r b k=>exact .pF o m r b k|mp o pl h=>exact .mp o pl (B _ _ h)|fn f fi ca fs F y h2 _ _ G H=>exact .fn f fi ca fs F y h2 G H|iR l pl h=>exact .iR l pl (B _ _ h)|agg l I h0 y _ p=>exact .agg l I h0 y p|bM l I y _ p=>exact .bM l I y p|psl0 A cap hn=>exact .psl0 A cap hn|psl J b o cap r g c d z L h0 t hv p=>exact .psl J b o cap r g (λx=>c (V b d x)) (dZ d q.size) z L h0 (λi j hi O=>q.cell c (t i j hi O)) p|aw cells b o g h0 c d t hv p=>exact .aw cells b o g h0 (λx=>c (V b d x)) (dZ d q.size) (λj O=>q.cell c (t j O)) p
def eJ(β:Bt)(N:aC)(w:World)(l:aj)(vs:List Value):Prop:=vs.length=l.length/\∀(j:Nat) (v:HV) (u:Value),l[j]?=some v->vs[j]?=some u->HR β N w v u
def eJ.keep{β b:Bt}{N c:aC}{w w':World}(d:β.le b)(f:gM c N w)(g:cv N w w'){l:aj}{vs:List Value}(h:eJ β N w l vs):eJ b c w' l vs:=
 ⟨h.1,λj v u i k=>(h.2 j v u i k).keep d f g⟩
def eJ.nil{β:Bt}{N:aC}{w:World}:eJ β N w [] []:=⟨rfl,by simp⟩
def eJ.cons{β:Bt}{N:aC}{w:World}{v:HV}{u:Value}{l:aj}{f:List Value}(h:HR β N w v u)(g:eJ β N w l f):eJ β N w (v::l) (u::f):=by refine⟨by simp[g.1],λj a b c d=>?_⟩;cases j with|zero=>simp at c d;subst c;subst d;exact h|succ j=>exact g.2 j a b (by simpa using c) (by simpa using d)
def eJ.append{β:Bt}{N:aC}{w:World}{l l':aj}{vs b:List Value}(h:eJ β N w l vs)(g:eJ β N w l' b):eJ β N w (l++l') (vs++b):=by
 refine⟨by simp[h.1,g.1],λj p u d f=>?_⟩;rcases jw j l.length with c|c
 .rw[ea c]at d;rw[ea (by rw[h.1];exact c)]at f;exact h.2 j p u d f
 rw[iG c]at d;rw[iG (by rw[h.1];exact c),h.1]at f;exact g.2 _ p u d f
def eJ.split{β:Bt}{N:aC}{w:World}{v:HV}{l:aj}{vs:List Value}(h:eJ β N w (v::l) vs):∃u c,vs=u::c/\HR β N w v u/\eJ β N w l c:=by cases vs with|nil=>have:=h.1;simp at this|cons u c=>refine⟨u,c,rfl,h.2 0 v u rfl rfl,by have:=h.1;simpa using this,λj a b d f=>h.2 (j+1) a b (by simpa using d) (by simpa using f)⟩
def il(s:HS)(β:Bt)(b:Nat):Prop:=∃o ob pl,ak s.h o=some ob/\β o=some pl/\pl.b=b
def Live(M:aC)(s:HS)(β:Bt)(b:Nat):Prop:=M b∨il s β b
variable{M:aC}
def mS(β:Bt)(N:aC)(w:World)(keep:ay)(e:En)(tm:Array Value):Prop:=∀t v,look e t=some v->t∈keep/\HR β N w v (tm.getD t Go.undef)
def mS.keep{β b:Bt}{N c:aC}{w w':World}{keep:ay}{e:En}{tm:Array Value}(f:β.le b)(g:gM c N w)(i:cv N w w')(h:mS β N w keep e tm):mS b c w' keep e tm:=
 λt v d=>⟨(h t v d).1,(h t v d).2.keep f g i⟩
def Vn:Nat->LoopState
 |0=>.ready
 |2=>.busy
 |_=>.done
def DW:Option HC->Option (Option Code)
 |none=>some none
 |some .ret=>some (some .ret)
 |some (.exit i)=>some (some (.exit i))
 |_=>none
structure eK where
 rel:Nat->ay->HC->Code->Prop
 fx:Nat->Option Obj
inductive Cc(C:eK)(β:Bt)(N:aC)(w:World)(pl:Pl):Ob->Prop
 |cells (t:Tr HV) (lo hi:Nat) (g:Ky) (cs:Array Value) (E:TypeId) (fr:Nat×Nat) (hs:pl.s<=lo) (hb:w.heap[pl.b]?=some (.cells cs E fr)) (hf:Ii fr cs.size) (hn:hi-pl.s<=cs.size)
   (hc:∀k v,lo<=k->k<hi->fE t k=some v->v.one=true/\∃u,cs[k-pl.s]?=some u/\HR β N w v u):Cc C β N w pl (.cells t lo hi g)
 |mp (es:List (HV×HV)) (KY:Array MapEntry) (hb:w.heap[pl.b]?=some (.map KY es.length)) (hn:KY.size=es.length)
   (hc:∀(i:Nat) (k v:HV),es[i]?=some (k,v)->∃e,KY[i]?=some e/\HR β N w k e.key/\HR β N w v e.val/\e.born=i):Cc C β N w pl (.mp es)
 |loop (st:Nat) (vu:Option HC) (tm:En) (ps:ay) (iS body:HC) (r:Loop) (nt:Nat) (keep:ay) (hb:w.heap[pl.b]?=some (.loop r)) (iA:r.state=Vn st) (hp:DW vu=some r.pending)
   (htm:mS β N w keep tm r.tmps) (hnt:r.tmps.size=nt) (hps:r.params.toList=ps) (hk:∀p∈ps,p∈keep/\p<nt) (hnd:ps.Nodup) (ha:C.rel nt keep iS r.assign) (hbd:C.rel nt keep body r.body):Cc C β N w pl (.loop st vu tm ps iS body)
def Cc.keep{C:eK}{β L:Bt}{N O:aC}{w w':World}(m:β.le L)(n:gM O N w)(o:cv N w w'){pl:Pl}(f:w'.heap[pl.b]?=w.heap[pl.b]?){ob:Ob}(h:Cc C β N w pl ob):Cc C L O w' pl ob:=by cases h with|cells t Q p g T E V W j X x y=>exact .cells t Q p g T E V W (f.trans j) X x λk v Y Z h3=>let⟨q,u,a,b⟩:=y k v Y Z h3;⟨q,u,a,b.keep m n o⟩|mp es z j x y=>exact .mp es z (f.trans j) x λi k v p=>let⟨e,a,b,c,d⟩:=y i k v p;⟨e,a,b.keep m n o,c.keep m n o,d⟩|loop st l tm ps A body r nt keep j B hp D F G H I ha J=>exact .loop st l tm ps A body r nt keep (f.trans j) B hp (D.keep m n o) F G H I ha J
def yI(w:World)(b:Nat)(E:TypeId)(n:Nat):Prop:=∃m,ov w b E m/\(n=0∨m=n)
structure bW(M:aC)(C:eK)(β:Bt)(s:HS)(w:World):Prop where
 lt:∀o pl,β o=some pl->o.toNat<s.nx.toNat/\pl.b<w.heap.size
 obj:∀o ob,ak s.h o=some ob->∃pl,β o=some pl/\Cc C β (Live M s β) w pl ob
 apart:∀o o' ob jN pl pl',ak s.h o=some ob->ak s.h o'=some jN->β o=some pl->β o'=some pl'->o≠o'->pl.b=pl'.b->
  pl.s=pl'.s/\∃t lo hi g t' lo' hi',ob=.cells t lo hi g/\jN=.cells t' lo' hi' g
 qq:∀o t lo hi g,ak s.h o=some (.cells t lo hi g)->∃ms,ak s.gr g=some ms/\o∈ms
 uv:∀g ms,ak s.gr g=some ms->g.toNat<s.nx.toNat
 mlt:∀b,M b->b<w.heap.size
 sf:∀b,M b->¬il s β b
 yJ:∀o E n,ak s.ty o=some (E,n)->∃pl,β o=some pl/\yI w pl.b E n/\(n≠0->pl.s=0)
def yI.keep{N:aC}{w w':World}(c:cv N w w'){b:Nat}{E:TypeId}{n:Nat}(h:yI w b E n):yI w' b E n:=let⟨m,d,f⟩:=h;⟨m,c.has _ _ _ d,f⟩
def Live.lt{C:eK}{β:Bt}{s:HS}{w:World}(h:bW M C β s w){b:Nat}(c:Live M s β b):b<w.heap.size:=by
 rcases c with d|⟨o,ob,pl,_,f,rfl⟩
 .exact h.mlt b d
 exact(h.lt o pl f).2
structure Ext(M:aC)(β:Bt)(s:HS)(w:World)(β':Bt)(s':HS)(w':World):Prop where
 le:β.le β'
 keeps:cv (Live M s β) w w'
 less:gM (Live M s' β') (Live M s β) w
 os:w'.os=w.os
 tape:w'.tape=w.tape
 output:w'.output=w.output
 loops:∀(b:Nat) (r:Loop),w.heap[b]?=some (.loop r)->∃r',w'.heap[b]?=some (.loop r')
 nx:s.nx.toNat<=s'.nx.toNat
 ox:∀b,M b->w'.heap[b]?=w.heap[b]?
def Ext.refl(β:Bt)(s:HS)(w:World):Ext M β s w β s w:=⟨Bt.le_refl _,cv.refl _ _,gM.refl _ _,rfl,rfl,rfl,λ_ r h=>⟨r,h⟩,aW _,λ_ _=>rfl⟩
def Ext.trans{β β' c:Bt}{s s' s'':HS}{w w' d:World}(h:Ext M β s w β' s' w')(k:Ext M β' s' w' c s'' d):Ext M β s w c s'' d where
 le:=Bt.le_trans h.le k.le
 keeps:=⟨fz h.keeps.size k.keeps.size,λb hb f=>(k.keeps.same b (dZ hb h.keeps.size) (λx=>f (h.less b hb x))).trans (h.keeps.same b hb f),λb E n g=>k.keeps.has b E n (h.keeps.has b E n g)⟩
 less:=λb hb x=>h.less b hb (k.less b (dZ hb h.keeps.size) x)
 os:=k.os.trans h.os
 tape:=k.tape.trans h.tape
 output:=k.output.trans h.output
 loops:=λb r i=>let⟨j,l⟩:=h.loops b r i;k.loops b j l
 nx:=fz h.nx k.nx
 ox:=λb hm=>(k.ox b hm).trans (h.ox b hm)
def HR.ext{β b:Bt}{s s':HS}{w w':World}(h:Ext M β s w b s' w'){v:HV}{u:Value}(c:HR β (Live M s β) w v u):HR b (Live M s' b) w' v u:=c.keep h.le h.less h.keeps
def eJ.ext{β b:Bt}{s s':HS}{w w':World}(h:Ext M β s w b s' w'){v:aj}{u:List Value}(c:eJ β (Live M s β) w v u):eJ b (Live M s' b) w' v u:=c.keep h.le h.less h.keeps
def mS.ext{β b:Bt}{s s':HS}{w w':World}(h:Ext M β s w b s' w'){keep:ay}{e:En}{tm:Array Value}(c:mS β (Live M s β) w keep e tm):mS b (Live M s' b) w' keep e tm:=c.keep h.le h.less h.keeps
def jx(C:eK)(N:aC)(w:World):Prop:=∀b o,C.fx b=some o->w.heap[b]?=some o/\¬N b
def jx.ext{C:eK}{β d:Bt}{s s':HS}{w w':World}(h:Ext M β s w d s' w')(i:jx C (Live M s β) w):jx C (Live M s' d) w':=λb o j=>by obtain⟨f,g⟩:=i b o j;have c:=lt_of_block f;exact⟨(h.keeps.same b c g).trans f,λk=>g (h.less b c k)⟩
def Ij{w:World}{x:Obj}{b n:Nat}{E:TypeId}(h:ov w b E n):ov {w with heap:=w.heap.push x} b E n:=by obtain⟨d,f,c,g⟩:=h;refine⟨d,f,?_,g⟩;have:=lt_of_block c;show(w.heap.push x)[b]?=_;rw[Ik,au (by omega)];exact c
def gy(w:World)(x:Obj){b:Nat}(h:b<w.heap.size):({w with heap:=w.heap.push x}:World).heap[b]?=w.heap[b]?:=by show(w.heap.push x)[b]?=_;rw[Ik,au (by omega)]
def cv.push(N:aC)(w:World)(x:Obj):cv N w {w with heap:=w.heap.push x}:=
 ⟨by simp,λb c _=>gy w x c,λ_ _ _ h=>Ij h⟩
def Ext.push{w:World}(hm:∀b,M b->b<w.heap.size)(β:Bt)(s:HS)(x:Obj):Ext M β s w β s {w with heap:=w.heap.push x} where
 le:=Bt.le_refl _
 keeps:=cv.push _ _ _
 less:=gM.refl _ _
 os:=rfl
 tape:=rfl
 output:=rfl
 loops:=λb r c=>⟨r,by rw[gy w x (lt_of_block c)];exact c⟩
 nx:=aW _
 ox:=λb hb=>gy w x (hm b hb)
def bW.push{C:eK}{β:Bt}{s:HS}{w:World}(h:bW M C β s w)(x:Obj):bW M C β s {w with heap:=w.heap.push x} where
 lt:=λo pl ho=>⟨(h.lt o pl ho).1,by have:=(h.lt o pl ho).2;simp;omega⟩
 obj:=λo ob ho=>let⟨pl,c,d⟩:=h.obj o ob ho;⟨pl,c,d.keep (Bt.le_refl _) (gM.refl _ _) (cv.push _ _ _) (gy w x (h.lt o pl c).2)⟩
 apart:=h.apart
 qq:=h.qq
 uv:=h.uv
 mlt:=λb hb=>by have:=h.mlt b hb;simp;omega
 sf:=h.sf
 yJ:=λo E n ho=>let⟨pl,c,d,f⟩:=h.yJ o E n ho;⟨pl,c,d.keep (cv.push (λ_=>True) w x),f⟩
def bW.drawn{C:eK}{β:Bt}{s:HS}{w:World}(h:bW M C β s w){w':World}(c:w'.heap=w.heap):bW M C β s w':=by have i:cv (Live M s β) w w':=⟨by rw[c];exact aW _,λ_ _ _=>by rw[c],λb E n ⟨j,k,d,f⟩=>⟨j,k,by rw[c];exact d,f⟩⟩;exact⟨λo pl g=>by rw[c];exact h.lt o pl g,λo ob g=>let⟨pl,d,f⟩:=h.obj o ob g;⟨pl,d,f.keep (Bt.le_refl _) (gM.refl _ _) i (by rw[c])⟩,h.apart,h.qq,h.uv,λb l=>by rw[c];exact h.mlt b l,h.sf,λo E n g=>let⟨pl,d,f,m⟩:=h.yJ o E n g;⟨pl,d,f.keep i,m⟩⟩
def Ext.drawn{β:Bt}{s:HS}{w w':World}(c:w'.heap=w.heap)(d:w'.os=w.os)(f:w'.tape=w.tape)(g:w'.output=w.output):Ext M β s w β s w':=
 ⟨Bt.le_refl _,⟨by rw[c];exact aW _,λ_ _ _=>by rw[c],λb E n ⟨i,j,d,f⟩=>⟨i,j,by rw[c];exact d,f⟩⟩,gM.refl _ _,d,f,g,λ_ r h=>⟨r,by rw[c];exact h⟩,aW _,λ_ _=>by rw[c]⟩
def Bt.add(β:Bt)(o:Ky)(pl:Pl):Bt:=λk=>if k=o then some pl else β k
def Bt.jO{β:Bt}{o:Ky}{pl:Pl}(h:β o=none):β.le (β.add o pl):=λk p b=>by
 unfold Bt.add;split
 .rename_i e;subst e;rw[h]at b;cases b
 exact b
def bW.fresh{C:eK}{β:Bt}{s:HS}{w:World}(h:bW M C β s w):β s.nx=none:=by cases b:β s.nx with|none=>rfl|some pl=>exact absurd (h.lt _ _ b).1 (gF _)
def bW.dead{C:eK}{β:Bt}{s:HS}{w:World}(h:bW M C β s w):ak s.h s.nx=none:=by cases b:ak s.h s.nx with|none=>rfl|some ob=>obtain⟨pl,c,_⟩:=h.obj _ _ b;exact absurd (h.lt _ _ c).1 (gF _)
def bW.OF{C:eK}{β:Bt}{s:HS}{w:World}(h:bW M C β s w):ak s.gr s.nx=none:=by cases b:ak s.gr s.nx with|none=>rfl|some c=>exact absurd (h.uv _ _ b) (gF _)
def bW.Il{C:eK}{β:Bt}{s:HS}{w:World}(h:bW M C β s w){pl:Pl}{ty:Tr (Nat×Nat)}{j:Bt}(k:j=β.add s.nx pl)
  (f:ty=s.ty∨∃E n,ty=ax (some (E,n)) s.nx s.ty/\yI w pl.b E n/\(n≠0->pl.s=0)):
  ∀o E n,ak ty o=some (E,n)->∃pl,j o=some pl/\yI w pl.b E n/\(n≠0->pl.s=0):=by
 subst k;intro o E n d;rcases f with rfl|⟨p,q,rfl,g,i⟩
 .obtain⟨c,g,i⟩:=h.yJ o E n d;exact⟨c,Bt.jO h.fresh _ _ g,i⟩
 rw[af]at d;by_cases e:o=s.nx
 .rw[ar e]at d;cases d;exact⟨pl,by simp[Bt.add,e],g,i⟩
 rw[au e]at d;obtain⟨c,l,m⟩:=h.yJ o E n d;exact⟨c,Bt.jO h.fresh _ _ l,m⟩
def bW.Fx{C:eK}{β:Bt}{s:HS}{w:World}(h:bW M C β s w){b:Nat}(T:b<w.heap.size)(J:¬Live M s β b){ob:Ob}{gr:Tr cg}{ty:Tr (Nat×Nat)}(L:ty=s.ty∨∃E n,ty=ax (some (E,n)) s.nx s.ty/\yI w b E n)
  (N:Cc C (β.add s.nx ⟨b,0⟩) (λx=>x=b∨Live M s β x) w ⟨b,0⟩ ob)
  (V:∀o jN,ak s.h o=some jN->∃pl,β o=some pl/\Cc C β (λx=>x=b∨Live M s β x) w pl jN)
  (m:(∃t r u,ob=.cells t r u s.nx/\gr=ax (some [s.nx]) s.nx s.gr)∨((∀t r u g,ob≠ .cells t r u g)/\gr=s.gr)):
  bW M C (β.add s.nx ⟨b,0⟩) {h:=ax (some ob) s.nx s.h,nx:=s.nx.succ,gr:=gr,ty:=ty} w:=by
 have k:=h.fresh;have hle:β.le (β.add s.nx ⟨b,0⟩):=Bt.jO k;have j:∀x,Live M {h:=ax (some ob) s.nx s.h,nx:=s.nx.succ,gr:=gr,ty:=ty} (β.add s.nx ⟨b,0⟩) x->x=b∨Live M s β x:=by
  rintro x (H|⟨o,jN,pl,c,d,rfl⟩)
  .exact .inr (.inl H)
  simp only[af]at c;unfold Bt.add at d;by_cases f:o=s.nx
  .simp only[f,bj,bL]at d;subst d;exact .inl rfl
  simp only[f,bn]at c d;exact .inr (.inr ⟨o,jN,pl,c,d,rfl⟩)
 refine⟨λo pl f=>?_,λo jN f=>?_,λo I z A B D c d v p F q=>?_,λo t r u g f=>?_,λg G l=>?_,h.mlt,?_,h.Il (pl:=⟨b,0⟩) rfl (L.imp id λ⟨E,n,c,d⟩=>⟨E,n,c,d,λ_=>rfl⟩)⟩
 .unfold Bt.add at f;rw[Ky.aV];by_cases i:o=s.nx
  .simp only[i,bj,bL]at f;subst f;subst i;exact⟨by omega,T⟩
  simp only[i,bn]at f;have:=h.lt o pl f;omega
 .simp only[af]at f;by_cases i:o=s.nx
  .simp only[i,bj,bL]at f;subst f;subst i;exact⟨⟨b,0⟩,by simp[Bt.add],N.keep (Bt.le_refl _) (λx _ O=>j x O) (cv.refl _ _) rfl⟩
  simp only[i,bn]at f;obtain⟨pl,c,d⟩:=V o jN f;exact⟨pl,hle _ _ c,d.keep hle (λx _ O=>j x O) (cv.refl _ _) rfl⟩
 .simp only[af]at c d;unfold Bt.add at v p;by_cases Q:o=s.nx
  .simp only[Q,bj,bL]at c v;have y:I≠s.nx:=λy=>F (Q.trans y.symm)
   simp only[y,bn]at d p;subst v;exact absurd (.inr ⟨I,A,D,d,p,q.symm⟩) J
  simp only[Q,bn]at c v;by_cases y:I=s.nx
  .simp only[y,bj,bL]at d p;subst p;exact absurd (.inr ⟨o,z,B,c,v,q⟩) J
  simp only[y,bn]at d p;exact h.apart o I z A B D c d v p F q
 .simp only[af]at f;by_cases i:o=s.nx
  .simp only[i,bj,bL]at f;rcases m with⟨Y,W,X,c,rfl⟩|⟨c,_⟩
   .rw[c]at f;cases f;exact⟨[s.nx],by simp[af],by simp[i]⟩
   exact absurd f (c t r u g)
  simp only[i,bn]at f;obtain⟨G,c,d⟩:=h.qq o t r u g f;rcases m with⟨_,_,_,_,rfl⟩|⟨_,rfl⟩
  .refine⟨G,?_,d⟩;simp only[af];rw[au (λe=>by subst e;rw[h.OF]at c;cases c)];exact c
  exact⟨G,c,d⟩
 .rw[Ky.aV];rcases m with⟨_,_,_,_,rfl⟩|⟨_,rfl⟩
  .simp only[af]at l;by_cases i:g=s.nx
   .subst i;omega
   simp only[i,bn]at l;have:=h.uv g G l;omega
  have:=h.uv g G l;omega
 rintro x H ⟨o,jN,pl,c,d,rfl⟩
 simp only[af]at c;unfold Bt.add at d;by_cases f:o=s.nx
 .simp only[f,bj,bL]at d;subst d;exact J (.inl H)
 simp only[f,bn]at c d;exact h.sf _ H ⟨o,jN,pl,c,d,rfl⟩
def bW.newObj{C:eK}{β:Bt}{s:HS}{w:World}(h:bW M C β s w){x:Obj}{ob:Ob}{gr:Tr cg}{ty:Tr (Nat×Nat)}(j:ty=s.ty∨∃E n,ty=ax (some (E,n)) s.nx s.ty/\yI {w with heap:=w.heap.push x} w.heap.size E n)
  (k:Cc C (β.add s.nx ⟨w.heap.size,0⟩) (λb=>b=w.heap.size∨Live M s β b) {w with heap:=w.heap.push x} ⟨w.heap.size,0⟩ ob)
  (l:(∃t m p,ob=.cells t m p s.nx/\gr=ax (some [s.nx]) s.nx s.gr)∨((∀t m p g,ob≠ .cells t m p g)/\gr=s.gr)):
  bW M C (β.add s.nx ⟨w.heap.size,0⟩) {h:=ax (some ob) s.nx s.h,nx:=s.nx.succ,gr:=gr,ty:=ty} {w with heap:=w.heap.push x}/\
  Ext M β s w (β.add s.nx ⟨w.heap.size,0⟩) {h:=ax (some ob) s.nx s.h,nx:=s.nx.succ,gr:=gr,ty:=ty} {w with heap:=w.heap.push x}:=by
 have r:¬Live M s β w.heap.size:=λu=>gF _ (Live.lt h u)
 refine⟨(h.push x).Fx (by simp) r j k (λo c i=>?_) l,?_⟩
 .obtain⟨pl,f,d⟩:=h.obj o c i;refine⟨pl,f,d.keep (Bt.le_refl _) (λb q v=>v.resolve_left (by omega)) (cv.push _ _ _) (gy w x (h.lt o pl f).2)⟩
 refine⟨Bt.jO h.fresh,cv.push _ _ _,?_,rfl,rfl,rfl,(Ext.push h.mlt β s x).loops,by rw[Ky.aV];omega,(Ext.push h.mlt β s x).ox⟩
 rintro b q (y|⟨o,c,pl,f,d,rfl⟩)
 .exact .inl y
 simp only[af]at f;unfold Bt.add at d;by_cases i:o=s.nx
 .simp only[i,bj,bL]at d;subst d;exact absurd q (gF _)
 simp only[i,bn]at f d;exact .inr ⟨o,c,pl,f,d,rfl⟩
def bW.kill{C:eK}{β:Bt}{s:HS}{w:World}(h:bW M C β s w)(o:Ky):bW M C β {h:=ax none o s.h,nx:=s.nx,gr:=s.gr,ty:=s.ty} w:=by
 have m:∀b,Live M {h:=ax none o s.h,nx:=s.nx,gr:=s.gr,ty:=s.ty} β b->Live M s β b:=by
  rintro b (j|⟨i,ob,pl,c,d,rfl⟩)
  .exact .inl j
  simp only[af]at c
  split at c
  .cases c
  exact .inr ⟨i,ob,pl,c,d,rfl⟩
 refine⟨h.lt,λi ob f=>?_,λa b ob k pl l c d=>?_,λi t n p g f=>?_,h.uv,h.mlt,?_,h.yJ⟩
 rotate_right
 .rintro b j ⟨i,ob,pl,c,d,rfl⟩
  simp only[af]at c
  split at c
  .cases c
  exact h.sf _ j ⟨i,ob,pl,c,d,rfl⟩
 .simp only[af]at f
  split at f
  .cases f
  obtain⟨pl,c,d⟩:=h.obj i ob f;exact⟨pl,c,d.keep (Bt.le_refl _) (λb _ q=>m b q) (cv.refl _ _) rfl⟩
 .simp only[af]at c d
  split at c
  .cases c
  split at d
  .cases d
  exact h.apart a b ob k pl l c d
 simp only[af]at f
 split at f
 .cases f
 exact h.qq i t n p g f
def Ext.kill{β:Bt}{s:HS}{w:World}(o:Ky):Ext M β s w β {h:=ax none o s.h,nx:=s.nx,gr:=s.gr,ty:=s.ty} w:=by
 refine⟨Bt.le_refl _,cv.refl _ _,?_,rfl,rfl,rfl,λ_ r h=>⟨r,h⟩,aW _,λ_ _=>rfl⟩
 rintro b _ (d|⟨f,ob,pl,c,g,rfl⟩)
 .exact .inl d
 simp only[af]at c
 split at c
 .cases c
 exact .inr ⟨f,ob,pl,c,g,rfl⟩
@[simp]def Im{α β:Type}(f:α->β)(d:β):bN none f d=d:=rfl
@[simp]def dG{α β:Type}(a:α)(f:α->β)(d:β):bN (some a) f d=f a:=rfl
@[simp]def Vo{β:Type}(x y:β):gD true x y=x:=rfl
@[simp]def Uw{β:Type}(x y:β):gD false x y=y:=rfl
def jy{α:Type}{b:Bool}{x:Option α}{v:α}(h:gD b x none=some v):b=true/\x=some v:=by
 cases b with
 |true=>exact⟨rfl,h⟩
 |false=>cases h
def jz{α β:Type}{o:Option α}{f:α->Option β}{v:β}(h:bN o f none=some v):∃a,o=some a/\f a=some v:=by
 cases o with
 |none=>cases h
 |some a=>exact⟨a,rfl,h⟩
@[simp]def Ld(s:HS):rv s none=.bad:=rfl
@[simp]def Ai(s:HS)(v:HV):rv s (some v)=.v v s:=rfl
def Fy(n:Nat)(e:En):bp (.t n) e=look e n:=rfl
def NW(v:HV)(e:En):bp (.k v) e=some v:=rfl
def eb{a b:Nat}:Nat.ble a b=true↔a<=b:=⟨DU,zc⟩
def ch{a b:Nat}:Nat.blt a b=true↔a<b:=by unfold Nat.blt;rw[eb];rfl
def bh{a b:Nat}:Nat.beq a b=true↔a=b:=⟨nP,λh=>by subst h;exact qo a⟩
def Ob.mU{α:Type}{b:Ob}{f:Tr HV->Nat->Nat->Ky->Option α}{v:α}(h:b.uG f none=some v):∃t c d g,b=.cells t c d g/\f t c d g=some v:=by
 cases b with
 |cells t c d g=>exact⟨t,c,d,g,rfl,h⟩
 |mp i=>cases h
 |loop=>cases h
def HS.Hb{s:HS}{o:Ky}{k:Nat}{v:HV}(h:s.cell o k=some v):∃t c d g,ak s.h o=some (.cells t c d g)/\c<=k/\k<d/\fE t k=some v:=by obtain⟨b,f,i⟩:=jz h;obtain⟨t,c,d,g,rfl,j⟩:=Ob.mU i;obtain⟨l,m⟩:=jy j;obtain⟨n,p⟩:=jy m;exact⟨t,c,d,g,f,eb.1 l,ch.1 n,p⟩
def HS.jV{s:HS}{o:Ky}{k n:Nat}{l:aj}(h:s.bz o k n=some l):∃t c d g,ak s.h o=some (.cells t c d g)/\c<=k/\k+n<=d/\l.length=n/\∀i,i<n->fE t (k+i)=l[i]?:=by obtain⟨b,f,j⟩:=jz h;obtain⟨t,c,d,g,rfl,m⟩:=Ob.mU j;obtain⟨p,q⟩:=jy m;obtain⟨r,u⟩:=jy q;obtain⟨v,x⟩:=G9 u;exact⟨t,c,d,g,f,eb.1 p,eb.1 r,v,x⟩
def jA{α:Type}:∀(n:Nat) (l:List α),gE n l=l.take n
 |0,_=>by simp[gE]
 |_+1,[]=>by simp[gE]
 |n+1,x::r=>by simp[gE,jA n r]
def lZ{α:Type}:∀(n:Nat) (l:List α),ig n l=l.drop n
 |0,_=>by simp[ig]
 |_+1,[]=>by simp[ig]
 |n+1,x::r=>by simp[ig,lZ n r]
section sound
variable{M:aC}{C:eK}{P:Program}{β:Bt}{s:HS}{w:World}{e:En}{a:Act}
def dE(β:Bt)(N:aC)(w:World)(e:En)(a:Act):Prop:=∀t v,look e t=some v->HR β N w v (a.tmps.getD t Go.undef)
def dE.ext{b:Bt}{s':HS}{w':World}(h:Ext M β s w b s' w')(c:dE β (Live M s β) w e a):dE b (Live M s' b) w' e a:=λt v d=>(c t v d).ext h
def mV{v:HV}{u:Value}(h:Ah v u=true)(β:Bt)(N:aC)(w:World):HR β N w v u:=by
 unfold Ah at h
 split at h
 .simp only[aL,bR]at h;obtain⟨rfl,rfl⟩:=h;exact .int _ _
 .simp only[bR]at h;subst h;exact .bool _
 .simp only[bR]at h;subst h;exact .str _
 .exact .ah
 .exact .dO
 .exact .gG
 .exact .fK
 .exact .fQ
 cases h
def dC:∀{l:aj} {b:List Value} (_:iE l b=true) (β:Bt) (N:aC) (w:World),eJ β N w l b
 |[],[],_,_,_,_=>.nil
 |_::_,_::_,h,β,N,w=>by simp only[iE,aL]at h;exact .cons (mV h.1 β N w) (dC h.2 β N w)
 |[],_::_,h,_,_,_=>by simp[iE]at h
 |_::_,[],h,_,_,_=>by simp[iE]at h
def aD(i:dE β (Live M s β) w e a){x:X}{y:Operand}(b:cO x y=true){v:HV}(f:bp x e=some v):HR β (Live M s β) w v (a.eval y):=by
 cases x with
 |t n=>cases y<;>simp only[cO,cz,bR]at b;subst b;exact i _ _ f
 |k c=>
  rw[NW]at f;cases f;unfold cO at b
  split at b
  .rename_i d;cases d
  .rename_i g h d;have:=bR.1 b;subst this;cases d;exact .fn _ [] [] #[] #[] rfl rfl (by simp) (by simp)
  .rename_i d;cases d;exact mV b _ _ _
  cases b
def pG(x:X)(r:List X)(e:En):fY (x::r) e=(bp x e).bind λv=>(fY r e).bind λl=>some (v::l):=by
 have h:fY (x::r) e=Option.rec (motive:=λ_=>Option aj) none (λv=>Option.rec (motive:=λ_=>Option aj) none (λl=>some (v::l)) (fY r e)) (bp x e):=rfl;rw[h];cases bp x e with
 |none=>rfl
 |some v=>cases fY r e<;>rfl
def kI(d:dE β (Live M s β) w e a):∀{xs:List X} {ys:List Operand} (_:fy xs ys=true) {l:aj} (_:fY xs e=some l),eJ β (Live M s β) w l (ys.map a.eval):=by
 intro xs
 induction xs with
 |nil=>
  intro ys b l c;cases ys with
  |nil=>have:fY [] e=some []:=rfl;rw[this]at c;cases c;exact .nil
  |cons y r=>simp[fy]at b
 |cons x r f=>intro ys b l c;cases ys with|nil=>simp[fy]at b|cons y t=>simp only[fy,aL]at b;rw[pG]at c;simp only[nR,bL]at c;obtain⟨v,g,m,h,rfl⟩:=c;exact .cons (aD d b.1 g) (f b.2 h)
def cm(M:aC)(C:eK)(P:Program)(β:Bt)(s:HS)(w:World)(a:Act)(go:Oper):cR->Prop
 |.v v s'=>∃u d g,((execOp a.eval go).run P w=.ok (.value u) d∨((execOp a.eval go).run P w=.ok .skip d/\u=Go.undef))/\bW M C g s' d/\Ext M β s w g s' d/\HR g (Live M s' g) d v u
 |.call f args=>∃c:List Value,(execOp a.eval go).run P w=.ok (.enter f c.toArray) w/\eJ β (Live M s β) w args c
 |.round l args=>∃(pl:Pl) (c:List Value),β l=some pl/\eJ β (Live M s β) w args c/\∀r:Loop,w.heap[pl.b]?=some (.loop r)->r.params.size=c.length->
   (execOp a.eval go).run P w=.ok (.round pl.b r.fn ((r.params.zip c.toArray).foldl (λtmps (t,x)=>tmps.setIfInBounds t x) r.tmps) r.assign r.body) w
 |.bad=>True
def cm.val{go:Oper}{v:HV}{u:Value}(b:bW M C β s w)(h:(execOp a.eval go).run P w=.ok (.value u) w)(c:HR β (Live M s β) w v u):cm M C P β s w a go (.v v s):=
 ⟨u,w,β,.inl h,b,Ext.refl _ _ _,c⟩
def HR.one{N:aC}{v:HV}{u:Value}(h:HR β N w v u)(b:v.one=true):u.oneCell'=true:=by cases h<;>first|rfl|(simp[HV.one]at b)
def HR.single{N:aC}{v:HV}{u:Value}(h:HR β N w v u)(b:v.one=true):u.cells= #[u]:=by cases h<;>first|rfl|(simp[HV.one]at b)
def yK{v:HV}{l:aj}(h:cellsOf v=some l):(v.one=true/\l=[v])∨v=.agg l:=by
 cases v<;>first
  |(have:some _=some l:=h;cases this;exact .inl ⟨rfl,rfl⟩)
  |(have:some _=some l:=h;cases this;exact .inr rfl)
  |cases h
def HR.cells{N:aC}{v:HV}{u:Value}(h:HR β N w v u){l:aj}(c:cellsOf v=some l):eJ β N w l u.cells.toList/\∀x∈l,x.one=true:=by
 rcases yK c with⟨b,rfl⟩|rfl
 .rw[h.single b];exact⟨.cons h .nil,by simpa using b⟩
 cases h with|agg _ i h0 b d=>exact⟨⟨by simpa[Value.cells]using b,λj x y f g=>d j x y f (by simpa[Value.cells]using g)⟩,h0⟩
def eJ.Aj{N:aC}{l:aj}{c:List Value}(h:eJ β N w l c)(f:∀x∈l,x.one=true):∀u∈c,u.oneCell'=true:=by
 intro u g;obtain⟨i,d,rfl⟩:=oy g;have b:i<l.length:=by rw[<-h.1];exact d
 exact(h.2 i l[i] c[i] (aR b) (aR d)).one (f _ (cp b))
def j7{t:TypeId}{q:Bool}(b:dD P t=some q):(isAgg t).run P w=.ok q w:=by
 unfold dD at b;unfold isAgg underlying;cases c:P.underlying t with
 |none=>simp[c]at b
 |some d=>simp only[c]at b;cases d<;>simp at b<;>subst b<;>simp[c]
def fO{t:TypeId}{n:Nat}(b:dB P t=some n):(sizeOf t).run P w=.ok n w:=by unfold dB at b;unfold sizeOf typeInfo;cases c:P.info? t with|none=>simp[c]at b|some d=>simp[c]at b;simp[c,b]
def im{t E:TypeId}(b:nQ P t=some E):P.underlying t=some (.slice E):=by
 unfold nQ at b
 split at b
 .cases b;assumption
 cases b
def fZ(b k j:Nat):Addr.add ⟨b,k,none⟩ j=⟨b,k+j,none⟩:=by
 unfold Addr.add
 split
 .rename_i h;subst h;rfl
 rfl
def run_loadCellsFrom(P:Program)(w:World)(b o:Nat):∀(n i:Nat) (c:Array Value) (g:Nat->Value),(∀j,j<n->dh w b (o+(i+j))=some (g j))->
  (loadCellsFrom ⟨b,o,none⟩ i n c).run P w=.ok (c++Array.ofFn (n:=n) λj=>g j) w:=by
 intro n
 induction n with
 |zero=>intro i c g _;simp[loadCellsFrom]
 |succ n f=>
  intro i c g d;have h0:=d 0 (by omega);simp only[gH,dh]at h0;simp only[loadCellsFrom,Sem.run_bind,run_load,fZ,h0,Result.andThen_ok];rw[f (i+1) (c.push (g 0)) (λj=>g (j+1)) λj h=>by have:=d (j+1) (by omega);rw[show i+1+j=i+(j+1) by omega];exact this]
  congr 1
  apply so;simp[List.ofFn_succ]
def run_loadCells(P:Program)(w:World)(b o n:Nat)(g:Nat->Value)(c:∀j,j<n->dh w b (o+j)=some (g j)):(loadCells ⟨b,o,none⟩ n).run P w=.ok (Array.ofFn (n:=n) λj=>g j) w:=by
 have:=run_loadCellsFrom P w b o n 0 #[] g λj d=>by rw[bF];exact c j d
 simpa[loadCells]using this
def bW.bz(G:bW M C β s w){o:Ky}{pl:Pl}(q:β o=some pl){k n:Nat}{l:aj}(h:s.bz o k n=some l):
  pl.s<=k/\l.length=n/\(∀x∈l,x.one=true)/\∃g:Nat->Value,(∀j,j<n->dh w pl.b (k-pl.s+j)=some (g j))/\∀j v,l[j]?=some v->HR β (Live M s β) w v (g j):=by
 obtain⟨t,V,p,W,H,X,Y,z,I⟩:=HS.jV h;obtain⟨J,A,L⟩:=G.obj _ _ H;rw[q]at A;cases A;cases L with
 |cells _ _ _ _ B E Z hs N hf hn O=>
  have c:∀i,i<n->∃v,l[i]?=some v/\v.one=true/\∃u,B[k-pl.s+i]?=some u/\HR β (Live M s β) w v u:=by
   intro i p;have m:i<l.length:=by omega
   refine⟨l[i],aR m,?_⟩;have D:=I i p;rw[aR m]at D;have:=O (k+i) l[i] (by omega) (by omega) D;rw[show k+i-pl.s=k-pl.s+i by omega]at this;exact this
  refine⟨by omega,z,λx Q=>?_,λj=>B.getD (k-pl.s+j) Go.undef,λj T=>?_,λj v F=>?_⟩
  .obtain⟨i,p,rfl⟩:=oy Q;obtain⟨v,f,r,_⟩:=c i (by omega);rw[aR p]at f;cases f;exact r
  .obtain⟨v,f,r,u,d,_⟩:=c j T;rw[ik N,d];simp[fA,d]
  obtain⟨v',f,r,u,d,y⟩:=c j (by rw[<-z];exact(aS.1 F).1);rw[F]at f;cases f;simp only[fA,d,hU];exact y
def bW.cell(g:bW M C β s w){o:Ky}{pl:Pl}(c:β o=some pl){k:Nat}{v:HV}(h:s.cell o k=some v):
  pl.s<=k/\v.one=true/\∃u,dh w pl.b (k-pl.s)=some u/\HR β (Live M s β) w v u:=by
 obtain⟨t,z,A,B,i,j,l,m⟩:=HS.Hb h;obtain⟨n,f,p⟩:=g.obj _ _ i;rw[c]at f;cases f;cases p with|cells _ _ _ _ D E F G q H I r=>obtain⟨x,u,y,d⟩:=r k v j l m;exact⟨by omega,x,u,by rw[ik q,y],d⟩
def Vp(d:bW M C β s w)(f:dE β (Live M s β) w e a){go:Oper}{x:X}(c:aX P (.mv x) go.op=true):cm M C P β s w a go (Un x e s):=by
 unfold Un;cases g:bp x e with
 |none=>trivial
 |some v=>
  cases b:go.op<;>rw[b]at c<;>try cases c
  all_goals
   simp only[aX]at c;exact .val d (by simp[execOp,b]) (aD f c g)
def Le(i:bW M C β s w)(g:dE β (Live M s β) w e a){go:Oper}{c x y:X}(f:aX P (.pick c x y) go.op=true):cm M C P β s w a go (ln c x y e s):=by
 cases d:go.op<;>rw[d]at f<;>try cases f
 rename_i l n o;simp only[aX,aL]at f;unfold ln;cases m:bp c e with
 |none=>trivial
 |some v=>
  have j:=aD g f.1.1 m
  try simp only[dG]
  generalize k:a.eval l=u at j;cases j with
  |bool b=>
   cases b with
   |true=>show cm M C P β s w a go (rv s (bp x e));cases h:bp x e with|none=>trivial|some v=>exact .val i (by simp[execOp,d,k,asBool]) (aD g f.1.2 h)
   |false=>show cm M C P β s w a go (rv s (bp y e));cases h:bp y e with|none=>trivial|some v=>exact .val i (by simp[execOp,d,k,asBool]) (aD g f.2 h)
  |_=>trivial
def HR.Fz{N:aC}{l:aj}{g:Nat->Value}{k:Nat}(h:k<=l.length)(h0:∀v∈l,v.one=true)(f:∀j v,l[j]?=some v->HR β N w v (g j)):HR β N w (.agg (l.take k)) (.agg (Array.ofFn (n:=k) λj=>g j)):=by
 refine .agg _ _ (λv b=>h0 v (lr b)) (by simp;omega) λi v u b c=>?_
 have d:i<k:=by have:=(aS.1 b).1;simp at this;omega
 simp only[Array.getElem?_ofFn,d,dite_true,bL]at c;subst c;exact f i v (by rw[rh d]at b;exact b)
def ldT(P:Program)(t:TypeId):bE->Prop
 |none=>dD P t=some false
 |some k=>dD P t=some true/\dB P t=some k
def vE(y:bW M C β s w){t:TypeId}{n:bE}(f:ldT P t n){p:HV}{u:Value}(D:HR β (Live M s β) w p u){v:HV}
  (h:p.kB (λo k=>s.load o k n) (lY p n)=some v):∃A,u=.pointer (some A)/\∃z,(loadVar t A).run P w=.ok z w/\HR β (Live M s β) w v z:=by
 cases D with
 |ptr o k pl i J=>
  have q:s.load o k n=some v:=h;refine⟨_,rfl,?_⟩;cases n with
  |none=>have d:s.cell o k=some v:=q;obtain⟨_,_,z,c,r⟩:=y.cell i d;exact⟨z,by simp only[dh]at c;simp[loadVar,j7 f,c],r⟩
  |some m=>have d:bN (s.bz o k m) (λl=>some (.agg l)) none=some v:=q;obtain⟨l,c,r⟩:=jz d;cases r;obtain⟨L,N,E,g,F,G⟩:=y.bz i c;refine⟨.agg (Array.ofFn (n:=m) λj=>g j),by simp[loadVar,j7 f.1,fO f.2,run_loadCells P w _ _ _ g F],?_⟩;have:=HR.Fz (k:=m) (by omega) E G;rwa[iH (by omega)]at this
 |aw cells b o g h0 O H x B=>
  have q:lY (.aw cells) n=some v:=h;refine⟨_,rfl,?_⟩;cases n with
  |none=>have d:y8 cells 0=some v:=q;rw[vC]at d;have c:=x 0 (aS.1 d).1;simp only[gH,dh]at c;exact⟨g 0,by simp[loadVar,j7 f,c],B 0 v d⟩
  |some m=>
   have d:gD (Nat.ble m (aM cells)) (some (.agg (gE m cells))) none=some v:=q;obtain⟨c,r⟩:=jy d;cases r;rw[eb,bB]at c;have I:=run_loadCells P w b o m g λj Q=>x j (by omega)
   refine⟨.agg (Array.ofFn (n:=m) λj=>g j),by simp[loadVar,j7 f.1,fO f.2,I],?_⟩;rw[jA];exact HR.Fz c h0 B
 |_=>cases h
def Cd(p:HV)(f:Ky->Nat->bO)(d:bO):p.kB (λo k=>rv s (f o k)) (rv s d)=rv s (p.kB f d):=by cases p<;>rfl
def OG{x:X}:∀{n:bE} {op:Op} (_:aX P (.ld x n) op=true),∃t y,op=.load t y/\cO x y=true/\ldT P t n
 |none,.load t y,b=>by simp only[aX,aL,bR]at b;exact⟨_,_,rfl,b.1,b.2⟩
 |some k,.load t y,b=>by simp only[aX,aL,bR]at b;exact⟨_,_,rfl,b.1.1,b.1.2,b.2⟩
def Vq(c:bW M C β s w)(d:dE β (Live M s β) w e a){go:Oper}{x:X}{n:bE}(f:aX P (.ld x n) go.op=true):cm M C P β s w a go (NR x n e s):=by
 obtain⟨t,y,b,g,h⟩:=OG f;unfold NR;cases i:bp x e with
 |none=>trivial
 |some p=>have j:=aD d g i;show cm M C P β s w a go (p.kB (λo k=>rv s (s.load o k n)) (rv s (lY p n)));rw[Cd];cases l:p.kB (λo k=>s.load o k n) (lY p n)with|none=>trivial|some v=>obtain⟨u,m,z,q,r⟩:=vE (P:=P) c h j l;exact .val c (by simp[execOp,b,m,Instr.loadAt,Instr.sureAddr,q]) r
def Vr(B:bW M C β s w)(E:dE β (Live M s β) w e a){go:Oper}{x:X}{bm:Nat}(c:aX P (.fa x bm) go.op=true):cm M C P β s w a go (H8 x bm e s):=by
 cases h:go.op<;>rw[h]at c<;>try cases c
 rename_i t y i;simp only[aX,aL]at c;obtain⟨F,c⟩:=c;have key:∀b k,a.eval y=.pointer (some ⟨b,k,none⟩)->(execOp a.eval go).run P w=.ok (.value (.pointer (some ⟨b,k+bm,none⟩))) w:=by
  intro b k d
  split at c
  .rename_i N m
   split at c
   .rename_i f G;simp only[aL,bR]at c;obtain⟨rfl,c⟩:=c
    split at c
    .rename_i n H;have q:n≠0:=by simpa using c
     simp[execOp,h,d,Instr.fieldAt,underlying,m,G,Instr.sureAddr,fieldPlace,fO H,q,fZ]
    cases c
   cases c
  cases c
 unfold H8;cases I:bp x e with
 |none=>trivial
 |some p=>
  have d:=aD E F I
  try simp only[dG]
  generalize D:a.eval y=u at d;cases d with
  |ptr o k pl r O=>refine .val (v:=.ptr o (k+bm)) B (key _ _ D) ?_;rw[show k-pl.s+bm=k+bm-pl.s by omega];exact .ptr o (k+bm) pl r (by omega)
  |aw cells b o g h0 J z A d=>
   show cm M C P β s w a go (rv s (gD (Nat.ble bm (aM cells)) (some (.aw (ig bm cells))) none));cases L:Nat.ble bm (aM cells)with
   |false=>trivial
   |true=>
    rw[eb,bB]at L;refine .val (v:=.aw (ig bm cells)) B (key _ _ D) ?_;rw[lZ];refine .aw _ _ _ (λj=>g (bm+j)) (λv d=>h0 v (OH d)) J z (λj l=>?_) λj v l=>?_
    .rw[Io]at l;rw[OI];exact A _ (by omega)
    rw[l6]at l;exact d _ _ l
  |_=>trivial
def Vs(I:bW M C β s w)(he:dE β (Live M s β) w e a){go:Oper}{x i:X}{sz:Nat}(hc:aX P (.ia x i sz) go.op=true):cm M C P β s w a go (BX x i sz e s):=by
 cases h:go.op<;>rw[h]at hc<;>try cases hc
 rename_i t y j;simp only[aX,aL]at hc;obtain⟨⟨hx,hi⟩,hc⟩:=hc
 split at hc
 case h_2=>cases hc
 rename_i E hE;have hs:=bR.1 hc;have hE:=im hE;have key:∀b k len cap f (n:Nat),a.eval y=.slice (some ⟨b,k,none⟩) len cap->a.eval j=.int f (.ofNat n)->n<len->(execOp a.eval go).run P w=.ok (.value (.pointer (some ⟨b,k+n*sz,none⟩))) w:=by
  intro b k len cap f n hv B D;have hlt:(Int.ofNat n)<(len:Int):=by simpa using D
  have h0:(0:Int)<=Int.ofNat n:=by simp
  simp only[execOp,h,hv,B];simp[Instr.indexAt,asIntOf,underlying,hE,D,fO hs,fZ]
 unfold BX;cases D:bp x e with
 |none=>trivial
 |some p=>
  have hv:=aD he hx D
  try simp only[dG]
  generalize J:a.eval y=u at hv;have l:∀(o:Ky) (bm len DJ:Nat),cm M C P β s w a go (HV.Oz (.sl o bm len DJ) (λo bm len DJ=>bN (bp i e) (λq=>q.asInt (λ_ z=>Int.rec (motive:=λ_=>cR) (λn=>gD (Nat.blt n len) (gD (Nat.beq sz DJ) (.v (.ptr o (Nat.add bm (Nat.mul n sz))) s) .bad) .bad) (λ_=>.bad) z) .bad) .bad) (rv s (Uq (.sl o bm len DJ) (bp i e) sz)))↔
    cm M C P β s w a go (bN (bp i e) (λq=>q.asInt (λ_ z=>Int.rec (motive:=λ_=>cR) (λn=>gD (Nat.blt n len) (gD (Nat.beq sz DJ) (.v (.ptr o (Nat.add bm (Nat.mul n sz))) s) .bad) .bad) (λ_=>.bad) z) .bad) .bad):=λ_ _ _ _=>Iff.rfl
  cases hv with
  |sl o bm len DJ cap n pl F N hl hb O=>
   refine(l _ _ _ _).2 ?_;cases m:bp i e with
   |none=>trivial
   |some q=>
    have A:=aD he hi m
    try simp only[dG]
    generalize d:a.eval j=Q at A;cases A with
    |int f z=>
     cases z with
     |negSucc z=>trivial
     |ofNat z=>
      show cm M C P β s w a go (gD (Nat.blt z len) (gD (Nat.beq sz DJ) (.v (.ptr o (bm+z*sz)) s) .bad) .bad);cases c:Nat.blt z len with
      |false=>trivial
      |true=>cases h4:Nat.beq sz DJ with|false=>trivial|true=>rw[ch]at c;refine .val (v:=.ptr o (bm+z*sz)) I (key _ _ _ _ _ _ J d c) ?_;rw[show bm-pl.s+z*sz=bm+z*sz-pl.s by omega];exact .ptr o _ pl F (by omega)
    |_=>trivial
  |pF o bm DJ b k=>
   refine(l _ _ _ _).2 ?_;cases m:bp i e with
   |none=>trivial
   |some q=>
    try simp only[dG]
    cases q with
    |int f z=>
     cases z with
     |negSucc z=>trivial
     |ofNat z=>show cm M C P β s w a go (gD (Nat.blt z 0) (gD (Nat.beq sz DJ) (.v (.ptr o (bm+z*sz)) s) .bad) .bad);cases c:Nat.blt z 0 with|false=>trivial|true=>rw[ch]at c;omega
    |_=>trivial
  |psl0=>
   show cm M C P β s w a go (rv s (Uq (.psl []) (bp i e) sz));cases m:bp i e with
   |none=>trivial
   |some q=>
    cases q with
    |int f z=>cases z<;>trivial
    |_=>trivial
  |psl aq b o cap DJ g T hlt hcap hsz h0 G hv=>
   show cm M C P β s w a go (rv s (Uq (.psl aq) (bp i e) sz));cases m:bp i e with
   |none=>trivial
   |some q=>
    have A:=aD he hi m;generalize d:a.eval j=Q at A;cases A with
    |int f z=>
     cases z with
     |negSucc z=>trivial
     |ofNat z=>
      show cm M C P β s w a go (rv s (match y8 aq z with|some r=>gD (Nat.beq (aM r) sz) (some (.aw r)) none|none=>none));rw[vC];cases c:aq[z]?with
      |none=>trivial
      |some row=>
       simp only[];cases h4:Nat.beq (aM row) sz with
       |false=>trivial
       |true=>
        rw[bh,bB]at h4;have L:=(aS.1 c).1;have h5:=hsz z row c;refine .val (v:=.aw row) I (key _ _ _ _ _ _ J d L) ?_;have:sz=DJ:=by omega
        subst this;refine .aw row b _ (λH=>g z H) (h0 row (cG c)) T hlt (λH B=>?_) λH v B=>hv _ _ _ _ c B
        rw[OI];exact G _ _ L (by omega)
    |_=>trivial
  |_=>trivial
end sound
def zd{s s':ByteArray}(h:s.toList=s'.toList):s=s':=by rw[ByteArray.toList_eq,ByteArray.toList_eq]at h;cases s;cases s';simp only[ByteArray.mk.injEq];exact OJ.1 h
def Ce{s s':ByteArray}(h:dS s=dS s'):s=s':=by apply zd;rw[ByteArray.toList_eq,ByteArray.toList_eq];exact(Ip (λa b c=>Iq.1 c)).1 h
def ga(s:ByteArray):(dS s).length=s.size:=by unfold dS;rw[bG,Array.length_toList];rfl
def Cf(s s':ByteArray):dS (s++s')=dS s++dS s':=by unfold dS;rw[ByteArray.data_append,Array.toList_append,fB]
def Cg:∀a b:List UInt8,tB (a.map UInt8.toNat) (b.map UInt8.toNat)=Op.bytesLess a b
 |[],[]=>rfl
 |[],_::_=>rfl
 |_::_,[]=>rfl
 |a::x,b::y=>by
  simp only[cx,tB,Op.bytesLess];rw[Cg x y];have d:Nat.blt a.toNat b.toNat=decide (a<b):=by
   by_cases h:a<b
   .rw[ch.2 (ze.1 h)];simp[h]
   cases c:Nat.blt a.toNat b.toNat with|true=>exact absurd (ze.2 (ch.1 c)) h|false=>simp[h]
  have f:Nat.beq a.toNat b.toNat=(a==b):=by
   by_cases h:a=b
   .subst h;simp
   cases c:Nat.beq a.toNat b.toNat with|true=>exact absurd (Iq.1 (bh.1 c)) h|false=>simp[h]
  rw[d,f];by_cases h:a<b<;>simp[h]
def DX(s s':ByteArray):tB (dS s) (dS s')=Op.bytesLess s.toList s'.toList:=by unfold dS;rw[Cg,ByteArray.toList_eq,ByteArray.toList_eq]
def sq(s s':ByteArray):pY (dS s) (dS s')=(s.toList==s'.toList):=by
 by_cases h:s=s'
 .subst h;rw[(oq _ _).2 rfl];simp
 cases b:pY (dS s) (dS s')with|true=>exact absurd (Ce ((oq _ _).1 b)) h|false=>symm;simp only[beq_eq_false_iff_ne,ne_eq];exact λe=>h (zd e)
def uw(a b:List UInt8):(!Op.bytesLess b a)=(Op.bytesLess a b||a==b):=by
 induction a generalizing b with
 |nil=>cases b<;>simp[Op.bytesLess]
 |cons x a i=>
  cases b with
  |nil=>simp[Op.bytesLess]
  |cons y b=>
   simp only[Op.bytesLess];rcases DY x.toNat y.toNat with h|h|h
   .have d:x<y:=ze.2 h;have f:¬y<x:=λc=>by have:=ze.1 c;omega
    have j:¬y=x:=λc=>by subst c;omega
    have g:¬x=y:=λc=>by subst c;omega
    simp[d,f,j]
   .have:=Iq.1 h;subst this;have d:¬x<x:=λc=>by have:=ze.1 c;omega
    have:=i b;simp only[d,kJ,vG,DZ,iI,List.cons_beq_cons];exact this
   have d:y<x:=ze.2 h;have f:¬x<y:=λc=>by have:=ze.1 c;omega
   have g:¬x=y:=λc=>by subst c;omega
   simp[d,f,g]
def wrap64(n:Int)(f: -9223372036854775808<=n)(g:n<9223372036854775808):IntKind.i64.wrap n=n:=by
 have b:((2:Int)^IntKind.i64.bits)=18446744073709551616:=rfl;have c:((2:Int)^(IntKind.i64.bits-1))=9223372036854775808:=rfl;have d:IntKind.i64.signed=true:=rfl;unfold IntKind.wrap;simp only[b,c,d,iI,bX]
 split<;>omega
def Ir(m:Nat)(h:m<9223372036854775808):IntKind.i64.wrap (Int.ofNat m)=Int.ofNat m:=by rw[mW];exact wrap64 _ (by omega) (by omega)
def Is(m:Nat)(h:m<9223372036854775808):IntKind.i64.wrap (Int.negSucc m)=Int.negSucc m:=wrap64 _ (by rw[OK];omega) (by rw[OK];omega)
def zf{q:Bool}{a b:Int}(h:q=true->a=b):(bif q then a else b)=b:=by cases q with|false=>rfl|true=>exact h rfl
def ri(k:IntKind)(n:Int):bQ k n=k.wrap n:=by
 unfold bQ
 split
 .exact zf λb=>(Ir _ (ch.1 b)).symm
 .exact zf λb=>(Is _ (ch.1 b)).symm
 rfl
def It(k:IntKind)(d:jf k=true)(m b:Nat)(h:m<9223372036854775808)(o:b<9223372036854775808):
  k.wrap ((BitVec.ofInt k.bits (Int.ofNat m)&&& BitVec.ofInt k.bits (Int.ofNat b)).toNat:Int)=Int.ofNat (Nat.land m b):=by
 have c:k.bits=64:=by cases k<;>simp[jf]at d<;>rfl
 have p:m&&& b<=m:=Nat.and_le_left;have f:(BitVec.ofInt k.bits (Int.ofNat m)&&& BitVec.ofInt k.bits (Int.ofNat b)).toNat=m&&& b:=by rw[c];rw[BitVec.toNat_and,mW,mW,BitVec.ofInt_natCast,BitVec.ofInt_natCast,BitVec.toNat_ofNat,BitVec.toNat_ofNat,D0 (by omega),D0 (by omega)]
 rw[f];have g:Nat.land m b=m&&& b:=rfl;rw[g,mW];have i:((2:Int)^k.bits)=18446744073709551616:=by rw[c];rfl
 have j:((2:Int)^(k.bits-1))=9223372036854775808:=by rw[c];rfl
 unfold IntKind.wrap;simp only[i,j];have l:(((m&&& b:Nat):Int)%18446744073709551616)=((m&&& b:Nat):Int):=by omega
 rw[l]
 split
 .rename_i n;simp only[aL,bX]at n;omega
 rfl
def OL(a b:Int):decide (a<b)= !decide (b<=a):=by by_cases h:b<=a<;>simp[h]<;>omega
def jB:Obj->Bool
 |.cells .. =>false
 |_=>true
def eC{P:Program}{w:World}{r:Nat}{o:Obj}(h:w.heap[r]?=some o)(b:jB o=true):(getObj r).run P w=.ok o w:=by unfold getObj;simp only[Sem.run,h];cases o<;>first|rfl|(simp[jB]at b)
section sound
variable{M:aC}{C:eK}{P:Program}{β:Bt}{s:HS}{w:World}{e:En}{a:Act}
def OM(k:bW M C β s w)(he:dE β (Live M s β) w e a){go:Oper}{x i:X}(hc:aX P (.idx x i) go.op=true):cm M C P β s w a go (hIdx x i e s):=by
 cases f:go.op<;>rw[f]at hc<;>try cases hc
 rename_i t l m;simp only[aX,aL]at hc;obtain⟨⟨hx,hi⟩,hc⟩:=hc
 split at hc
 case h_2=>cases hc
 rename_i ht;unfold hIdx;cases o:bp x e with
 |none=>trivial
 |some p=>
  have hv:=aD he hx o;generalize r:a.eval l=u at hv;cases hv with
  |str b=>
   show cm M C P β s w a go (bN (bp i e) (λq=>q.asInt (λ_ z=>Int.rec (motive:=λ_=>cR) (λn=>bN (y8 (dS b) n) (λb=>.v (.int .u8 (.ofNat b)) s) .bad) (λ_=>.bad) z) .bad) .bad);cases y:bp i e with
   |none=>trivial
   |some q=>
    have j:=aD he hi y;generalize g:a.eval m=B at j;cases j with
    |int D z=>
     cases z with
     |negSucc z=>trivial
     |ofNat z=>
      show cm M C P β s w a go (bN (y8 (dS b) z) (λb=>.v (.int .u8 (.ofNat b)) s) .bad);rw[vC];cases d:(dS b)[z]?with
      |none=>trivial
      |some c=>
       have hlt:z<b.size:=by rw[<-ga];exact(aS.1 d).1
       have A:b[z]?=some b[z]:=getElem?_pos b z hlt;have h:c=b[z].toNat:=by
        unfold dS at d;rw[fR]at d;have hl:z<b.data.toList.length:=by simpa using hlt
        rw[aR hl]at d;simp only[lO,bL]at d;rw[<-d];rfl
       subst h;refine .val (v:=.int .u8 (.ofNat b[z].toNat)) k ?_ (.int _ _);simp[execOp,f,r,g,Instr.index,asIntOf,underlying,ht,A]
    |_=>trivial
  |_=>trivial
def ON(l:bW M C β s w)(N:dE β (Live M s β) w e a){go:Oper}{k:Nat}{x:X}(i:aX P (.len k x) go.op=true):cm M C P β s w a go (B3 k x e s):=by
 cases j:go.op<;>rw[j]at i<;>try cases i
 rename_i I;simp only[aX,aL]at i;obtain⟨J,i⟩:=i
 split at J
 case h_2=>cases J
 rename_i d
 split at i
 case h_2=>cases i
 rename_i y t O Q;simp only[aL]at i;obtain⟨T,i⟩:=i;have c:I.args= #[y]:=by rw[<-Array.toList_inj];exact O
 have f:I.argTypes= #[t]:=by rw[<-Array.toList_inj];exact Q
 unfold B3;cases V:bp x e with
 |none=>trivial
 |some p=>
  have m:=aD N T V;show cm M C P β s w a go (bN (K9 k s p) (λn=>.v (.int .i64 (.ofNat n)) s) .bad);generalize B:a.eval y=u at m
  split at i
  .rename_i E q;have key:∀A n cap,u=.slice A n cap->(execOp a.eval go).run P w=.ok (.value (.int .i64 n)) w:=by intro A n cap m;simp[execOp,j,resolve,d,c,f,invoke,builtin,Builtin.len_,underlying,q,B,m,goInt]
   cases m with|ah=>exact .val (v:=.int .i64 (.ofNat 0)) l (key _ _ _ rfl) (.int _ _)|sl o W len Y cap n pl r hs hl z D=>exact .val (v:=.int .i64 (.ofNat len)) l (key _ _ _ rfl) (.int _ _)|pF=>exact .val (v:=.int .i64 (.ofNat 0)) l (key _ _ _ rfl) (.int _ _)|psl0=>exact .val (v:=.int .i64 (.ofNat 0)) l (key _ _ _ rfl) (.int _ _)|psl F b o cap Y g=>refine .val (v:=.int .i64 (.ofNat (aM F))) l (key _ _ _ rfl) ?_;rw[bB];exact .int _ _|_=>trivial
  .rename_i q;cases m with
   |str b=>
    refine .val (v:=.int .i64 (.ofNat (aM (dS b)))) (u:=.int .i64 b.size) l ?_ ?_
    .simp[execOp,j,resolve,d,c,f,invoke,builtin,Builtin.len_,underlying,q,B,goInt]
    rw[bB,ga];exact .int _ _
   |_=>trivial
  .rename_i K E q;cases m with
   |fK=>exact .val (v:=.int .i64 (.ofNat 0)) (u:=.int .i64 0) l (by simp[execOp,j,resolve,d,c,f,invoke,builtin,Builtin.len_,underlying,q,B,goInt]) (.int _ _)
   |mp o pl r=>
    show cm M C P β s w a go (bN (match ak s.h o with|some (.mp G)=>some (aM G)|_=>none) (λn=>.v (.int .i64 (.ofNat n)) s) .bad);cases Z:ak s.h o with
    |none=>trivial
    |some ob=>
     obtain⟨h5,L,h4⟩:=l.obj _ _ Z;rw[r]at L;cases L;cases h4 with
     |mp G H z hn D=>
      refine .val (v:=.int .i64 (.ofNat (aM G))) (u:=.int .i64 H.size) l ?_ ?_
      .simp[execOp,j,resolve,d,c,f,invoke,builtin,Builtin.len_,underlying,q,B,goInt,eC z rfl]
      rw[bB,hn];exact .int _ _
     |_=>trivial
   |_=>trivial
  cases i
def Lf{l:Bool}{op:BinOp}{t:TypeId}{p q r:HV}{u v:Value}{x y:Operand}{N:aC}(h:GR l op p q=some r)(I:HR β N w p u)(o:HR β N w q v)
  (G:(match P.underlying t with|some .bool=>l|some (.int _)|some .string=> !l|_=>false)=true):
  ∃z,(do eqGuard op t x y u v;binOp op t u v:Sem Value).run P w=.ok z w/\HR β N w r z:=by
 cases I with
 |int k m=>
  cases o with
  |int A d=>
   have f:(eqGuard op t x y (.int k m) (.int A d)).run P w=.ok () w:=by unfold eqGuard;cases op<;>rfl
   by_cases i:op=.shr∨op=.shl
   .have H:∀k:IntKind,jf k=true->k.bits=64:=by intro k n;cases k<;>simp[jf]at n<;>rfl
    cases m with
    |negSucc m=>rcases i with rfl|rfl<;>cases h
    |ofNat m=>
     cases d with
     |negSucc d=>rcases i with rfl|rfl<;>cases h
     |ofNat d=>
      rcases i with rfl|rfl
      .have c:(bif Nat.blt d 64&&jf k then some (HV.int k (.ofNat (Nat.shiftRight m d)))else none)=some r:=h;cases g:(Nat.blt d 64&&jf k)with
       |false=>rw[g]at c;cases c
       |true=>
        rw[g]at c;cases c;simp only[aL,ch]at g;refine⟨_,?_,HR.int _ _⟩;simp only[Sem.run_bind,f,Result.andThen_ok];have B:min (Int.ofNat d).toNat k.bits=d:=by rw[H k g.2];simp;omega
        have D:(Int.ofNat m).fdiv (2^d)=Int.ofNat (Nat.shiftRight m d):=by have E:Nat.shiftRight m d=m/2^d:=Nat.shiftRight_eq_div_pow m d;rw[E,mW,Int.fdiv_eq_ediv_of_nonneg _ (by exact_mod_cast fm _)];simp
        have F:¬(Int.ofNat d<0):=by simp
        simp only[binOp,Op.shift,au F,B,D,Sem.run_pure]
      have c:(bif Nat.blt d 64&&jf k then some (HV.int k (bQ k (.ofNat (Nat.shiftLeft m d))))else none)=some r:=h;cases g:(Nat.blt d 64&&jf k)with
      |false=>rw[g]at c;cases c
      |true=>
       rw[g]at c;cases c;simp only[aL,ch]at g;refine⟨_,?_,HR.int _ _⟩;simp only[Sem.run_bind,f,Result.andThen_ok];have B:min (Int.ofNat d).toNat k.bits=d:=by rw[H k g.2];simp;omega
       have D:(Int.ofNat m)*(2^d)=Int.ofNat (Nat.shiftLeft m d):=by have E:Nat.shiftLeft m d=m*2^d:=Nat.shiftLeft_eq m d;rw[E];simp
       have F:¬(Int.ofNat d<0):=by simp
       simp only[binOp,Op.shift,au F,B,D,Sem.run_pure,ri]
   have c:(bif decide (k=A)then OA op k m d else none)=some r:=by cases op<;>first|exact h|(exact absurd (.inl rfl) i)|(exact absurd (.inr rfl) i)
   by_cases n:k=A
   case neg=>simp[n]at c
   subst n;simp only[eO,cond_true]at c;by_cases hand:op=.and
   .subst hand;cases m with
    |negSucc m=>cases c
    |ofNat m=>
     cases d with
     |negSucc d=>cases c
     |ofNat d=>
      have c:(bif Nat.blt m 9223372036854775808&&Nat.blt d 9223372036854775808&&jf k then some (HV.int k (.ofNat (Nat.land m d)))else none)=some r:=c;cases g:(Nat.blt m 9223372036854775808&&Nat.blt d 9223372036854775808&&jf k)with
      |false=>rw[g]at c;cases c
      |true=>rw[g]at c;cases c;simp only[aL,ch]at g;obtain⟨⟨J,L⟩,O⟩:=g;refine⟨_,?_,HR.int _ _⟩;simp only[Sem.run_bind,f,Result.andThen_ok];have key:k.wrap ((BitVec.ofInt k.bits (Int.ofNat m)&&& BitVec.ofInt k.bits (Int.ofNat d)).toNat:Int)=Int.ofNat (Nat.land m d):=It k O m d J L;simp only[binOp,Op.intBits,ne_eq,not_true_eq_false,bn,key,Sem.run_pure]
   cases op<;>simp only[OA,bL,reduceCtorEq,La,Lb,ri,uK,Ag]at c
   case and=>exact absurd rfl hand
   case add=>subst c;refine⟨_,?_,HR.int _ _⟩;simp only[Sem.run_bind,f,Result.andThen_ok];simp[binOp,Op.intArith]
   case sub=>subst c;refine⟨_,?_,HR.int _ _⟩;simp only[Sem.run_bind,f,Result.andThen_ok];simp[binOp,Op.intArith]
   case mul=>subst c;refine⟨_,?_,HR.int _ _⟩;simp only[Sem.run_bind,f,Result.andThen_ok];simp[binOp,Op.intArith]
   case quo=>
    by_cases h0:d=0
    .simp[h0]at c
    simp only[h0,kJ,cond_false,bL]at c;subst c;refine⟨_,?_,HR.int _ _⟩;simp only[Sem.run_bind,f,Result.andThen_ok];simp[binOp,Op.intDiv,h0]
   case rem=>
    by_cases h0:d=0
    .simp[h0]at c
    simp only[h0,kJ,cond_false,bL]at c;subst c;refine⟨_,?_,HR.int _ _⟩;simp only[Sem.run_bind,f,Result.andThen_ok];simp[binOp,Op.intDiv,h0]
   all_goals
    subst c;refine⟨_,?_,HR.bool _⟩;simp only[Sem.run_bind,f,Result.andThen_ok];simp[binOp,Op.intCmp,bne,OL]
    try rfl
  |_=>cases h
 |bool b=>
  cases o with
  |bool j=>
   have f:(eqGuard op t x y (.bool b) (.bool j)).run P w=.ok () w:=by unfold eqGuard;cases op<;>rfl
   have c:(bif l then OB op b j else none)=some r:=h;cases l with
   |false=>cases c
   |true=>
    simp only[cond_true]at c;have Q:P.underlying t=some .bool:=by split at G<;>first|assumption|cases G
    cases op<;>simp only[OB,bL,reduceCtorEq]at c<;>subst c
    all_goals (refine⟨.bool _,?_,HR.bool _⟩;simp only[Sem.run_bind,f,Result.andThen_ok];simp[binOp,run_equal_bool,Q,bne];done)
  |_=>cases h
 |str b=>
  cases o with
  |str j=>
   have f:(eqGuard op t x y (.string b) (.string j)).run P w=.ok () w:=by unfold eqGuard;cases op<;>rfl
   have c:OC op (dS b) (dS j)=some r:=h;cases op<;>simp only[OC,bL,reduceCtorEq,sq,DX]at c
   case add=>
    obtain⟨hle,c⟩:=jy c;simp only[bL]at c;subst c;rw[bB,bB,ga,ga,eb]at hle;have hle:b.size+j.size<=9223372036854775807:=hle;refine⟨.string (b++j),?_,by rw[<-Cf];exact HR.str _⟩;simp only[Sem.run_bind,f,Result.andThen_ok];have T:¬(((b.size+j.size:Nat):Int)>IntKind.i64.max):=by have:IntKind.i64.max=9223372036854775807:=rfl;rw[this];omega
    simp only[binOp,Op.stringOp];rw[au T];rfl
   all_goals
    subst c;refine⟨.bool _,?_,HR.bool _⟩;simp only[Sem.run_bind,f,Result.andThen_ok];simp only[binOp,Op.stringOp,<-uw,Bool.not_not];rfl
  |_=>cases h
 |_=>cases h
def Vt(f:bW M C β s w)(i:dE β (Live M s β) w e a){go:Oper}{op:UnOp}{x:X}(d:aX P (.un op x) go.op=true):cm M C P β s w a go (Ur op x e s):=by
 cases c:go.op<;>rw[c]at d<;>try cases d
 rename_i j t l;simp only[aX,aL,bR]at d;obtain⟨rfl,m⟩:=d;unfold Ur;cases o:bp x e with
 |none=>trivial
 |some p=>
  have g:=aD i m o;generalize h:a.eval l=u at g;cases g with
  |bool b=>cases op with|not=>exact .val (v:=.bool !b) f (by simp[execOp,c,h,Op.unary]) (.bool _)|_=>trivial
  |int k n=>cases op with|neg=>exact .val (v:=.int k (bQ k (0-n))) (u:=.int k (k.wrap (0-n))) f (by simp[execOp,c,h,Op.unary,Op.intArith]) (by rw[ri];exact .int _ _)|_=>trivial
  |_=>trivial
def OO(k:bW M C β s w)(m:dE β (Live M s β) w e a){go:Oper}{x:X}{i:Nat}(c:aX P (.ext x i) go.op=true):cm M C P β s w a go (uj x i e s):=by
 cases b:go.op<;>rw[b]at c<;>try cases c
 rename_i n j;simp only[aX,aL,bR]at c;obtain⟨o,rfl⟩:=c;unfold uj;cases q:bp x e with
 |none=>trivial
 |some p=>
  have d:=aD m o q;generalize r:a.eval n=u at d;cases d with
  |bM l f t y=>
   show cm M C P β s w a go (rv s (y8 l i));rw[vC];cases g:l[i]?with
   |none=>trivial
   |some v=>
    have h:i<f.size:=by rw[t];exact(aS.1 g).1
    exact .val k (by simp[execOp,b,r,Instr.extract,fM h]) (y i v f[i] g (fM h))
  |_=>trivial
def OP(g:bW M C β s w)(h:dE β (Live M s β) w e a){go:Oper}{k:IntKind}{x:X}(b:aX P (.cnv k x) go.op=true):cm M C P β s w a go (uk k x e s):=by
 cases c:go.op<;>rw[c]at b<;>try cases b
 rename_i t y i;simp only[aX,aL]at b;obtain⟨j,b⟩:=b
 split at b
 case h_2=>cases b
 rename_i d z l m;have o:=bR.1 b;subst o;unfold uk;cases q:bp x e with
 |none=>trivial
 |some p=>have f:=aD h j q;generalize r:a.eval i=u at f;cases f with|int A n=>refine .val (v:=.int k (bQ k n)) (u:=.int k (k.wrap n)) g ?_ (by rw[ri];exact .int _ _);simp[execOp,c,r,convert,underlying,l,m,Conv.intToInt]|_=>trivial
def OQ(i:bW M C β s w)(l:dE β (Live M s β) w e a){go:Oper}{x:X}(f:aX P (.nck x) go.op=true):cm M C P β s w a go (um x e s):=by
 cases c:go.op<;>rw[c]at f<;>try cases f
 rename_i m;simp only[aX]at f;unfold um;cases n:bp x e with
 |none=>trivial
 |some p=>have h:=aD l f n;generalize j:a.eval m=u at h;have d:=h;cases h with|ptr o k pl q r=>exact .val (v:=.ptr o k) i (by simp[execOp,c,j]) d|aw cells b o g=>exact .val (v:=.aw cells) i (by simp[execOp,c,j]) d|_=>trivial
def pH{x y:X}{l:Array Operand}(h:fy [x,y] l.toList=true):∃c d,l= #[c,d]/\cO x c=true/\cO y d=true:=by
 cases b:l.toList with
 |nil=>simp[b,fy]at h
 |cons c r=>
  cases r with
  |nil=>simp[b,fy]at h
  |cons d r=>cases r with|cons z r=>simp[b,fy]at h|nil=>simp only[b,fy,aL]at h;exact⟨c,d,by rw[<-Array.toList_inj];exact b,h.1,h.2.1⟩
def Hc{x:X}{l:Array Operand}(h:fy [x] l.toList=true):∃b,l= #[b]/\cO x b=true:=by
 cases c:l.toList with
 |nil=>simp[c,fy]at h
 |cons b r=>cases r with|cons d r=>simp[c,fy]at h|nil=>simp only[c,fy,aL]at h;exact⟨b,by rw[<-Array.toList_inj];exact c,h.1⟩
def Vu(l:bW M C β s w)(o:dE β (Live M s β) w e a){go:Oper}{m:Bool}{x y:X}(f:aX P (.mm m x y) go.op=true):cm M C P β s w a go (Ut m x y e s):=by
 cases d:go.op<;>rw[d]at f<;>try cases f
 rename_i I;simp only[aX,aL]at f;obtain⟨j,f⟩:=f;obtain⟨A,B,r,D,E⟩:=pH f;unfold Ut;cases F:bp x e with
 |none=>trivial
 |some p=>
  cases G:bp y e with
  |none=>cases p<;>trivial
  |some q=>
   have t:=aD o D F;have g:=aD o E G;generalize z:a.eval A=u at t;generalize i:a.eval B=J at g;cases t with
   |int k n=>
    cases g with
    |int L b=>
     split at j
     .rename_i c;subst j;refine .val (v:=.int k (bif jU n b then b else n)) (u:=.int k (if b>n then b else n)) l ?_ ?_
      .simp[execOp,d,resolve,c,r,invoke,builtin,Builtin.max_,z,i,Builtin.max2]
      rw[Ag];have:(if b>n then b else n)=(bif decide (n<=b)then b else n):=by
       by_cases h:n<=b
       .simp only[h,eO,cond_true];split<;>omega
       simp only[h,kJ,cond_false];rw[au (by omega)]
      rw[this];exact .int _ _
     .rename_i c;have H:m=false:=by simpa using j
      subst H;refine .val (v:=.int k (bif jU n b then n else b)) (u:=.int k (if b<n then b else n)) l ?_ ?_
      .simp[execOp,d,resolve,c,r,invoke,builtin,Builtin.min_,z,i,Builtin.min2]
      rw[Ag];have:(if b<n then b else n)=(bif decide (n<=b)then n else b):=by
       by_cases h:n<=b
       .simp only[h,eO,cond_true];rw[au (by omega)]
       simp only[h,kJ,cond_false];rw[ar (by omega)]
      rw[this];exact .int _ _
     cases j
    |_=>trivial
   |_=>trivial
def OR(q:bW M C β s w)(n:dE β (Live M s β) w e a){go:Oper}{g:Nat}{f cs:List X}(d:aX P (.mkf g f cs) go.op=true):cm M C P β s w a go (ui g f cs e s):=by
 cases b:go.op<;>rw[b]at d<;>try cases d
 rename_i fn h j;cases fn<;>simp only[aX,aL,bR,cz]at d;obtain⟨⟨rfl,r⟩,t⟩:=d;unfold ui;cases x:fY f e with
 |none=>trivial
 |some l=>
  cases y:fY cs e with
  |none=>trivial
  |some m=>
   have o:=kI n r x;have p:=kI n t y;refine .val (v:=.fn g l m) (u:=.func (.func g) (h.map a.eval) (j.map a.eval)) q (by simp[execOp,b,Instr.makeFunc]) ?_;refine .fn g l m _ _ (by have:=o.1;simpa using this) (by have:=p.1;simpa using this) (λi v u k c=>?_) λi v u k c=>?_
   .exact o.2 i v u k (by rw[<-Array.getElem?_toList]at c;simpa using c)
   exact p.2 i v u k (by rw[<-Array.getElem?_toList]at c;simpa using c)
def jW(b:bW M C β s w):¬Live M s β w.heap.size:=λh=>gF _ (Live.lt b h)
def tE(w:World)(E:TypeId)(cs:Array Value)(j:Nat):dh {w with heap:=w.heap.push (.cells cs E)} w.heap.size j=cs[j]?:=by apply ik (E:=E) (fr:=(0,0));simp
def OS(c:bW M C β s w)(k:dE β (Live M s β) w e a){go:Oper}{x:X}(d:aX P (.fbx x) go.op=true):cm M C P β s w a go (uf x e s):=by
 cases b:go.op<;>rw[b]at d<;>try cases d
 rename_i E y;simp only[aX]at d;unfold uf;cases m:bp x e with
 |none=>trivial
 |some p=>
  have n:=aD k d m;show cm M C P β s w a go (bN (cellsOf p) (λl=>.v (.aw l) s) .bad);cases o:cellsOf p with
  |none=>trivial
  |some l=>
   obtain⟨h,q⟩:=n.cells o;have i:(a.eval y).cells.size=l.length:=by simpa using h.1
   refine⟨.pointer (some ⟨w.heap.size,0,none⟩),{w with heap:=w.heap.push (.cells (a.eval y).cells E)},β,.inl ?_,c.push _,Ext.push c.mlt β s _,?_⟩
   .simp[execOp,b,Instr.box,newVar,Go.newRow]
   refine .aw l _ 0 (λj=>(a.eval y).cells.getD j Go.undef) q (jW c) (by simp) (λj f=>?_) λj v f=>?_
   .rw[bF,tE,fM (by omega)];simp[Array.getD,i,f]
   have g:=(aS.1 f).1;refine(h.2 j v _ f ?_).ext (Ext.push c.mlt β s _);rw[l7,fM (by omega)];simp[Array.getD,i,g]
def mX(g:dE β (Live M s β) w e a){d n:Nat}:∀{o:Option X} {o':Option Operand} (_:qb o o'=true) (_:fu e d o=some n),(o'.map a.eval=none/\n=d)∨∃k,o'.map a.eval=some (.int k (.ofNat n))
 |none,none,_,h=>by cases h;exact .inl ⟨rfl,rfl⟩
 |some x,some y,b,h=>by
  simp only[qb]at b;simp only[fu]at h;cases c:bp x e with
  |none=>rw[c]at h;cases h
  |some v=>
   rw[c]at h;have f:=aD g b c;generalize i:a.eval y=u at f;cases f with
   |int k z=>
    cases z with
    |ofNat z=>cases h;exact .inr ⟨k,by simp[i]⟩
    |negSucc z=>cases h
   |_=>cases h
 |none,some _,b,_=>by simp[qb]at b
 |some _,none,b,_=>by simp[qb]at b
def Ch{t E:TypeId}(g:P.underlying t=some (.slice E)){sz:Nat}(i:dB P E=some sz){A:Option Addr}{len cap:Nat}{b c:Option Value}{l h:Nat}
  (d:(b=none/\l=0)∨∃k,b=some (.int k (.ofNat l)))(f:(c=none/\h=len)∨∃k,c=some (.int k (.ofNat h)))(o:l<=h)(p:h<=cap):
  (Instr.sliceAt t (.slice A len cap) b c none).run P w=.ok (.slice (if cap=l then A else A.map (·.add (l*sz))) (h-l) (cap-l)) w:=by
 have j:(Instr.sliceAt t (.slice A len cap) b c none).run P w=(Instr.slice t (.slice A len cap) b c none).run P w:=by simp[Instr.sliceAt,run_underlying g]
 rw[j];have m:∀k (code:BoundsCode),(Instr.sliceBound (.int k (.ofNat h)) cap code).run P w=.ok h w:=λk code=>run_sliceBound (P:=P) w k (.ofNat h) cap code (by simp) (by simp;omega)
 have n:∀k (code:BoundsCode),(Instr.sliceBound (.int k (.ofNat l)) h code).run P w=.ok l w:=λk code=>run_sliceBound (P:=P) w k (.ofNat l) h code (by simp) (by simp;omega)
 rcases d with⟨rfl,rfl⟩|⟨q,rfl⟩<;>rcases f with⟨rfl,rfl⟩|⟨r,rfl⟩<;>
  simp only[Instr.slice,Sem.run_bind,run_underlying g,Result.andThen_ok,Instr.sliceBounds,Sem.run_pure,m,n,fO i,Iu,cz,bn,bj]
def HR.Ci{N:aC}{aq:aO}{A:Option Addr}{len cap:Nat}(h:HR β N w (.psl aq) (.slice A len cap)){sz l d:Nat}(G:l<=d)(y:d<=aq.length)
  (t:∀row∈aq,row.length=sz):HR β N w (.psl ((aq.drop l).take (d-l))) (.slice (if cap=l then A else A.map (·.add (l*sz))) (d-l) (cap-l)):=by
 cases h with
 |psl0 _ _ r=>
  simp only[aE]at y;have:l=0:=by omega
  subst this;have:d=0:=by omega
  subst this;simp only[List.drop_nil,List.take_nil,oz,Nat.sub_zero];refine .psl0 _ _ (λn=>?_)
  split at n
  .exact r n
  cases A with|none=>exact r rfl|some H=>simp at n
 |psl _ b o _ c g z u x k h0 B D=>
  have hlen:((aq.drop l).take (d-l)).length=d-l:=by simp;omega
  by_cases E:d-l=0
  .have r:(aq.drop l).take (d-l)=[]:=by apply iJ;omega
   rw[r,E];refine .psl0 _ _ (λn=>?_)
   split at n<;>simp at n
  have F:c=sz:=by have I:=k 0 aq[0] (aR (by omega));have J:=t aq[0] (cp (by omega));omega
  subst F;rw[au (by omega)];simp only[lO,fZ];have m:∀i,i<d-l->((aq.drop l).take (d-l))[i]?=aq[l+i]?:=λi f=>by rw[rh f,l6]
  have:=HR.psl (β:=β) (N:=N) (w:=w) ((aq.drop l).take (d-l)) b (o+l*c) (cap-l) c (λi j=>g (l+i) j) z u (by omega) (λi row f=>?_) (λrow p=>h0 row (OH (lr p))) (λi j f v=>?_) λi row j q f v=>?_
  .rw[hlen]at this;exact this
  .rw[m i (by rw[<-hlen];exact(aS.1 f).1)]at f;exact k _ _ f
  .rw[hlen]at f;have:=B (l+i) j (by omega) v;rw[qs]at this;rw[show o+l*c+(i*c+j)=o+(l*c+i*c+j) by omega];exact this
  rw[m i (by rw[<-hlen];exact(aS.1 f).1)]at f;exact D _ _ _ _ f v
def hX{sz:Nat}:∀{l:aO},cZ sz l=true->∀row∈l,row.length=sz
 |[],_=>by simp
 |r::l,h=>by
  simp only[cZ,aL]at h;intro row b;rcases bk.1 b with rfl|b
  .rw[<-bB];exact bh.1 h.1
  exact hX h.2 row b
def OT(D:bW M C β s w)(Q:dE β (Live M s β) w e a){go:Oper}{x:X}{T V W:Option X}{sz:Nat}(N:aX P (.slc x T V W sz) go.op=true):cm M C P β s w a go (B5 x T V W sz e s):=by
 cases F:go.op<;>rw[F]at N<;>try cases N
 rename_i t x' ha hd G;simp only[aX,aL]at N;obtain⟨⟨⟨⟨hx,Y⟩,Z⟩,H⟩,hE⟩:=N
 split at hE
 case h_2=>cases hE
 rename_i E h4;have ht:=im h4;have hs:=bR.1 hE;unfold B5;cases h1:bp x e with
 |none=>trivial
 |some p=>
  have B:=aD Q hx h1;generalize hu:a.eval x'=u at B;have run:∀{A len cap l h},W=none->u=.slice A len cap->fu e 0 T=some l->fu e len V=some h->l<=h->h<=cap->
    (execOp a.eval go).run P w=.ok (.value (.slice (if cap=l then A else A.map (·.add (l*sz))) (h-l) (cap-l))) w:=by
   intro A len cap l h hm h5 d z I k4;have J:G=none:=by cases G with|none=>rfl|some y=>rw[hm]at H;simp[qb]at H
   subst J;have:=Ch (P:=P) (w:=w) ht hs (A:=A) (len:=len) (cap:=cap) (mX Q Y d) (mX Q Z z) I k4;simp only[execOp,F,hu,h5,OU];simp[this]
  cases B with
  |ah=>
   simp only[]
   split
   .rename_i O m q;refine .val (v:=.ah) D (run rfl rfl m q (aW _) (aW _)) ?_;simp only[bj,oz];exact .ah
   trivial
  |sl o f len i cap n pl h6 hf hl hb hg=>
   simp only[]
   split
   .rename_i O l h m q;cases j:(Nat.ble l h&&Nat.ble h len&&Nat.beq sz i)with|false=>trivial|true=>
     simp only[aL,eb,bh]at j;obtain⟨⟨d,z⟩,rfl⟩:=j;refine .val (v:=.sl o (f+l*sz) (h-l) sz) D (run rfl rfl m q d (by omega)) ?_;by_cases r:cap=l
     .rw[ar r];have e1:h-l=0:=by omega
      have e2:cap-l=0:=by omega
      rw[e1,e2];exact .pF _ _ _ _ _
     rw[au r];simp only[lO,fZ];rw[show f-pl.s+l*sz=f+l*sz-pl.s by omega];refine .sl o _ _ sz _ n pl h6 (by omega) (by omega) hb ?_;have:(cap-l)*sz+l*sz=cap*sz:=by rw[<-Nat.add_mul];congr 1;omega
     omega
   trivial
  |pF o f i b k=>
   simp only[]
   split
   .rename_i O l h m q;cases j:(Nat.ble l h&&Nat.ble h 0&&Nat.beq sz i)with|false=>trivial|true=>
     simp only[aL,eb,bh]at j;obtain⟨⟨d,z⟩,rfl⟩:=j;refine .val (v:=.sl o (f+l*sz) (h-l) sz) D (run rfl rfl m q d (by omega)) ?_;have e1:l=0:=by omega
     have e2:h=0:=by omega
     subst e1;subst e2;simp only[bj,oz];exact .pF _ _ _ _ _
   trivial
  |psl0 A cap hn=>
   have B:HR β (Live M s β) w (.psl []) (.slice A 0 cap):=.psl0 A cap hn;simp only[]
   split
   .rename_i O l h m q;cases j:(Nat.ble l h&&Nat.ble h (aM ([]:aO))&&cZ sz [])with|false=>trivial|true=>simp only[aL,eb,bB]at j;obtain⟨⟨d,z⟩,I⟩:=j;refine .val (v:=.psl (gE (h-l) (ig l []))) D (run rfl rfl m q d (by simp at z;omega)) ?_;rw[jA,lZ];exact B.Ci d z (hX I)
   trivial
  |psl c b o cap i g hN h7 L h8 h0 r h9=>
   have B:HR β (Live M s β) w (.psl c) (.slice (some ⟨b,o,none⟩) c.length cap):=.psl c b o cap i g hN h7 L h8 h0 r h9;simp only[];rw[bB]
   split
   .rename_i O l h m q;cases j:(Nat.ble l h&&Nat.ble h c.length&&cZ sz c)with|false=>trivial|true=>simp only[aL,eb]at j;obtain⟨⟨d,z⟩,I⟩:=j;refine .val (v:=.psl (gE (h-l) (ig l c))) D (run rfl rfl m q d (by omega)) ?_;rw[jA,lZ];exact B.Ci d z (hX I)
   trivial
  |_=>trivial
def Ak(b:ByteArray)(l h:Nat):dS (b.extract l h)=lX (dS b) l h:=by unfold dS lX;rw[jA,ByteArray.data_extract,OV,OW,Al,List.map_drop]
def OX(F:bW M C β s w)(m:dE β (Live M s β) w e a){go:Oper}{x:X}{z A:Option X}(i:aX P (.sls x z A) go.op=true):cm M C P β s w a go (B6 x z A e s):=by
 cases j:go.op<;>rw[j]at i<;>try cases i
 rename_i t G c d n;cases n with
 |some y=>simp[aX]at i
 |none=>
 simp only[aX,aL]at i;obtain⟨⟨⟨H,o⟩,q⟩,B⟩:=i
 split at B
 case h_2=>cases B
 rename_i D;unfold B6;cases I:bp x e with
 |none=>trivial
 |some p=>
  have r:=aD m H I;generalize J:a.eval G=u at r;cases r with
  |str b=>
   simp only[];rw[bB,ga]
   split
   .rename_i l h L N;cases E:(Nat.ble l h&&Nat.ble h b.size)with|false=>trivial|true=>
     simp only[aL,eb]at E;obtain⟨O,Q⟩:=E;refine .val (v:=.str (lX (dS b) l h)) (u:=.string (b.extract l h)) F ?_ (by rw[<-Ak];exact .str _);have T:∀k (code:BoundsCode),(Instr.sliceBound (.int k (.ofNat h)) b.size code).run P w=.ok h w:=λk code=>run_sliceBound (P:=P) w k (.ofNat h) b.size code (by simp) (by simp;omega)
     have V:∀k (code:BoundsCode),(Instr.sliceBound (.int k (.ofNat l)) h code).run P w=.ok l w:=λk code=>run_sliceBound (P:=P) w k (.ofNat l) h code (by simp) (by simp;omega)
     have W:(Instr.sliceAt t (.string b) (c.map a.eval) (d.map a.eval) none).run P w=.ok (.string (b.extract l h)) w:=by
      have Y:(Instr.sliceAt t (.string b) (c.map a.eval) (d.map a.eval) none).run P w=(Instr.slice t (.string b) (c.map a.eval) (d.map a.eval) none).run P w:=by simp[Instr.sliceAt,run_underlying D]
      rw[Y];have f:=mX m o L;have g:=mX m q N;generalize c.map a.eval=Z at f ⊢;generalize d.map a.eval=r at g ⊢;rcases f with⟨rfl,rfl⟩|⟨O,rfl⟩<;>rcases g with⟨rfl,rfl⟩|⟨Q,rfl⟩<;>
       simp only[Instr.slice,Sem.run_bind,run_underlying D,Result.andThen_ok,Instr.sliceBounds,Sem.run_pure,T,V,Iu,cz,bn,bj]
     simp only[execOp,j,J,OU];simp[W]
   trivial
  |_=>trivial
def OY(g:bW M C β s w)(h:dE β (Live M s β) w e a){go:Oper}{x:X}(c:aX P (.cvs x) go.op=true):cm M C P β s w a go (B9 x e s):=by
 cases d:go.op<;>rw[d]at c<;>try cases c
 rename_i n o y;simp only[aX,aL]at c;obtain⟨i,c⟩:=c
 split at c
 case h_2=>cases c
 rename_i j k;unfold B9;cases l:bp x e with
 |none=>trivial
 |some p=>have f:=aD h i l;generalize m:a.eval y=u at f;cases f with|str b=>exact .val (v:=.str (dS b)) g (by simp[execOp,d,m,convert,underlying,j,k]) (.str b)|_=>trivial
def Iv(n:Nat)(h:n<256):dS ⟨#[UInt8.ofNat n]⟩=[n]:=by simp[dS];omega
def Iw(n m:Nat)(h:n<256)(b:m<256):dS ⟨#[UInt8.ofNat n,UInt8.ofNat m]⟩=[n,m]:=by simp[dS];omega
def Lh(z:Nat)(h:z<128):Utf8.encode (Int.ofNat z)=⟨#[UInt8.ofNat z]⟩:=by
 show Utf8.encode (z:Int)=_;have b:Utf8.valid (z:Int)=true:=by simp[Utf8.valid];omega
 unfold Utf8.encode;simp only[b,bj,hY];rw[ar (by omega)]
def Li(z:Nat)(h:128<=z)(c:z<2048):Utf8.encode (Int.ofNat z)=⟨#[UInt8.ofNat (192+z/64),UInt8.ofNat (128+z%64)]⟩:=by
 show Utf8.encode (z:Int)=_;have b:Utf8.valid (z:Int)=true:=by simp[Utf8.valid];omega
 unfold Utf8.encode;simp only[b,bj,hY];rw[au (by omega),ar (by omega)]
def OZ(g:bW M C β s w)(l:dE β (Live M s β) w e a){go:Oper}{x:X}(c:aX P (.cis x) go.op=true):cm M C P β s w a go (B7 x e s):=by
 cases d:go.op<;>rw[d]at c<;>try cases c
 rename_i A B y;simp only[aX,aL]at c;obtain⟨m,c⟩:=c
 split at c
 case h_2=>cases c
 rename_i D n o;unfold B7;cases q:bp x e with
 |none=>trivial
 |some p=>
  have i:=aD l m q;generalize r:a.eval y=u at i;cases i with
  |int k z=>
   cases z with
   |negSucc z=>trivial
   |ofNat z=>
    have b:(execOp a.eval go).run P w=.ok (.value (.string (Utf8.encode (.ofNat z)))) w:=by simp[execOp,d,r,convert,underlying,n,o,Conv.intToString]
    simp only[];cases f:Nat.blt z 128 with
    |true=>rw[ch]at f;refine .val (v:=.str [z]) g b ?_;rw[Lh z f,<-Iv z (by omega)];exact .str _
    |false=>
     simp only[cond_false];have t:¬z<128:=λh=>by rw[ch.2 h]at f;cases f
     cases j:Nat.blt z 2048 with|true=>rw[ch]at j;refine .val (v:=.str [192+z/64,128+z%64]) g b ?_;rw[Li z (by omega) j,<-Iw (192+z/64) (128+z%64) (by omega) (by omega)];exact .str _|false=>trivial
  |_=>trivial
def lP{N:aC}:∀{l:aj} {f:List Value} {b:ay} (_:eJ β N w l f) (_:bytesOf l=some b),
  ∃g:aY,f=g.map (Value.int .u8)/\dS (g.foldl (λr n=>r.push (UInt8.ofNat n.toNat)) ByteArray.empty)=b:=by
 have gen:∀{l:aj} {f:List Value} {b:ay} (_:eJ β N w l f) (_:bytesOf l=some b),∃g:aY,f=g.map (Value.int .u8)/\
   ∀d:ByteArray,dS (g.foldl (λr n=>r.push (UInt8.ofNat n.toNat)) d)=dS d++b:=by
  intro l
  induction l with
  |nil=>intro f b h c;cases c;have:=h.1;cases f with|nil=>exact⟨[],rfl,λd=>by simp⟩|cons=>simp at this
  |cons v l p=>
   intro f b h c;obtain⟨u,f,rfl,j,k⟩:=h.split;unfold bytesOf at c
   split at c
   .rename_i m;cases m
   .rename_i n r m;cases m;cases i:Nat.blt n 256 with
    |false=>rw[i]at c;cases c
    |true=>
     rw[i]at c;have i:=ch.1 i;simp only[cond_true]at c
     split at c
     .rename_i t o;cases c;cases j;obtain⟨g,rfl,q⟩:=p k o;refine⟨.ofNat n::g,rfl,λd=>?_⟩;simp only[mY];rw[q];have:dS (d.push (UInt8.ofNat (Int.ofNat n).toNat))=dS d++[n]:=by simp only[dS,ByteArray.data_push,Array.toList_push,fB,cx,mZ];simp;omega
      rw[this];simp
     cases c
   cases c
 intro l f b h c;obtain⟨g,j,k⟩:=gen h c;exact⟨g,j,by rw[k];simp[dS]⟩
def zg:∀{aq:aO} (_:∀row∈aq,row.length=1),(aB aq).length=aq.length/\∀(i:Nat) (v:HV),(aB aq)[i]?=some v->∃row:aj,aq[i]?=some row/\row[0]?=some v
 |[],_=>⟨rfl,by simp[aB]⟩
 |r::l,h=>by
  obtain⟨d,f⟩:=zg (aq:=l) λrow b=>h row (cS _ b)
  have g:=h r dm
  match r,g with
  |[x],_=>refine⟨by simp[aB,d],λi v c=>?_⟩;cases i with|zero=>simp[aB]at c;subst c;exact⟨[x],rfl,rfl⟩|succ i=>simp[aB]at c;simpa using f i v c
def O0(t:bW M C β s w)(he:dE β (Live M s β) w e a){go:Oper}{x:X}(f:aX P (.cbs x) go.op=true):cm M C P β s w a go (B8 x e s):=by
 cases B:go.op<;>rw[B]at f<;>try cases f
 rename_i sT tT y;simp only[aX,aL]at f;obtain⟨hx,f⟩:=f
 split at f
 case h_2=>cases f
 rename_i e0 hs ht
 split at f
 case h_2=>cases f
 rename_i hE;unfold B8;cases h1:bp x e with
 |none=>trivial
 |some p=>
  have V:=aD he hx h1;generalize h:a.eval y=u at V;have run:∀{A len cap v},u=.slice A len cap->(Conv.bytesToString (.slice A len cap)).run P w=.ok v w->(execOp a.eval go).run P w=.ok (.value v) w:=by intro A len cap v G W;have:=run_convert_bytes_string (P:=P) w sT tT e0 A len cap hs hE ht;simp only[execOp,B,h,G];simp[this,W]
  cases V with
  |ah=>
   refine .val (v:=.str []) (u:=.string .empty) t (run rfl (by simp[Conv.bytesToString])) ?_;have:([]:ay)=dS ByteArray.empty:=by simp[dS]
   rw[this];exact .str _
  |sl o i len m cap n pl H h4 hl W h5=>
   simp only[];cases z:s.bz o i len with
   |none=>trivial
   |some l=>
    simp only[];cases D:bytesOf l with
    |none=>trivial
    |some b=>
     obtain⟨Y,E,k3,g,k4,k5⟩:=t.bz H z;have q:eJ β (Live M s β) w l (List.ofFn (n:=len) λj=>g j):=⟨by simp[E],λj v u d h=>by
      have r:j<len:=by have:=(aS.1 h).1;simpa using this
      simp only[sr,r,dite_true,bL]at h;subst h;exact k5 j v d⟩
     obtain⟨F,I,J⟩:=lP q D;have L:(loadCells ⟨pl.b,i-pl.s,none⟩ len).run P w=.ok (F.map (Value.int .u8)).toArray w:=by rw[run_loadCells P w _ _ _ g k4,<-I];congr 1;apply so;simp
     refine .val (v:=.str b) t (run rfl (run_bytesToString (P:=P) w _ len cap F L)) ?_;rw[<-J];exact .str _
  |pF o i m N k=>
   simp only[];cases z:s.bz o i 0 with
   |none=>trivial
   |some l=>
    simp only[];cases D:bytesOf l with
    |none=>trivial
    |some b=>
     obtain⟨_,_,_,_,_,_,_,E,_⟩:=HS.jV z;have:l=[]:=iJ E;subst this;cases D;refine .val (v:=.str []) t (run rfl (run_bytesToString (P:=P) w ⟨N,k,none⟩ 0 0 [] (by simp[loadCells,loadCellsFrom]))) ?_;have:([]:ay)=dS ByteArray.empty:=by simp[dS]
     simp only[List.foldl_nil];rw[this];exact .str _
  |psl0 A cap hn=>
   simp only[aB,cZ,cond_true,bytesOf];refine .val (v:=.str []) (u:=.string .empty) t (run rfl ?_) ?_
   .cases A with|none=>simp[Conv.bytesToString]|some ad=>exact run_bytesToString (P:=P) w ad 0 cap [] (by simp[loadCells,loadCellsFrom])
   have:([]:ay)=dS ByteArray.empty:=by simp[dS]
   rw[this];exact .str _
  |psl c N o cap m g hN h6 Z O h0 Q T=>
   simp only[];cases z:cZ 1 c with
   |false=>trivial
   |true=>
    simp only[cond_true];cases D:bytesOf (aB c)with
    |none=>trivial
    |some b=>
     obtain⟨Y,E⟩:=zg (hX z);have hz:∀j,j<c.length->m=1:=λj d=>by have:=O j c[j] (aR d);have:=hX z c[j] (cp d);omega
     have q:eJ β (Live M s β) w (aB c) (List.ofFn (n:=c.length) λj=>g j 0):=⟨by simp[Y],λj v u d h=>by
      have r:j<c.length:=by have:=(aS.1 h).1;simpa using this
      simp only[sr,r,dite_true,bL]at h;subst h;obtain⟨row,r1,r2⟩:=E j v d;exact T j row 0 v r1 r2⟩
     obtain⟨F,I,J⟩:=lP q D;have L:(loadCells ⟨N,o,none⟩ c.length).run P w=.ok (F.map (Value.int .u8)).toArray w:=by rw[run_loadCells P w _ _ _ (λj=>g j 0) λj d=>by have:=Q j 0 d (by rw[hz j d];omega);rw[hz j d]at this;simpa using this,<-I];congr 1;apply so;simp
     refine .val (v:=.str b) t (run rfl (run_bytesToString (P:=P) w _ c.length cap F L)) ?_;rw[<-J];exact .str _
  |_=>trivial
def Ix{N:aC}{v:HV}{u:Value}{q:Bool}(h:HR β N w v u)(b:nM 0 v=some q):∃A l c,u=.slice A l c/\q=A.isNone:=by
 cases h with
 |ah=>cases b;exact⟨_,_,_,rfl,rfl⟩
 |sl=>cases b;exact⟨_,_,_,rfl,rfl⟩
 |pF=>cases b;exact⟨_,_,_,rfl,rfl⟩
 |psl d=>cases d with
  |nil=>cases b
  |cons x l=>cases b;exact⟨_,_,_,rfl,rfl⟩
 |_=>cases b
def Iy{N:aC}{v:HV}{u:Value}{q:Bool}(h:HR β N w v u)(b:nM 1 v=some q):∃A,u=.map A/\q=A.isNone:=by
 cases h with
 |fK=>cases b;exact⟨_,rfl,rfl⟩
 |mp=>cases b;exact⟨_,rfl,rfl⟩
 |_=>cases b
def Iz{N:aC}{v:HV}{u:Value}{q:Bool}(h:HR β N w v u)(c:nM 2 v=some q):(u=.nilFunc/\q=true)∨∃f a b,u=.func f a b/\q=false:=by
 cases h with
 |gG=>cases c;exact .inl ⟨rfl,rfl⟩
 |fn=>cases c;exact .inr ⟨_,_,_,rfl,rfl⟩
 |iR=>cases c;exact .inr ⟨_,_,_,rfl,rfl⟩
 |_=>cases c
def IA{N:aC}{v:HV}{u:Value}{q:Bool}(h:HR β N w v u)(b:nM 3 v=some q):∃A,u=.pointer A/\q=A.isNone:=by
 cases h with
 |dO=>cases b;exact⟨_,rfl,rfl⟩
 |ptr=>cases b;exact⟨_,rfl,rfl⟩
 |aw=>cases b;exact⟨_,rfl,rfl⟩
 |_=>cases b
def FB(P:Program)(k:Nat)(t:TypeId)(n:Value):Prop:=(k=0/\(∃E,P.underlying t=some (.slice E))/\n=.slice none 0 0)∨(k=1/\(∃K E,P.underlying t=some (.map K E))/\n=.map none)∨
      (k=2/\(∃A B c,P.underlying t=some (.func A B c))/\n=.nilFunc)∨(k=3/\(∃E,P.underlying t=some (.pointer E))/\n=.pointer none)
def Cj{N:aC}{v:HV}{u:Value}{k:Nat}{q:Bool}(h:HR β N w v u)(i:nM k v=some q){t:TypeId}{n:Value}(j:FB P k t n)(d:Nat):
  (Op.equalIn (d+1) t u n).run P w=.ok q w/\(Op.equalIn (d+1) t n u).run P w=.ok q w:=by
 rcases j with⟨rfl,⟨E,g⟩,rfl⟩|⟨rfl,⟨K,E,g⟩,rfl⟩|⟨rfl,⟨A,B,c,g⟩,rfl⟩|⟨rfl,⟨E,g⟩,rfl⟩
 .obtain⟨A,l,c,rfl,rfl⟩:=Ix h i;constructor<;>cases A<;>simp only[Op.equalIn,Sem.run_bind,run_underlying g,Result.andThen_ok]<;>rfl
 .obtain⟨A,rfl,rfl⟩:=Iy h i;constructor<;>cases A<;>simp only[Op.equalIn,Sem.run_bind,run_underlying g,Result.andThen_ok]<;>rfl
 .rcases Iz h i with⟨rfl,rfl⟩|⟨f,a,b,rfl,rfl⟩<;>constructor<;>simp only[Op.equalIn,Sem.run_bind,run_underlying g,Result.andThen_ok]<;>rfl
 obtain⟨A,rfl,rfl⟩:=IA h i;constructor<;>cases A<;>simp only[Op.equalIn,Sem.run_bind,run_underlying g,Result.andThen_ok]<;>rfl
def Ux:Value->Bool
 |.slice .. |.map _|.func .. |.nilFunc|.pointer _=>true
 |_=>false
def Hd{N:aC}{v:HV}{u:Value}{k:Nat}{q:Bool}(h:HR β N w v u)(d:nM k v=some q){t:TypeId}{n:Value}(i:FB P k t n):Ux u=true/\Ux n=true:=by
 rcases i with⟨rfl,⟨E,g⟩,rfl⟩|⟨rfl,⟨K,E,g⟩,rfl⟩|⟨rfl,⟨A,B,c,g⟩,rfl⟩|⟨rfl,⟨E,g⟩,rfl⟩
 .obtain⟨A,l,c,rfl,rfl⟩:=Ix h d;exact⟨rfl,rfl⟩
 .obtain⟨A,rfl,rfl⟩:=Iy h d;exact⟨rfl,rfl⟩
 .rcases Iz h d with⟨rfl,rfl⟩|⟨f,a,b,rfl,rfl⟩<;>exact⟨rfl,rfl⟩
 obtain⟨A,rfl,rfl⟩:=IA h d;exact⟨rfl,rfl⟩
def zh{x y:Value}(h:Ux x=true)(op:BinOp)(t:TypeId)(p q:Operand):(eqGuard op t p q x y).run P w=.ok () w:=by
 unfold eqGuard;cases cU:(!(op matches .eql|.neq))with
 |true=>rfl
 |false=>simp only[cz,bn];cases x<;>first|rfl|(simp[Ux]at h)
def uL{x y:Value}(h:Ux x=true)(t:TypeId):binOp .eql t x y=(do pure (.bool (<-Op.equal t x y)):Sem Value)/\binOp .neq t x y=(do pure (.bool (!(<-Op.equal t x y))):Sem Value):=by cases x<;>first|exact⟨rfl,rfl⟩|(simp[Ux]at h)
def Ck{N:aC}{v:HV}{u:Value}{k:Nat}{q:Bool}(h:HR β N w v u)(g:nM k v=some q){t:TypeId}{n:Value}(i:FB P k t n):(∀op x y,(eqGuard op t x y u n).run P w=.ok () w/\(eqGuard op t x y n u).run P w=.ok () w)/\
      (binOp .eql t u n).run P w=.ok (.bool q) w/\(binOp .eql t n u).run P w=.ok (.bool q) w/\(binOp .neq t u n).run P w=.ok (.bool !q) w/\(binOp .neq t n u).run P w=.ok (.bool !q) w:=by
  obtain⟨d,f⟩:=Hd h g i;obtain⟨b,c⟩:=Cj h g i 9999;have b:(Op.equal t u n).run P w=.ok q w:=b;have c:(Op.equal t n u).run P w=.ok q w:=c;refine⟨λop x y=>⟨zh d op t x y,zh f op t x y⟩,?_,?_,?_,?_⟩
  . rw[(uL d t).1];simp[b]
  . rw[(uL f t).1];simp[c]
  . rw[(uL d t).2];simp[b]
  rw[(uL f t).2];simp[c]
def O1(z:bW M C β s w)(r:dE β (Live M s β) w e a){go:Oper}{k:Nat}{neg:Bool}{x:X}(c:aX P (.niq k neg x) go.op=true):cm M C P β s w a go (uo k neg x e s):=by
 cases i:go.op<;>rw[i]at c<;>try cases c
 rename_i op t g h I;simp only[aX,aL]at c;obtain⟨cU,c⟩:=c;unfold uo;cases y:bp x e with
 |none=>trivial
 |some p=>
  show cm M C P β s w a go (bN (nM k p) (λq=>.v (.bool (q != neg)) s) .bad);cases A:nM k p with
  |none=>trivial
  |some q=>
   have fin:∀(u n:Value),HR β (Live M s β) w p u->FB P k t n->(a.eval g=u/\a.eval h=n∨a.eval g=n/\a.eval h=u)->cm M C P β s w a go (.v (.bool (q != neg)) s):=by
    intro u n B D j;obtain⟨m,E,F,G,H⟩:=Ck B A D;refine .val (u:=.bool (q != neg)) z ?_ (.bool _);simp only[execOp,i]
    split at cU
    .have b:neg=false:=by simpa using cU
     subst b;rcases j with⟨d,f⟩|⟨d,f⟩
     .simp[d,f,(m .eql g h).1,E]
     simp[d,f,(m .eql g h).2,F]
    .have b:neg=true:=cU;subst b;rcases j with⟨d,f⟩|⟨d,f⟩
     .simp[d,f,(m .neq g h).1,G]
     simp[d,f,(m .neq g h).2,H]
    cases cU
   split at c
   case h_5=>cases c
   all_goals
    simp only[nS,aL]at c;rcases c with⟨o,l⟩|⟨o,l⟩
    .split at l
     .refine fin _ _ (aD r o y) ?_ (.inl ⟨rfl,rfl⟩)
      first
       |exact .inl ⟨rfl,⟨_,by assumption⟩,rfl⟩
       |exact .inr (.inl ⟨rfl,⟨_,_,by assumption⟩,rfl⟩)
       |exact .inr (.inr (.inl ⟨rfl,⟨_,_,_,by assumption⟩,rfl⟩))
       |exact .inr (.inr (.inr ⟨rfl,⟨_,by assumption⟩,rfl⟩))
     cases l
    split at l
    .refine fin _ _ (aD r o y) ?_ (.inr ⟨rfl,rfl⟩)
     first
      |exact .inl ⟨rfl,⟨_,by assumption⟩,rfl⟩
      |exact .inr (.inl ⟨rfl,⟨_,_,by assumption⟩,rfl⟩)
      |exact .inr (.inr (.inl ⟨rfl,⟨_,_,_,by assumption⟩,rfl⟩))
      |exact .inr (.inr (.inr ⟨rfl,⟨_,by assumption⟩,rfl⟩))
    cases l
def eJ.extract{N:aC}{l:aj}{cs:Array Value}(h:eJ β N w l cs.toList)(i n:Nat):eJ β N w ((l.drop i).take n) (cs.extract i (i+n)).toList:=by
 have d:(cs.extract i (i+n)).toList=(cs.toList.drop i).take n:=by rw[OV,OW];congr 1;omega
 rw[d];refine⟨by simp only[oA,Io];rw[h.1],λj v u b c=>?_⟩;have f:j<n:=by have:=(aS.1 b).1;simp at this;omega
 rw[rh f,l6]at b c;exact h.2 _ v u b c
def vH:∀(b c d f:aj),b.length=c.length->sh (b++d) (c++f)=(match sh b c with|some true=>sh d f|some false=>some false|none=>none)
 |[],[],_,_,_=>rfl
 |x::b,y::c,d,f,h=>by
  simp only[bx,sh];cases g:x.y7 y with
  |none=>rfl
  |some q=>cases q with|true=>exact vH b c d f (by simpa using h)|false=>rfl
 |[],_::_,_,_,h=>by simp at h
 |_::_,[],_,_,h=>by simp at h
def lu:∀{b:ay} {l:aj},df b l=true->l.length=b.length
 |[],[],_=>rfl
 |k::b,v::l,h=>by simp only[df,aL]at h;simp[lu h.2]
 |[],_::_,h=>by simp[df]at h
 |_::_,[],h=>by simp[df]at h
def lv:∀{c b:ay} {l:aj},df (c++b) l=true->df c (l.take c.length)=true/\df b (l.drop c.length)=true
 |[],_,l,h=>by simpa[df]using h
 |k::c,b,v::l,h=>by simp only[bx,df,aL]at h;obtain⟨d,f⟩:=lv h.2;simp only[az,List.take_succ_cons,List.drop_succ_cons,df,aL];exact⟨⟨h.1,d⟩,f⟩
 |_::_,_,[],h=>by simp[df]at h
def zi(P:Program)(t:TypeId)(x:Value):Prop:=(dD P t=some true/\∃b,x=.agg b)∨(dD P t=some false/\x.cells= #[x])
def qt{N:aC}{t:TypeId}{c:ay}(k:dB P t=some c.length){l:aj}{cs:Array Value}(h:eJ β N w l cs.toList){bm:Nat}(m:∀v∈l,v.one=true)(o:bm+c.length<=l.length)(n:∃q,dD P t=some q/\(q=false->c.length=1)):
  ∃x,(part t cs bm).run P w=.ok x w/\zi P t x/\eJ β N w ((l.drop bm).take c.length) x.cells.toList:=by
 obtain⟨q,f,g⟩:=n;cases q with
 |true=>refine⟨.agg (cs.extract bm (bm+c.length)),?_,.inl ⟨f,_,rfl⟩,h.extract bm c.length⟩;simp[part,j7 f,fO k]
 |false=>
  have g:=g rfl;have d:bm<cs.size:=by have:=h.1;simp at this;omega
  have b:bm<l.length:=by omega
  have i:=h.2 bm l[bm] cs[bm] (aR b) (by simp[d]);have j:=m l[bm] (cp b);refine⟨cs[bm],by simp[part,j7 f,fM d],.inr ⟨f,i.single j⟩,?_⟩;rw[i.single j,g];have:(l.drop bm).take 1=[l[bm]]:=by rw[nU b];rfl
  rw[this];exact .cons i .nil
def su{d:Nat}{t:TypeId}{b:ay}(h:eQ P d t=some b):∃q,dD P t=some q/\(q=false->b.length=1):=by
 cases d with
 |zero=>simp[eQ]at h
 |succ d=>
  unfold eQ at h;unfold dD
  split at h<;>rename_i c<;>first
   |(rw[c];cases h;exact⟨false,rfl,λ_=>rfl⟩)
   |(rw[c];exact⟨true,rfl,λf=>by cases f⟩)
   |cases h
def EqAt(β:Bt)(N:aC)(P:Program)(w:World)(D:Nat)(t:TypeId)(b:ay):Prop:=∀(x y:Value) (l m:aj) (q:Bool),zi P t x->zi P t y->eJ β N w l x.cells.toList->eJ β N w m y.cells.toList->
 df b l=true->df b m=true->sh l m=some q->(Op.equalIn D t x y).run P w=.ok q w
def rj{b:ay}{l:aj}(h:df b l=true):∀v∈l,v.one=true:=by
 induction b generalizing l with
 |nil=>cases l with|nil=>simp|cons=>simp[df]at h
 |cons k b f=>cases l with|nil=>simp|cons v l=>
   simp only[df,aL]at h;intro x c;rcases bk.1 c with rfl|c
   .have d:=h.1;unfold lK at d
    split at d<;>first|rfl|cases d
   exact f h.2 x c
def He{N:aC}(d D:Nat)(ih:∀(t:TypeId) (c:ay),eQ P d t=some c->EqAt β N P w D t c):∀(k:List Field) (bm:Nat) (c:ay),eQ.vD P d k bm=some c->
  ∀(xs ys:Array Value) (l m:aj) (q:Bool),eJ β N w l xs.toList->eJ β N w m ys.toList->bm+c.length=l.length->l.length=m.length->(∀v∈l,v.one=true)->(∀v∈m,v.one=true)->
   df c (l.drop bm)=true->df c (m.drop bm)=true->sh (l.drop bm) (m.drop bm)=some q->(Op.eqFields D xs ys k).run P w=.ok q w:=by
 intro k
 induction k with
 |nil=>intro bm c b xs ys l m q o p n H r u I J g;simp only[eQ.vD,sk,bL]at b;subst b;have z:l.drop bm=[]:=O2 (by simp at n;omega);have A:m.drop bm=[]:=O2 (by simp at n;omega);rw[z,A]at g;cases g;rfl
 |cons f k B=>
  intro bm c b xs ys l m q o p n H r u I J g;simp only[eQ.vD,sk]at b
  split at b
  case isFalse=>cases b
  rename_i E;simp only[aL,vI,ne_eq,bR]at E
  split at b
  case h_2=>cases b
  rename_i j i
  split at b
  case isFalse=>cases b
  rename_i h;have h:=bR.1 h
  split at b
  case h_2=>cases b
  rename_i T F;simp only[bL]at b;subst b;rw[cA]at n;obtain⟨V,L⟩:=lv I;obtain⟨W,O⟩:=lv J;rw[IB]at L O;obtain⟨x,X,Y,Z⟩:=qt h o (bm:=bm) r (by omega) (su i);obtain⟨y,p4,p5,p6⟩:=qt h p (bm:=bm) u (by omega) (su i);have z:l.drop bm=(l.drop bm).take j.length++l.drop (bm+j.length):=by rw[<-List.drop_drop,D1]
  have A:m.drop bm=(m.drop bm).take j.length++m.drop (bm+j.length):=by rw[<-List.drop_drop,D1]
  rw[z,A,vH _ _ _ _ (by simp;omega)]at g;cases G:sh ((l.drop bm).take j.length) ((m.drop bm).take j.length)with
  |none=>rw[G]at g;cases g
  |some Q=>
   have:=ih _ _ i x y _ _ Q Y p5 Z p6 V W G;simp only[Op.eqFields];rw[ar E.1];simp only[E.2,Sem.run_bind,X,p4,this,Result.andThen_ok];rw[G]at g;cases Q with
   |false=>cases g;simp
   |true=>simp only[nV,cz,bn];exact B _ T F xs ys l m q o p (by omega) H r u L O g
def zj{N:aC}:∀(d j:Nat) (t:TypeId) (p:ay),eQ P d t=some p->EqAt β N P w (d+j) t p:=by
 intro d
 induction d with
 |zero=>intro j t p h;simp[eQ]at h
 |succ d Y=>
  intro j t p h x y l m q O Q F G tl o r;rw[show d+1+j=(d+j)+1 by omega];have f:∀k,p=[k]->dD P t=some false->∃v i,l=[v]/\m=[i]/\lK k v=true/\lK k i=true/\HR β N w v x/\HR β N w i y/\v.y7 i=some q:=by
   intro k E g;subst E;have H:x.cells= #[x]:=by
    rcases O with⟨b,_⟩|⟨_,b⟩
    .rw[g]at b;cases b
    exact b
   have I:y.cells= #[y]:=by
    rcases Q with⟨b,_⟩|⟨_,b⟩
    .rw[g]at b;cases b
    exact b
   rw[H]at F;rw[I]at G;cases l with
   |nil=>simp[df]at tl
   |cons v l=>
    cases l with
    |cons Z l=>simp[df]at tl
    |nil=>
     cases m with
     |nil=>simp[df]at o
     |cons i m=>
      cases m with
      |cons Z m=>simp[df]at o
      |nil=>
       simp only[df,jb]at tl o;refine⟨v,i,rfl,rfl,tl,o,F.2 0 v x rfl rfl,G.2 0 i y rfl rfl,?_⟩;simp only[sh]at r
       split at r
       .rename_i h0;cases r;exact h0
       .rename_i h0;cases r;exact h0
       cases r
  unfold eQ at h
  split at h
  .rename_i k c;simp only[bL]at h;subst h;obtain⟨v,i,rfl,rfl,u,z,A,B,n⟩:=f 0 rfl (by simp[dD,c]);cases A<;>simp only[lK,cz]at u;cases B<;>simp only[lK,cz]at z;rename_i T n1 k2 n2;simp only[HV.y7]at n;by_cases E:T=k2
   .subst E;simp only[eO,cond_true,uK,bL]at n;subst n;rw[run_equalIn_int (P:=P) w (d+j) t T k n1 n2 c];rfl
   simp[E]at n
  .rename_i c;simp only[bL]at h;subst h;obtain⟨v,i,rfl,rfl,u,z,A,B,n⟩:=f 1 rfl (by simp[dD,c]);cases A<;>simp only[lK,cz]at u;cases B<;>simp only[lK,cz]at z;simp only[HV.y7,bL]at n;subst n;exact run_equalIn_bool (P:=P) w (d+j) t _ _ c
  .rename_i c;simp only[bL]at h;subst h;obtain⟨v,i,rfl,rfl,u,z,A,B,n⟩:=f 2 rfl (by simp[dD,c]);cases A<;>simp only[lK,cz]at u;cases B<;>simp only[lK,cz]at z;simp only[HV.y7,bL,sq]at n;subst n;exact run_equalIn_string (P:=P) w (d+j) t _ _ c
  .rename_i V c
   split at h
   .cases h
   rename_i J;have g:dD P t=some true:=by simp[dD,c]
   obtain⟨W,rfl⟩:∃L,x=.agg L:=by
    rcases O with⟨_,b⟩|⟨b,_⟩
    .exact b
    rw[g]at b;cases b
   obtain⟨X,rfl⟩:∃L,y=.agg L:=by
    rcases Q with⟨_,b⟩|⟨b,_⟩
    .exact b
    rw[g]at b;cases b
   have D:P.fieldsOf t=V:=by simp[Program.fieldsOf,c]
   rw[run_equalIn_struct (P:=P) w (d+j) t W X (by rw[D];exact c) (by simpa using J),D];have l1:=lu tl;have l2:=lu o;exact He d (d+j) (Y j) V.toList 0 p h W X l m q F G (by omega) (by omega) (rj tl) (rj o) tl o r
  cases h
def IC{N:aC}{v d:HV}{x y:Value}(h:v.y7 d=some true)(b:HR β N w v x)(c:HR β N w d y):x=y:=by
 unfold HV.y7 at h
 split at h
 .rename_i k n g m;by_cases f:k=g
  .subst f;simp only[eO,cond_true,uK,bL,bX]at h;subst h;cases b;cases c;rfl
  simp[f]at h
 .simp only[bL,bR]at h;subst h;cases b;cases c;rfl
 .rename_i l i;simp only[bL]at h;have:=(oq _ _).1 h;subst this;cases b;generalize j:dS _=i at*;cases c;rw[Ce j]
 cases h
def Cl{N:aC}:∀{l m:aj} {xs ys:List Value},sh l m=some true->eJ β N w l xs->eJ β N w m ys->xs=ys:=by
 intro l
 induction l with
 |nil=>
  intro m xs ys h b c;cases m with
  |nil=>have d:=b.1;have f:=c.1;simp at d f;rw[d,f]
  |cons=>cases h
 |cons v l g=>
  intro m xs ys h b c;cases m with
  |nil=>cases h
  |cons q m=>
   obtain⟨x,i,rfl,j,k⟩:=b.split;obtain⟨y,n,rfl,o,p⟩:=c.split;simp only[sh]at h
   split at h
   .rename_i h0;rw[IC h0 j o,g h k p]
   .cases h
   cases h
def Hf(K:Kd)(v:HV):aj:=bif K.ag then(match v with|.agg l=>l|_=>[])else [v]
def Am{b:ay}{k:HV}(h:p9 ⟨true,b⟩ k=true):∃l,k=.agg l/\df b l=true:=by
 cases k with
 |agg l=>exact⟨l,rfl,h⟩
 |_=>cases h
def iq{N:aC}{K:Kd}{T:TypeId}(d:mQ P K T=true){k:HV}{u:Value}(b:p9 K k=true)(h:HR β N w k u):
  zi P T u/\eJ β N w (Hf K k) u.cells.toList/\df K.ks (Hf K k)=true:=by
 obtain⟨f,ks⟩:=K;simp only[mQ,aL,bR]at d;cases f with
 |true=>obtain⟨l,rfl,g⟩:=Am b;cases h with|agg _ o h0 c i=>exact⟨.inl ⟨d.2,_,rfl⟩,⟨by simpa[Hf,Value.cells]using c,λj x y m n=>i j x y m (by simpa[Value.cells]using n)⟩,g⟩
 |false=>have b:df ks [k]=true:=b;have c:=h.single (rj b k (by simp));refine⟨.inr ⟨d.2,c⟩,?_,b⟩;rw[c];exact .cons h .nil
def rk{K:Kd}{x y:HV}{q:Bool}(h:ql K x y=some q):p9 K x=true/\p9 K y=true/\sh (Hf K x) (Hf K y)=some q:=by
 obtain⟨d,c⟩:=K;cases d with
 |true=>
  cases x with
  |agg l=>
   cases y with
   |agg m=>
    have h:(bif df c l&&df c m then sh l m else none)=some q:=h;cases b:(df c l&&df c m)with
    |false=>rw[b]at h;cases h
    |true=>rw[b]at h;simp only[aL]at b;exact⟨b.1,b.2,h⟩
   |_=>cases h
  |_=>cases h
 |false=>
  have h:(bif df c [x]&&df c [y]then x.y7 y else none)=some q:=h;cases b:(df c [x]&&df c [y])with
  |false=>rw[b]at h;cases h
  |true=>rw[b]at h;simp only[aL]at b;refine⟨b.1,b.2,?_⟩;have f:x.y7 y=some q:=h;show sh [x] [y]=some q;simp only[sh,f];cases q<;>rfl
def D2(β:Bt)(N:aC)(w:World)(es:List (HV×HV))(l:List MapEntry):Prop:=l.length=es.length/\∀(i:Nat) (p:HV×HV) (x:MapEntry),es[i]?=some p->l[i]?=some x->HR β N w p.1 x.key/\HR β N w p.2 x.val
def D2.split{N:aC}{p:HV×HV}{es:List (HV×HV)}{l:List MapEntry}(h:D2 β N w (p::es) l):∃x l',l=x::l'/\HR β N w p.1 x.key/\HR β N w p.2 x.val/\D2 β N w es l':=by cases l with|nil=>have:=h.1;simp at this|cons x l'=>refine⟨x,l',rfl,(h.2 0 p x rfl rfl).1,(h.2 0 p x rfl rfl).2,by have:=h.1;simpa using this,λi q y b c=>h.2 (i+1) q y (by simpa using b) (by simpa using c)⟩
def pI(β:Bt)(N:aC)(w:World)(u:Value)(l:List MapEntry)(b:Nat):Nat×Option HV->Option (Nat×Value)->Prop
 |(j,some v),o=>∃x:MapEntry,b<=j/\l[j-b]?=some x/\o=some (j,x.val)/\HR β N w v x.val/\x.key=u
 |(n,none),o=>o=none/\n=b+l.length
def pI.cons{N:aC}{u:Value}{x:MapEntry}{l:List MapEntry}{b:Nat}{r:Nat×Option HV}{o:Option (Nat×Value)}(h:pI β N w u l (b+1) r o):pI β N w u (x::l) b r o:=by obtain⟨j,v⟩:=r;cases v with|none=>exact⟨h.1,by have:=h.2;simp;omega⟩|some v=>obtain⟨y,i,c,d,f,g⟩:=h;refine⟨y,by omega,?_,d,f,g⟩;rw[show j-b=(j-(b+1))+1 by omega];exact c
def vJ{N:aC}{K:Kd}{T:TypeId}(c:mQ P K T=true)(o:K.ag=false){D:TypeDesc}(r:P.underlying T=some D){v j:HV}{x y:Value}{q:Bool}(h:ql K v j=some q)(m:HR β N w v x)(n:HR β N w j y):
  Instr.sameNow D x y=some q:=by
 obtain⟨ag,t⟩:=K;cases o;obtain⟨u,z,b⟩:=rk h;have g:df t [v]=true:=(iq c u m).2.2;have i:df t [j]=true:=(iq c z n).2.2;clear u z;have h0:v.y7 j=some q:=by
  have b:sh [v] [j]=some q:=b;simp only[sh]at b
  split at b
  .rename_i p;cases b;exact p
  .rename_i p;cases b;exact p
  cases b
 simp only[mQ,aL,bR]at c;have d:=c.1;rw[show 8=7+1 from rfl]at d;unfold eQ at d;rw[r]at d
 split at d
 .rename_i k f;cases f;cases d;simp only[df,jb]at g i;clear h b c;cases m<;>simp only[lK,cz]at g;cases n<;>simp only[lK,cz]at i;rename_i A B E F;simp only[HV.y7]at h0;by_cases l:A=E
  .subst l;simp only[eO,cond_true,uK,bL]at h0;subst h0;simp only[Instr.sameNow,bj];by_cases G:B=F<;>simp[G]
  simp[l]at h0
 .rename_i f;cases f;cases d;clear h b c;simp only[df,jb]at g i;cases m<;>simp only[lK,cz]at g;cases n<;>simp only[lK,cz]at i;simp only[HV.y7,bL]at h0;subst h0;rfl
 .rename_i f;cases f;cases d;clear h b c;simp only[df,jb]at g i;cases m<;>simp only[lK,cz]at g;cases n<;>simp only[lK,cz]at i;simp only[HV.y7,bL,sq]at h0;subst h0;simp only[Instr.sameNow,beq_toListBytes]
 .rename_i H f;cases f;have:=c.2;simp[dD,r]at this
 cases d
def FC{N:aC}{K:Kd}{v f:HV}{x y:Value}(h:ql K v f=some true)(b:HR β N w v x)(c:HR β N w f y):x=y:=by
 obtain⟨i,u⟩:=K;obtain⟨k,n,d⟩:=rk h;cases i with
 |false=>have d:sh [v] [f]=some true:=d;have:=Cl d (.cons b .nil) (.cons c .nil);simpa using this
 |true=>
  obtain⟨l,rfl,_⟩:=Am k;obtain⟨m,rfl,_⟩:=Am n;cases b with
  |agg _ o z p q=>cases c with|agg _ g A r t=>have d:sh l m=some true:=d;have:=Cl d (xs:=o.toList) (ys:=g.toList) ⟨by simpa using p,λj x y b c=>q j x y b (by simpa using c)⟩ ⟨by simpa using r,λj x y b c=>t j x y b (by simpa using c)⟩;rw[OJ.1 this]
def jq{N:aC}{K:Kd}{T:TypeId}(g:mQ P K T=true){k:HV}{u:Value}(d:HR β N w k u){es:List (HV×HV)}{l:List MapEntry}(b:D2 β N w es l){r:Nat×Option HV}(h:dM K es k 0=some r):
  ∃o,(Instr.findKey T u l).run P w=.ok o w/\pI β N w u l 0 r o:=by
 have c:dD P T=some K.ag:=by simp only[mQ,aL,bR]at g;exact g.2
 obtain⟨D,j⟩:∃D,P.underlying T=some D:=by
  unfold dD at c;cases m:P.underlying T with
  |none=>rw[m]at c;cases c
  |some D=>exact⟨D,rfl⟩
 cases n:K.ag with
 |false=>
  have gen:∀(es:List (HV×HV)) (l:List MapEntry) (i:Nat) (r:Nat×Option HV),D2 β N w es l->dM K es k i=some r->∃o,Instr.findNow D u l i=some o/\pI β N w u l i r o:=by
   intro es
   induction es with
   |nil=>
    intro l i r b h;have:=b.1;cases l with
    |nil=>cases h;exact⟨none,rfl,rfl,rfl⟩
    |cons=>simp at this
   |cons p es G=>
    intro l i r b h;obtain⟨x,v,rfl,t,H,I⟩:=b.split;obtain⟨O,Q⟩:=p;simp only[dM]at h
    split at h
    .rename_i f;cases h;refine⟨some (i,x.val),?_,x,aW _,by simp,rfl,H,(FC f d t).symm⟩;simp only[Instr.findNow,vJ g n j f d t]
    .rename_i f;obtain⟨o,J,L⟩:=G v (i+1) r I h;refine⟨o,?_,L.cons⟩;simp only[Instr.findNow,vJ g n j f d t];exact J
    cases h
  obtain⟨o,B,E⟩:=gen es l 0 r b h;refine⟨o,?_,E⟩;unfold Instr.findKey;simp only[Sem.run_bind,run_underlying j,Result.andThen_ok,B,Sem.run_pure]
 |true=>
  have y:∃F,D=.struct F:=by
   simp only[mQ,aL,bR]at g;have z:=g.1;rw[show 8=7+1 from rfl]at z;unfold eQ at z;rw[j]at z;rw[n]at c
   split at z
   .rename_i m;cases m;simp[dD,j]at c
   .rename_i m;cases m;simp[dD,j]at c
   .rename_i m;cases m;simp[dD,j]at c
   .rename_i F m;cases m;exact⟨_,rfl⟩
   cases z
  obtain⟨F,rfl⟩:=y;have gen:∀(es:List (HV×HV)) (l:List MapEntry) (i:Nat) (r:Nat×Option HV),D2 β N w es l->dM K es k i=some r->∃o,(Instr.findAsking T u l i).run P w=.ok o w/\pI β N w u l i r o:=by
   intro es
   induction es with
   |nil=>
    intro l i r b h;have:=b.1;cases l with
    |nil=>cases h;exact⟨none,rfl,rfl,rfl⟩
    |cons=>simp at this
   |cons p es G=>
    intro l i r b h;obtain⟨x,v,rfl,t,H,I⟩:=b.split;obtain⟨O,Q⟩:=p;simp only[dM]at h;have A:∀q,ql K k O=some q->(Op.equal T u x.key).run P w=.ok q w:=by intro q f;obtain⟨V,W,X⟩:=rk f;obtain⟨Y,Z,d3⟩:=iq g V d;obtain⟨e1,e2,e3⟩:=iq g W t;simp only[mQ,aL,bR]at g;exact zj 8 9992 T K.ks g.1 u x.key _ _ q Y e1 Z e2 d3 e3 X
    split at h
    .rename_i f;cases h;refine⟨some (i,x.val),?_,x,aW _,by simp,rfl,H,(FC f d t).symm⟩;simp only[Instr.findAsking,Sem.run_bind,A _ f,Result.andThen_ok,bj,Sem.run_pure]
    .rename_i f;obtain⟨o,J,L⟩:=G v (i+1) r I h;refine⟨o,?_,L.cons⟩;simp only[Instr.findAsking,Sem.run_bind,A _ f,Result.andThen_ok,cz,bn];exact J
    cases h
  obtain⟨o,B,E⟩:=gen es l 0 r b h;unfold Instr.findKey;cases l with|nil=>refine⟨o,?_,E⟩;simp only[Sem.run_bind,run_underlying j,Result.andThen_ok,Instr.findNow,Sem.run_pure];simpa[Instr.findAsking]using B|cons x v=>refine⟨o,?_,E⟩;simp only[Sem.run_bind,run_underlying j,Result.andThen_ok];have:Instr.findNow (.struct F) u (x::v) 0=none:=rfl;rw[this];exact B
end sound
def na(o:Ky)(a b:Nat)(h:Tr Ob):∀(ms:cg),
  (∀x,ak (bI h o a b ms).1 x=ak h x∨(ak (bI h o a b ms).1 x=none/\x≠o))/\
  (∀x∈ms,∀t f i g,ak (bI h o a b ms).1 x=some (.cells t f i g)->x∈(bI h o a b ms).2/\(x≠o->¬(f<b/\a<i)))/\
  (∀x∈(bI h o a b ms).2,x∈ms)
 |[]=>⟨λx=>.inl rfl,by simp,by simp[bI]⟩
 |m::r=>by
  obtain⟨k,n,p⟩:=na o a b h r;generalize G:bI h o a b r=q at k n p;obtain⟨H,l⟩:=q;simp only[bI,G];cases v:m.beq o with
  |true=>
   have j:=(Ky.beq_iff m o).1 v;simp only[cond_true];refine⟨k,λx c t f i g d=>?_,λx c=>?_⟩
   .rcases bk.1 c with rfl|c
    .exact⟨by simp,λy=>absurd j y⟩
    obtain⟨z,A⟩:=n x c t f i g d;exact⟨by simp[z],A⟩
   rcases bk.1 c with rfl|c
   .simp
   simp[p x c]
  |false=>
   have j:m≠o:=λe=>by rw[(Ky.beq_iff m o).2 e]at v;cases v
   simp only[cond_false]
   split
   .rename_i I B D J E;cases u:(Nat.blt B b&&Nat.blt a D)with
    |true=>
     simp only[cond_true];refine⟨λx=>?_,λx c t f i g d=>?_,λx c=>by simp[p x c]⟩
     .simp only[af];by_cases e:x=m
      .simp only[e,bj];exact .inr ⟨trivial,j⟩
      simp only[e,bn];exact k x
     simp only[af]at d;by_cases e:x=m
     .simp[e]at d
     simp only[e,bn]at d;rcases bk.1 c with rfl|c
     .exact absurd rfl e
     exact n x c t f i g d
    |false=>
     simp only[cond_false];refine⟨k,λx c t f i g d=>?_,λx c=>?_⟩
     .rcases bk.1 c with rfl|c
      .refine⟨by simp,λ_ F=>?_⟩;rw[E]at d;cases d;rw[ch.2 F.1,ch.2 F.2]at u;cases u
      obtain⟨z,A⟩:=n x c t f i g d;exact⟨by simp[z],A⟩
     rcases bk.1 c with rfl|c
     .simp
     simp[p x c]
   rename_i E;refine⟨k,λx c t f i g d=>?_,λx c=>by simp[p x c]⟩;rcases bk.1 c with rfl|c
   .exact absurd d (E t f i g)
   exact n x c t f i g d
def qu:∀(n:Nat) (ms:cg) (h:Tr Ob),
  (∀x,ak (eL h n ms).1 x=ak h x∨ak (eL h n ms).1 x=none)/\
  (∀x∈ms,∀ob,ak (eL h n ms).1 x=some ob->x∈(eL h n ms).2)/\(∀x∈(eL h n ms).2,x∈ms)
 |0,[],h=>⟨λx=>.inl rfl,by simp,by simp[eL]⟩
 |_+1,[],h=>⟨λx=>.inl rfl,by simp,by simp[eL]⟩
 |0,m::r,h=>by
  obtain⟨f,g,i⟩:=qu 0 r (ax none m h);simp only[eL];refine⟨λx=>?_,λx b ob c=>?_,λx b=>by simp[i x b]⟩
  .rcases f x with d|d
   .rw[d,af];split
    .exact .inr rfl
    exact .inl rfl
   exact .inr d
  rcases bk.1 b with rfl|b
  .rcases f x with d|d
   .rw[d,af,ar rfl]at c;cases c
   rw[d]at c;cases c
  exact g x b ob c
 |n+1,m::r,h=>by
  obtain⟨f,g,i⟩:=qu n r h;generalize j:eL h n r=q at f g i;obtain⟨k,l⟩:=q;simp only[eL,j];refine⟨f,λx b ob c=>?_,λx b=>?_⟩
  .rcases bk.1 b with rfl|b
   .simp
   simp[g x b ob c]
  rcases bk.1 b with rfl|b
  .simp
  simp[i x b]
section sound
variable{M:aC}{C:eK}{P:Program}{β:Bt}{s:HS}{w:World}{e:En}{a:Act}
def bW.sub(h:bW M C β s w){j:Tr Ob}{f:Tr cg}(r:∀x,ak j x=ak s.h x∨ak j x=none)
  (u:∀o t v y g,ak j o=some (.cells t v y g)->∃ms,ak f g=some ms/\o∈ms)(l:∀g ms,ak f g=some ms->g.toNat<s.nx.toNat):bW M C β {h:=j,nx:=s.nx,gr:=f,ty:=s.ty} w:=by
 have c:∀{x ob},ak j x=some ob->ak s.h x=some ob:=λ{x ob} k=>by
  rcases r x with d|d
  .rw[<-d];exact k
  rw[d]at k;cases k
 have z:∀b,Live M {h:=j,nx:=s.nx,gr:=f,ty:=s.ty} β b->Live M s β b:=by
  rintro b (m|⟨n,ob,pl,d,i,rfl⟩)
  .exact .inl m
  exact .inr ⟨n,ob,pl,c d,i,rfl⟩
 refine⟨h.lt,λo ob A=>?_,λa b ob p pl q d i=>h.apart a b ob p pl q (c d) (c i),u,l,h.mlt,λb m ⟨n,ob,pl,d,i,B⟩=>h.sf b m ⟨n,ob,pl,c d,i,B⟩,h.yJ⟩;obtain⟨pl,d,i⟩:=h.obj o ob (c A);exact⟨pl,d,i.keep (Bt.le_refl _) (λb _ k=>z b k) (cv.refl _ _) rfl⟩
def Ext.sub{c:Tr Ob}{d:Tr cg}(j:∀x,ak c x=ak s.h x∨ak c x=none):Ext M β s w β {h:=c,nx:=s.nx,gr:=d,ty:=s.ty} w:=by
 refine⟨Bt.le_refl _,cv.refl _ _,?_,rfl,rfl,rfl,λ_ r h=>⟨r,h⟩,aW _,λ_ _=>rfl⟩
 rintro b _ (k|⟨i,ob,pl,f,l,rfl⟩)
 .exact .inl k
 refine .inr ⟨i,ob,pl,?_,l,rfl⟩;rcases j i with g|g
 .rw[<-g];exact f
 rw[g]at f;cases f
def bW.p8(h:bW M C β s w){w':World}{o:Ky}{ob jN:Ob}{pl:Pl}(x:ak s.h o=some ob)(z:β o=some pl)
  (h5:w'.heap.size=w.heap.size)(u:∀b,b≠pl.b->w'.heap[b]?=w.heap[b]?)(Q:∀b E n,ov w b E n->ov w' b E n)(h6:w'.os=w.os)(h7:w'.tape=w.tape)(h8:w'.output=w.output)
  (h9:∀(r:Loop),w.heap[pl.b]?=some (.loop r)->∃r',w'.heap[pl.b]?=some (.loop r'))
  (hd:cv (Live M s β) w w'->Cc C β (Live M s β) w' pl jN)
  (T:∀o' y f,o'≠o->ak s.h o'=some y->β o'=some f->f.b=pl.b->cv (Live M s β) w w'->Cc C β (Live M s β) w' f y)
  (j:(∃t p q g t' A B,ob=.cells t p q g/\jN=.cells t' A B g)∨((∀t p q g,ob≠ .cells t p q g)/\∀t p q g,jN≠ .cells t p q g)):
  bW M C β (s.aK o jN) w'/\Ext M β s w β (s.aK o jN) w':=by
 have V:∀b,il (s.aK o jN) β b↔il s β b:=by
  intro b;constructor
  .rintro⟨o',d,i,c,k,rfl⟩
   have c:ak (ax (some jN) o s.h) o'=some d:=c;rw[af]at c;by_cases e:o'=o
   .subst e;exact⟨o',ob,i,x,k,rfl⟩
   rw[au e]at c;exact⟨o',d,i,c,k,rfl⟩
  rintro⟨o',d,i,c,k,rfl⟩
  by_cases e:o'=o
  .subst e;exact⟨o',jN,i,by show ak (ax (some jN) o' s.h) o'=_;rw[af,ar rfl],k,rfl⟩
  exact⟨o',d,i,by show ak (ax (some jN) o s.h) o'=_;rw[af,au e];exact c,k,rfl⟩
 have Y:∀b,Live M (s.aK o jN) β b↔Live M s β b:=λb=>or_congr Iff.rfl (V b)
 have D:Live M s β pl.b:=.inr ⟨o,ob,pl,x,z,rfl⟩;have W:cv (Live M s β) w w':=⟨by omega,λb _ hN=>u b λe=>hN (by rw[e];exact D),Q⟩;refine⟨⟨λo' f hp=>?_,λo' d c=>?_,λa b d F i G c k H h4 v I=>?_,λo' t p q g c=>?_,h.uv,λb X=>by rw[h5];exact h.mlt b X,λb X ha=>h.sf b X ((V b).1 ha),λo E n x=>let⟨pl,c,k,H⟩:=h.yJ o E n x;⟨pl,c,k.keep W,H⟩⟩,Bt.le_refl _,W,λb _ l=>(Y b).1 l,h6,h7,h8,λb r hr=>?_,aW _,λb X=>u b λe=>h.sf b X ⟨o,ob,pl,x,z,e.symm⟩⟩
 .have:=h.lt o' f hp;exact⟨this.1,by omega⟩
 .have c:ak (ax (some jN) o s.h) o'=some d:=c;rw[af]at c;by_cases e:o'=o
  .rw[ar e]at c;cases c;subst e;exact⟨pl,z,(hd W).keep (Bt.le_refl _) (λb _ l=>(Y b).1 l) (cv.refl _ _) rfl⟩
  rw[au e]at c;obtain⟨f,k,H⟩:=h.obj o' d c;refine⟨f,k,?_⟩;by_cases l:f.b=pl.b
  .exact(T o' d f e c k l W).keep (Bt.le_refl _) (λb _ l=>(Y b).1 l) (cv.refl _ _) rfl
  exact H.keep (Bt.le_refl _) (λb _ l=>(Y b).1 l) W (u _ l)
 .have O:ak (ax (some jN) o s.h) a=some d:=c;have J:ak (ax (some jN) o s.h) b=some F:=k;clear c k;rw[af]at O J;by_cases Z:a=o
  .have L:b≠o:=λL=>v (Z.trans L.symm)
   rw[ar Z]at O;cases O;rw[au L]at J;subst Z;obtain⟨q1,t,p,q,g,t',A,B,q2,q3⟩:=h.apart a b ob F i G x J H h4 v I;refine⟨q1,?_⟩;rcases j with⟨u1,u2,u3,u4,u5,u6,u7,m,N⟩|⟨m,_⟩
   .rw[q2]at m;cases m;exact⟨_,_,_,_,_,_,_,N,q3⟩
   exact absurd q2 (m _ _ _ _)
  rw[au Z]at O;by_cases L:b=o
  .rw[ar L]at J;cases J;subst L;obtain⟨q1,t,p,q,g,t',A,B,q2,q3⟩:=h.apart a b d ob i G O x H h4 v I;refine⟨q1,?_⟩;rcases j with⟨u1,u2,u3,u4,u5,u6,u7,m,N⟩|⟨m,_⟩
   .rw[q3]at m;cases m;exact⟨_,_,_,_,_,_,_,q2,N⟩
   exact absurd q3 (m _ _ _ _)
  rw[au L]at J;exact h.apart a b d F i G O J H h4 v I
 .have c:ak (ax (some jN) o s.h) o'=some (.cells t p q g):=c;rw[af]at c;by_cases e:o'=o
  .rw[ar e]at c;cases c;subst e;rcases j with⟨u1,u2,u3,u4,u5,u6,u7,m,N⟩|⟨_,N⟩
   .cases N;exact h.qq o' _ _ _ _ (m▸x)
   exact absurd rfl (N _ _ _ _)
  rw[au e]at c;exact h.qq o' t p q g c
 by_cases l:b=pl.b
 .subst l;exact h9 r hr
 exact⟨r,by rw[u b l];exact hr⟩
def nb(cs:Array Value)(k:Nat):List Value->Array Value
 |[]=>cs
 |v::r=>nb (cs.setIfInBounds k v) (k+1) r
def eS:∀(vs:List Value) (cs:Array Value) (k:Nat),(nb cs k vs).size=cs.size
 |[],_,_=>rfl
 |v::r,cs,k=>by simp only[nb];rw[eS r];simp
def rl:∀(vs:List Value) (cs:Array Value) (k j:Nat),k+vs.length<=cs.size->(nb cs k vs)[j]?=if k<=j/\j<k+vs.length then vs[j-k]?else cs[j]?
 |[],cs,k,j,_=>by simp only[nb,aE];rw[au (by omega)]
 |v::r,cs,k,j,h=>by
  simp only[az]at h;simp only[nb,az];rw[rl r _ (k+1) j (by simp;omega)];by_cases b:k+1<=j/\j<k+1+r.length
  .rw[ar b,ar (by omega),show j-k=(j-(k+1))+1 by omega];rfl
  rw[au b];by_cases c:j=k
  .subst c;rw[ar (by omega),vK (by omega)];simp
  rw[au (by omega),oB (by omega)]
def iK(b o:Nat)(E:TypeId)(fr:Nat×Nat):∀(vs:List Value) (i:Nat) (w:World) (cs:Array Value),w.heap[b]?=some (.cells cs E fr)->Ii fr cs.size->o+i+vs.length<=cs.size->(∀v∈vs,v.oneCell'=true)->
  (storeCells ⟨b,o,none⟩ vs i).run P w=.ok () {w with heap:=w.heap.setIfInBounds b (.cells (nb cs (o+i) vs) E fr)}
 |[],i,w,cs,d,_,_,_=>by
  simp only[storeCells,Sem.run_pure,nb]
  congr 1
  have c:=lt_of_block d;have:w.heap.setIfInBounds b (.cells cs E fr)=w.heap:=by
   apply An;intro j;by_cases g:j=b
   .subst g;rw[vK c,d]
   rw[oB (λe=>g e.symm)]
  rw[this]
 |v::r,i,w,cs,d,k,q,p=>by
  simp only[az]at q;have c:=lt_of_block d;have t:=p v (by simp);have f:w.cell? ⟨b,o+i,none⟩=some (cs[o+i]'(by omega)):=by simp[World.cell?,d,fM (show o+i<cs.size by omega)]
  have l:w.frozen? ⟨b,o+i,none⟩=false:=by
   simp only[World.frozen?,d];rcases k with rfl|k
   .simp
   simp;omega
  have h:w.setCell ⟨b,o+i,none⟩ v={w with heap:=w.heap.setIfInBounds b (.cells (cs.setIfInBounds (o+i) v) E fr)}:=by
   simp only[World.setCell,Iu,cz,bn]
   congr 1
   apply An;intro j;rw[zk];by_cases g:b=j
   .subst g;rw[ar rfl,d,vK c];rfl
   rw[au g,oB g]
  have m:(store (Addr.add ⟨b,o,none⟩ i) v).run P w=.ok () {w with heap:=w.heap.setIfInBounds b (.cells (cs.setIfInBounds (o+i) v) E fr)}:=by
   rw[fZ,<-h];unfold store;cases v<;>first
    |(simp[Value.oneCell']at t;done)
    |simp[Sem.run,f,l]
  have n:({w with heap:=w.heap.setIfInBounds b (.cells (cs.setIfInBounds (o+i) v) E fr)}:World).heap[b]?=some (.cells (cs.setIfInBounds (o+i) v) E fr):=by show(w.heap.setIfInBounds b _)[b]?=_;rw[vK c]
  have:=iK b o E fr r (i+1) _ (cs.setIfInBounds (o+i) v) n (by simpa using k) (by simp;omega) (λx u=>p x (by simp[u]));simp only[storeCells,Sem.run_bind,m,Result.andThen_ok,this,nb];rw[show o+i+1=o+(i+1) by omega];simp
def dA(w:World)(b:Nat)(o:Obj):World:={w with heap:=w.heap.setIfInBounds b o}
def fp{w:World}{b:Nat}{o o':Obj}(h:w.heap[b]?=some o):(dA w b o').heap[b]?=some o':=by show(w.heap.setIfInBounds b o')[b]?=_;rw[vK (lt_of_block h)]
def bK(w:World){b c:Nat}(o:Obj)(h:c≠b):(dA w b o).heap[c]?=w.heap[c]?:=by show(w.heap.setIfInBounds b o)[c]?=_;rw[oB (λe=>h e.symm)]
def rm{w:World}{b:Nat}{cs d:Array Value}{E:TypeId}{fr Lj:Nat×Nat}(h:w.heap[b]?=some (.cells cs E fr))(k:d.size=cs.size)(x:Nat)(F:TypeId)(n:Nat)(i:ov w x F n):ov (dA w b (.cells d E Lj)) x F n:=by
 obtain⟨c,f,g,j⟩:=i;by_cases e:x=b
 .subst e;rw[h]at g;cases g;exact⟨d,Lj,fp h,by omega⟩
 exact⟨c,f,by rw[bK w _ e];exact g,j⟩
def jh{w:World}{b:Nat}{o o':Obj}(h:w.heap[b]?=some o)(g:jB o=true)(x:Nat)(F:TypeId)(n:Nat)(i:ov w x F n):ov (dA w b o') x F n:=by
 obtain⟨c,d,f,j⟩:=i;by_cases e:x=b
 .subst e;rw[h]at f;cases f;cases g
 exact⟨c,d,by rw[bK w _ e];exact f,j⟩
def bW.write(h:bW M C β s w){o:Ky}{pl:Pl}(y:β o=some pl){t:Tr HV}{D A:Nat}{g:Ky}(T:ak s.h o=some (.cells t D A g)){k:Nat}{l:aj}{vs:List Value}(h1:D<=k)(h2:k+l.length<=A)
  (V:eJ β (Live M s β) w l vs)(p:∀x∈l,x.one=true)
  (W:∀o' c t' F G g',o'≠o->ak s.h o'=some (.cells t' F G g')->β o'=some c->c.b=pl.b->g'=g->¬(F<k+l.length/\k<G)):
  pl.s<=k/\∃w',(storeCells ⟨pl.b,k-pl.s,none⟩ vs).run P w=.ok () w'/\bW M C β (s.aK o (.cells (cY l k t) D A g)) w'/\Ext M β s w β (s.aK o (.cells (cY l k t) D A g)) w':=by
 obtain⟨c,h3,h4⟩:=h.obj _ _ T;rw[y]at h3;cases h3;cases h4 with
 |cells _ _ _ _ H E O hs B X hn hc=>
  have hlen:=V.1;have d:k-pl.s+vs.length<=H.size:=by
   by_cases hz:l.length=0
   .by_cases hp:k<=A<;>omega
   omega
  have q:=rl vs H (k-pl.s);have I:=iK (P:=P) pl.b (k-pl.s) E O vs 0 w H B X (by simpa using d) (V.Aj p);refine⟨by omega,dA w pl.b (.cells (nb H (k-pl.s) vs) E O),by simpa[dA]using I,?_⟩;refine h.p8 T y (by simp[dA]) (λb j=>bK w _ j) (rm B (eS vs H _)) rfl rfl rfl (λr J=>by rw[B]at J;cases J) (λQ=>?_) (λo' L c N z f m Q=>?_) (.inl ⟨_,_,_,_,_,_,_,rfl,rfl⟩)
  .refine .cells _ D A g _ E O hs (fp B) (by rw[eS];exact X) (by rw[eS];exact hn) λi v Y Z n=>?_
   rw[fj]at n;rw[q (i-pl.s) d];by_cases J:k<=i/\i<k+l.length
   .rw[ar J]at n;rw[ar (by omega)];have hj:=(aS.1 n).1;refine⟨p v (cG n),vs[i-k]'(by omega),?_,(V.2 _ v _ n (aR (by omega))).keep (Bt.le_refl _) (gM.refl _ _) Q⟩;rw[show i-pl.s-(k-pl.s)=i-k by omega];exact aR (by omega)
   rw[au J]at n;rw[au (by omega)];obtain⟨b1,u,b2,b3⟩:=hc i v Y Z n;exact⟨b1,u,b2,b3.keep (Bt.le_refl _) (gM.refl _ _) Q⟩
  obtain⟨e1,t1,hq,ht,g1,t2,h7,h8,e2,e3⟩:=h.apart o o' _ L pl c T z y f N.symm m.symm;cases e2;subst e3;obtain⟨hg,h5,h6⟩:=h.obj _ _ z;rw[f]at h5;cases h5;have hx:=W o' c _ _ _ _ N z f m rfl;cases h6 with
  |cells _ _ _ _ hy E' k0 h9 j k1 ha hd=>
   rw[m,B]at j;cases j;refine .cells t2 h7 h8 g _ E O h9 (by rw[m];exact fp B) (by rw[eS];exact X) (by rw[eS];exact ha) λi v Y Z n=>?_
   obtain⟨b1,u,b2,b3⟩:=hd i v Y Z n;refine⟨b1,u,?_,b3.keep (Bt.le_refl _) (gM.refl _ _) Q⟩;rw[q (i-c.s) d,au (by omega)];exact b2
def HS.vL{s s':HS}{o:Ky}{k:Nat}{l:aj}(h:s.store o k l=some s'):
  ∃t c d g ms,ak s.h o=some (.cells t c d g)/\c<=k/\k+l.length<=d/\ak s.gr g=some ms/\s.kC o k l t c d g ms=some s':=by
 obtain⟨b,i,j⟩:=jz h;obtain⟨t,c,d,g,rfl,m⟩:=Ob.mU j;obtain⟨n,p⟩:=jy m;obtain⟨q,r⟩:=jy p;obtain⟨ms,u,v⟩:=jz r;have f:=eb.1 q;rw[bB]at f;exact⟨t,c,d,g,ms,i,eb.1 n,f,u,v⟩
def Hg(s:HS)(o:Ky)(k:Nat)(l:aj)(t:Tr HV)(b c:Nat)(g:Ky)(ms:cg):
  s.kC o k l t b c g ms=some {h:=ax (some (.cells (cY l k t) b c g)) o s.h,nx:=s.nx,gr:=s.gr,ty:=s.ty}/\(∃m,ms=[m])∨
  s.kC o k l t b c g ms=some {h:=ax (some (.cells (cY l k t) b c g)) o (bI s.h o k (k+aM l) ms).1,nx:=s.nx,gr:=ax (some (bI s.h o k (k+aM l) ms).2) g s.gr,ty:=s.ty}:=by
 match ms with|[m]=>exact .inl ⟨rfl,m,rfl⟩|[]=>exact .inr rfl|m::d::r=>exact .inr rfl
def jC(h:bW M C β s w){o:Ky}{pl:Pl}(z:β o=some pl){k:Nat}{l:aj}{vs:List Value}(X:eJ β (Live M s β) w l vs)(i:∀x∈l,x.one=true){s':HS}(L:s.store o k l=some s'):
  pl.s<=k/\∃w',(storeCells ⟨pl.b,k-pl.s,none⟩ vs).run P w=.ok () w'/\bW M C β s' w'/\Ext M β s w β s' w':=by
 obtain⟨t,Y,Z,g,N,O,h2,h3,A,h5⟩:=HS.vL L;obtain⟨f,h6,h7⟩:=h.qq _ _ _ _ _ O;rw[A]at h6;cases h6;rcases Hg s o k l t Y Z g N with⟨B,m,e2⟩|B
 .rw[h5]at B;cases B;have hm:m=o:=by rw[e2]at h7;exact(dq.1 h7).symm
  have:=h.write (P:=P) z O h2 h3 X i (λo' Q t' D E F n p _ _ T=>by
   subst T;obtain⟨f,j,v⟩:=h.qq _ _ _ _ _ p;rw[A]at j;cases j;rw[e2]at v;exact absurd (by simpa[hm]using v) n)
  exact this
 rw[h5]at B;cases B;obtain⟨I,J,k3⟩:=na o k (k+aM l) s.h N;generalize hq:bI s.h o k (k+aM l) N=q at I J k3 ⊢;obtain⟨y,V⟩:=q;simp only at I J k3 ⊢;have c:∀x,ak y x=ak s.h x∨ak y x=none:=λx=>(I x).imp id And.left
 have p:ak y o=some (.cells t Y Z g):=by
  rcases I o with e|⟨_,e⟩
  .rw[e];exact O
  exact absurd rfl e
 have r:∀{x ob},ak y x=some ob->ak s.h x=some ob:=λ{x ob} d=>by
  rcases c x with e|e
  .rw[<-e];exact d
  rw[e]at d;cases d
 have W:bW M C β {h:=y,nx:=s.nx,gr:=ax (some V) g s.gr,ty:=s.ty} w:=h.sub c (λx t' D E F d=>by
  simp only[af];by_cases G:F=g
  .subst G;rw[ar rfl];obtain⟨f,j,v⟩:=h.qq _ _ _ _ _ (r d);rw[A]at j;cases j;exact⟨V,rfl,(J x v _ _ _ _ d).1⟩
  .rw[au G];exact h.qq _ _ _ _ _ (r d)) (λF f u=>by
  simp only[af]at u;by_cases G:F=g
  .subst G;exact h.uv _ _ A
  rw[au G]at u;exact h.uv _ _ u)
 have H:Ext M β s w β {h:=y,nx:=s.nx,gr:=ax (some V) g s.gr,ty:=s.ty} w:=Ext.sub c;obtain⟨c1,w',c2,c3,c4⟩:=W.write (P:=P) z p h2 h3 (X.ext H) i (λx Q t' D E F n d _ _ T=>by
  subst T;obtain⟨f,j,v⟩:=h.qq _ _ _ _ _ (r d);rw[A]at j;cases j;have:=(J x v _ _ _ _ d).2 n;rwa[bB]at this)
 exact⟨c1,w',c2,c3,H.trans c4⟩
def Vv(r:bW M C β s w)(i:dE β (Live M s β) w e a){go:Oper}{n:Nat}{x v:X}(c:aX P (.st n x v) go.op=true):cm M C P β s w a go (Uo n x v e s):=by
 cases b:go.op<;>rw[b]at c<;>try cases c
 rename_i t y u;simp only[aX,aL,bR]at c;obtain⟨⟨z,A⟩,B⟩:=c;unfold Uo;cases D:bp x e with
 |none=>trivial
 |some p=>
  have j:=aD i z D;generalize E:a.eval y=up at j;cases j with
  |ptr o k pl d Q=>
   show cm M C P β s w a go (bN (bp v e) (λv=>bN (cellsOf v) (λl=>gD (Nat.beq (aM l) n) (bN (s.store o k l) (λs'=>.v .undef s') .bad) .bad) .bad) .bad);cases F:bp v e with
   |none=>trivial
   |some q=>
    have G:=aD i A F;show cm M C P β s w a go (bN (cellsOf q) (λl=>gD (Nat.beq (aM l) n) (bN (s.store o k l) (λs'=>.v .undef s') .bad) .bad) .bad);cases H:cellsOf q with
    |none=>trivial
    |some l=>
     show cm M C P β s w a go (gD (Nat.beq (aM l) n) (bN (s.store o k l) (λs'=>.v .undef s') .bad) .bad);cases I:Nat.beq (aM l) n with
     |false=>trivial
     |true=>
      rw[bh,bB]at I;show cm M C P β s w a go (bN (s.store o k l) (λs'=>.v .undef s') .bad);cases J:s.store o k l with
      |none=>trivial
      |some s'=>
       obtain⟨m,L⟩:=G.cells H;obtain⟨T,N,O,f,g⟩:=jC (P:=P) r d m L J;have h:(a.eval u).cells.size=n:=by have:=m.1;simp at this;omega
       refine⟨Go.undef,N,β,.inr ⟨?_,rfl⟩,f,g,.undef⟩;simp only[execOp,b,E];simp[Instr.storeAt,Instr.sureAddr,storeVar,fO B,h,O]
  |_=>trivial
def bW.newRow(h:bW M C β s w){l:aj}{cs:Array Value}{E:TypeId}{fr:Nat×Nat}{ty:Tr (Nat×Nat)}(c:ty=s.ty∨∃n,ty=ax (some (E,n)) s.nx s.ty/\(n=0∨cs.size=n))(m:Ii fr cs.size)(o:l.length<=cs.size)(p:∀(j:Nat) (v:HV),l[j]?=some v->v.one=true/\∃u,cs[j]?=some u/\HR β (Live M s β) w v u):
  ∃d,bW M C d {h:=ax (some (.cells (cY l 0 .lf) 0 (aM l) s.nx)) s.nx s.h,nx:=s.nx.succ,gr:=ax (some [s.nx]) s.nx s.gr,ty:=ty} {w with heap:=w.heap.push (.cells cs E fr)}/\
   Ext M β s w d {h:=ax (some (.cells (cY l 0 .lf) 0 (aM l) s.nx)) s.nx s.h,nx:=s.nx.succ,gr:=ax (some [s.nx]) s.nx s.gr,ty:=ty} {w with heap:=w.heap.push (.cells cs E fr)}/\d s.nx=some ⟨w.heap.size,0⟩:=by
 have f:=jW h;obtain⟨q,r⟩:=h.newObj (x:=.cells cs E fr) (ob:=.cells (cY l 0 .lf) 0 (aM l) s.nx) (gr:=ax (some [s.nx]) s.nx s.gr) (c.imp id λ⟨n,t,g⟩=>⟨E,n,t,cs.size,⟨cs,fr,by simp,rfl⟩,g⟩) (by
  refine .cells _ 0 _ _ cs E fr (aW _) (by simp) m (by rw[bB];simpa using o) λk v _ g i=>?_
  rw[fj]at i;rw[bB]at g;rw[ar (by omega)]at i;obtain⟨y,u,z,A⟩:=p (k-0) v i;refine⟨y,u,z,A.keep (Bt.jO h.fresh) (λb D B=>B.resolve_left (by omega)) (cv.push _ _ _)⟩) (.inl ⟨_,_,_,rfl,rfl⟩)
 exact⟨_,q,r,by simp[Bt.add]⟩
def vM(s:HS)(l:aj)(K:Ky->HV):s.new l K=.v (K s.nx) {h:=ax (some (.cells (cY l 0 .lf) 0 (aM l) s.nx)) s.nx s.h,nx:=s.nx.succ,gr:=ax (some [s.nx]) s.nx s.gr,ty:=s.ty}:=rfl
def pJ(s:HS)(ty:Tr (Nat×Nat))(l:aj)(K:Ky->HV):s.B2 ty l K=.v (K s.nx) {h:=ax (some (.cells (cY l 0 .lf) 0 (aM l) s.nx)) s.nx s.h,nx:=s.nx.succ,gr:=ax (some [s.nx]) s.nx s.gr,ty:=ty}:=rfl
def FD(i:bW M C β s w){go:Oper}{l:aj}{cs:Array Value}{E:TypeId}(f:eJ β (Live M s β) w l cs.toList)(b:∀x∈l,x.one=true)
  (c:(execOp a.eval go).run P w=.ok (.value (.pointer (some ⟨w.heap.size,0,none⟩))) {w with heap:=w.heap.push (.cells cs E)}):cm M C P β s w a go (s.new l (λo=>.ptr o 0)):=by
 rw[vM];obtain⟨h,k,m,n⟩:=i.newRow (l:=l) (cs:=cs) (E:=E) (fr:=(0,0)) (.inl rfl) (.inl rfl) (by have:=f.1;simp at this;omega) (λj v g=>by
  have d:j<cs.size:=by have:=f.1;simp at this;have:=(aS.1 g).1;omega
  exact⟨b v (cG g),cs[j],fM d,f.2 j v _ g (by simp[d])⟩)
 exact⟨_,_,h,.inl c,k,m,by simpa using HR.ptr (β:=h) s.nx 0 ⟨w.heap.size,0⟩ n (aW _)⟩
def ID(i:bW M C β s w){go:Oper}{l:aj}{cs:Array Value}{E:TypeId}(f:eJ β (Live M s β) w l cs.toList)(b:∀x∈l,x.one=true)
  (c:(execOp a.eval go).run P w=.ok (.value (.pointer (some ⟨w.heap.size,0,none⟩))) {w with heap:=w.heap.push (.cells cs E)}):cm M C P β s w a go (s.B2 (ax (some (E,aM l)) s.nx s.ty) l (λo=>.ptr o 0)):=by
 rw[pJ];obtain⟨h,k,m,n⟩:=i.newRow (l:=l) (cs:=cs) (E:=E) (fr:=(0,0)) (.inr ⟨aM l,rfl,.inr (by rw[bB];have:=f.1;simpa using this)⟩) (.inl rfl) (by have:=f.1;simp at this;omega) (λj v g=>by
  have d:j<cs.size:=by have:=f.1;simp at this;have:=(aS.1 g).1;omega
  exact⟨b v (cG g),cs[j],fM d,f.2 j v _ g (by simp[d])⟩)
 exact⟨_,_,h,.inl c,k,m,by simpa using HR.ptr (β:=h) s.nx 0 ⟨w.heap.size,0⟩ n (aW _)⟩
def IE(m:bW M C β s w){go:Oper}{z:aj}(b:aX P (.alloc z) go.op=true):cm M C P β s w a go (DR z e s):=by
 cases c:go.op<;>rw[c]at b<;>try cases b
 rename_i t;simp only[aX,qZ]at b
 split at b
 case h_2=>cases b
 rename_i v n;unfold DR;obtain⟨o,d,i⟩:=nR.1 n;have p:=dC b β (Live M s β) w;have f:∀x∈z,x.one=true:=by
  have:∀(l:aj) (g:List Value),iE l g=true->∀x∈l,x.one=true:=by
   intro l
   induction l with
   |nil=>simp
   |cons y l q=>
    intro g h x j;cases g with
    |nil=>simp[iE]at h
    |cons u g=>
     simp only[iE,aL]at h;rcases bk.1 j with rfl|j
     .have k:=h.1;unfold Ah at k
      split at k<;>first|rfl|cases k
     exact q g h.2 x j
  exact this _ _ b
 refine FD (E:=t) m p f ?_;simp[execOp,c,Instr.alloc,zeroValue,typeInfo,d,i,newVar,Go.newRow]
def O3(n:bW M C β s w){go:Oper}{i:Nat}{z:aj}(b:aX P (.alb i z) go.op=true):cm M C P β s w a go (OD i z e s):=by
 cases c:go.op<;>rw[c]at b<;>try cases b
 rename_i t;simp only[aX,qZ,aL,bR]at b;obtain⟨rfl,b⟩:=b
 split at b
 case h_2=>cases b
 rename_i v o;unfold OD;obtain⟨p,d,j⟩:=nR.1 o;have q:=dC b β (Live M s β) w;have f:∀x∈z,x.one=true:=by
  have:∀(l:aj) (g:List Value),iE l g=true->∀x∈l,x.one=true:=by
   intro l
   induction l with
   |nil=>simp
   |cons y l r=>
    intro g h x k;cases g with
    |nil=>simp[iE]at h
    |cons u g=>
     simp only[iE,aL]at h;rcases bk.1 k with rfl|k
     .have m:=h.1;unfold Ah at m
      split at m<;>first|rfl|cases m
     exact r g h.2 x k
  exact this _ _ b
 refine ID (E:=i) n q f ?_;simp[execOp,c,Instr.alloc,zeroValue,typeInfo,d,j,newVar,Go.newRow]
def O4(d:bW M C β s w)(f:dE β (Live M s β) w e a){go:Oper}{x:X}(c:aX P (.box x) go.op=true):cm M C P β s w a go (GS x e s):=by
 cases b:go.op<;>rw[b]at c<;>try cases c
 rename_i E y;simp only[aX]at c;unfold GS;cases g:bp x e with
 |none=>trivial
 |some p=>have h:=aD f c g;show cm M C P β s w a go (bN (cellsOf p) (λl=>s.new l (λo=>.ptr o 0)) .bad);cases i:cellsOf p with|none=>trivial|some l=>obtain⟨j,k⟩:=h.cells i;exact FD (E:=E) d j k (by simp[execOp,b,Instr.box,newVar,Go.newRow])
def O5(d:bW M C β s w){go:Oper}(c:aX P .mkm go.op=true):cm M C P β s w a go (Vk e s):=by
 cases b:go.op<;>rw[b]at c<;>try cases c
 rename_i t r;cases r with
 |some y=>simp[aX]at c
 |none=>
 show cm M C P β s w a go (.v (.mp s.nx) {h:=ax (some (.mp [])) s.nx s.h,nx:=s.nx.succ,gr:=s.gr,ty:=s.ty});obtain⟨f,g⟩:=d.newObj (x:=.map #[] 0) (ob:=.mp []) (gr:=s.gr) (.inl rfl) (by
  exact .mp [] #[] (by simp) rfl (by simp)) (.inr ⟨by simp,rfl⟩)
 refine⟨.map (some w.heap.size),_,_,.inl ?_,f,g,HR.mp _ ⟨w.heap.size,0⟩ (by simp[Bt.add])⟩;simp[execOp,b,Instr.makeMap,newObj,Sem.run]
end sound
def IF(bm:Nat):∀(l:List Value) (k:Nat) (cells:Array Value),bm+k+l.length<=cells.size->
  ((l.zipIdx k).foldl (λcs (p:Value×Nat)=>cs.setIfInBounds (bm+p.2) p.1) cells).size=cells.size/\
  (∀j,j<l.length->((l.zipIdx k).foldl (λcs (p:Value×Nat)=>cs.setIfInBounds (bm+p.2) p.1) cells)[bm+k+j]?=l[j]?)/\
  (∀m,(m<bm+k∨bm+k+l.length<=m)->((l.zipIdx k).foldl (λcs (p:Value×Nat)=>cs.setIfInBounds (bm+p.2) p.1) cells)[m]?=cells[m]?):=by
 intro l
 induction l with
 |nil=>intro k cells _;simp
 |cons v l g=>
  intro k cells h;simp only[az]at h;obtain⟨i,n,c⟩:=g (k+1) (cells.setIfInBounds (bm+k) v) (by simp;omega);simp only[List.zipIdx_cons,mY];refine⟨by simpa using i,λj o=>?_,λm d=>?_⟩
  .cases j with
   |zero=>
    have b:bm+k<cells.size:=by omega
    have f:=c (bm+k) (.inl (by omega));simp only[gH]at f ⊢;rw[f,vK b];rfl
   |succ j=>have:=n j (by simpa using o);rw[show bm+k+(j+1)=bm+(k+1)+j by omega,this];simp
  rw[c m (by simp at d;omega),oB (by simp at d;omega)]
def D3{i n j sz:Nat}(b:i<n)(c:j<sz):i*sz+j<n*sz:=by
 have d:i*sz+sz<=n*sz:=by rw[<-Nat.succ_mul];exact jD _ b
 omega
def Hh(sz:Nat):∀(ps:List (Nat×Value)) (k:Nat) (cells:Array Value),ps.map (·.1)=List.range' k ps.length->(∀p∈ps,p.2.cells.size=sz)->(k+ps.length)*sz<=cells.size->
  ∃cs,Instr.fill (λi=>some (i*sz,sz)) cells ps=some cs/\cs.size=cells.size/\
   (∀(i:Nat) (p:Nat×Value) (j:Nat),ps[i]?=some p->j<sz->cs[(k+i)*sz+j]?=p.2.cells[j]?)/\(∀m,m<k*sz->cs[m]?=cells[m]?):=by
 intro ps
 induction ps with
 |nil=>intro k cells _ _ _;exact⟨cells,rfl,rfl,by simp,λ_ _=>rfl⟩
 |cons p ps r=>
  intro k cells c g t;simp only[az,cx,List.range'_succ,qp]at c;have d:=g p (by simp);have h:(k+1+ps.length)*sz<=cells.size:=by rw[show k+1+ps.length=k+(ps.length+1) by omega];exact t
  have hle:k*sz+sz<=cells.size:=by have:(k+1)*sz<=(k+1+ps.length)*sz:=jD _ (by omega);rw[jE]at this;omega
  obtain⟨l,u,v⟩:=IF (k*sz) p.2.cells.toList 0 cells (by simp[d];omega);have b:p.2.cells.zipIdx.foldl (λcs (q:Value×Nat)=>cs.setIfInBounds (k*sz+q.2) q.1) cells=(p.2.cells.toList.zipIdx 0).foldl (λcs (q:Value×Nat)=>cs.setIfInBounds (k*sz+q.2) q.1) cells:=by rw[<-Array.foldl_toList];simp
  obtain⟨cs,x,y,z,n⟩:=r (k+1) _ c.2 (λq A=>g q (by simp[A])) (by rw[l];exact h);refine⟨cs,?_,by rw[y,l],λi q j f o=>?_,λm h=>?_⟩
  .simp only[Instr.fill,c.1,d];rw[au (by simp;omega)];rw[b];exact x
  .cases i with|zero=>simp at f;subst f;rw[gH,n _ (by rw[jE];omega)];have:=u j (by simp[d,o]);simpa using this|succ i=>have:=z i q j (by simpa using f) o;rw[show k+(i+1)=k+1+i by omega];exact this
  rw[n m (by rw[jE];omega),v m (.inl (by omega))]
section sound
variable{M:aC}{C:eK}{P:Program}{β:Bt}{s:HS}{w:World}{e:En}{a:Act}
def Cm{N:aC}{sz:Nat}:∀{l:aj} {f:List Value} {m:aO},eJ β N w l f->ju sz l=some m->
  m.length=l.length/\(∀row∈m,row.length=sz/\∀x∈row,x.one=true)/\∀(i:Nat) (row:aj) (u:Value),m[i]?=some row->f[i]?=some u->eJ β N w row u.cells.toList:=by
 intro l
 induction l with
 |nil=>intro f m h d;cases d;simp
 |cons v l o=>
  intro f m h d;obtain⟨u,p,rfl,q,r⟩:=h.split;simp only[ju]at d
  split at d
  .rename_i c E t j;cases g:Nat.beq (aM c) sz with
   |false=>rw[g]at d;cases d
   |true=>
    rw[g]at d;cases d;rw[bh,bB]at g;obtain⟨y,z,A⟩:=o r j;obtain⟨B,D⟩:=q.cells t;refine⟨by simp[y],λrow b=>?_,λi row x k n=>?_⟩
    .rcases bk.1 b with rfl|b
     .exact⟨g,D⟩
     exact z row b
    cases i with|zero=>simp at k n;subst k;subst n;exact B|succ i=>exact A i row x (by simpa using k) (by simpa using n)
  cases d
def Hi{sz:Nat}:∀{l:aj} {m:aj},flat sz l=some m->∃r,ju sz l=some r/\m=aB r:=by
 intro l
 induction l with
 |nil=>intro m h;cases h;exact⟨[],rfl,rfl⟩
 |cons v l f=>
  intro m h;simp only[flat]at h
  split at h
  .rename_i c j g b;cases d:Nat.beq (aM c) sz with
   |false=>rw[d]at h;cases h
   |true=>rw[d]at h;cases h;obtain⟨r,i,rfl⟩:=f b;exact⟨c::r,by simp only[ju,g,i,d,cond_true],rfl⟩
  cases h
def gz{sz:Nat}:∀{r:aO} (_:∀row∈r,row.length=sz),(aB r).length=r.length*sz/\∀k v,(aB r)[k]?=some v->0<sz/\∃row,r[k/sz]?=some row/\row[k%sz]?=some v
 |[],_=>⟨by simp[aB],by simp[aB]⟩
 |c::r,h=>by
  obtain⟨l,m⟩:=gz (r:=r) λrow b=>h row (cS _ b)
  have g:=h c dm;refine⟨by simp only[aB,cA,az,l,g,jE];omega,λk v d=>?_⟩;simp only[aB]at d;rcases jw k c.length with i|j
  .rw[ea i]at d;have f:0<sz:=by omega
   refine⟨f,c,?_,?_⟩
   .rw[Nat.div_eq_of_lt (by omega)];rfl
   rw[D0 (by omega)];exact d
  rw[iG j]at d;obtain⟨f,row,n,o⟩:=m _ _ d;refine⟨f,row,?_,?_⟩
  .have:k/sz=(k-c.length)/sz+1:=by rw[g,<-Nat.sub_add_cancel (show sz<=k by omega),Nat.add_div_right _ f];simp
   rw[this];simpa using n
  have:k%sz=(k-c.length)%sz:=by
   rw[g];conv=>lhs;rw[<-Nat.sub_add_cancel (show sz<=k by omega)]
   rw[Nat.add_mod_right]
  rw[this];exact o
def Ao{go:Oper}{sz n:Nat}{xs:List X}{t:TypeId}{ps:Array (Nat×Operand)}(he:dE β (Live M s β) w e a)(J:go.op=.buildSlice t n ps)
  (hc:((match nQ P t with|some E=>dB P E==some sz&&decide (n*sz<=16777216)&&((P.info? E).bind (·.zero)).isSome|none=>false)&&n==xs.length&&ps.toList.map (·.1)==List.range n&&fy xs (ps.toList.map (·.2)))=true)
  {l:aj}(hl:fY xs e=some l){m:aO}(hm:ju sz l=some m):
  n=xs.length/\m.length=n/\∃(E:TypeId) (cs:Array Value),(execOp a.eval go).run P w=.ok (.value (.slice (some ⟨w.heap.size,0,none⟩) n n)) {w with heap:=w.heap.push (.cells cs E)}/\cs.size=n*sz/\
   (∀row∈m,row.length=sz/\∀x∈row,x.one=true)/\
   ∀(i:Nat) (row:aj) (j:Nat) (v:HV),m[i]?=some row->row[j]?=some v->∃u,cs[i*sz+j]?=some u/\HR β (Live M s β) w v u:=by
 simp only[aL,bR]at hc;obtain⟨⟨⟨H,rfl⟩,hr⟩,hx⟩:=hc
 split at H
 case h_2=>cases H
 rename_i E L;have ht:=im L;simp only[aL,bR,bX]at H;obtain⟨⟨N,hle⟩,hz⟩:=H;have g:=kI he hx hl;obtain⟨k1,O,k3⟩:=Cm g hm;have Q:ps.size=xs.length:=by have:=cC List.length hr;simpa using this
 have h5:l.length=xs.length:=by have:=g.1;simp at this;omega
 let b:List (Nat×Value):=(ps.map λ(p:Nat×Operand)=>(p.1,a.eval p.2)).toList;have h:b.length=xs.length:=by simp[b,Q]
 have k:∀(i:Nat) (q:Nat×Value),b[i]?=some q->∃row,m[i]?=some row/\eJ β (Live M s β) w row q.2.cells.toList:=by
  intro i q o;have f:i<m.length:=by have:=(aS.1 o).1;omega
  refine⟨m[i],aR f,k3 i m[i] q.2 (aR f) ?_⟩;simp only[b,Array.toList_map,fR,l9]at o;obtain⟨p,T,rfl⟩:=o;simp[T]
 have c:∀q∈b,q.2.cells.size=sz:=by intro q o;obtain⟨i,f,V⟩:=oy o;obtain⟨r,I,W⟩:=k i q (by rw[aR f,V]);have:=W.1;rw[(O r (cG I)).1]at this;simpa using this
 have y:b.map (·.1)=List.range' 0 b.length:=by rw[h,<-List.range_eq_range',<-hr];simp[b,sv,Function.comp_def]
 cases A:(P.info? E).bind (·.zero)with
 |none=>simp[A]at hz
 |some z=>
  obtain⟨h6,B,Y⟩:=nR.1 A;let zero:Array Value:=if xs.length*sz=0 then #[]else z.cells
  obtain⟨cs,f1,f2,f3,_⟩:=Hh sz b 0 ((Array.range (xs.length*sz)).map (zero[· %zero.size]!)) y c (by simp[h]);refine⟨rfl,by omega,E,cs,?_,by rw[f2];simp,O,λi row j v f hj=>?_⟩
  .have Z:=fO (w:=w) N;have h4:(zeroValue E).run P w=.ok z w:=by simp[zeroValue,typeInfo,B,Y]
   have D:¬(xs.length*sz>16777216):=by omega
   simp only[execOp,J,Instr.buildSlice,underlying,Sem.run_bind,run_program,Result.andThen_ok,ht,Sem.run_pure,Z,Sem.run_ite];rw[au (by simpa using D)];by_cases h0:xs.length*sz=0
   .simp only[h0,bj];have d:Instr.fill (λi=>some (i*sz,sz)) (Array.map (λx=>(#[]:Array Value)[x%(#[]:Array Value).size]!) (Array.range 0)) b=some cs:=by simpa[zero,h0]using f1
    simp only[b]at d;rw[d];simp[Go.newRow]
   simp only[h0,bn,h4,Result.andThen_ok];have d:Instr.fill (λi=>some (i*sz,sz)) (Array.map (λx=>z.cells[x%z.cells.size]!) (Array.range (xs.length*sz))) b=some cs:=by simpa[zero,h0]using f1
   simp only[b]at d;rw[d];simp[Go.newRow]
  have h7:=(aS.1 f).1;have F:j<sz:=by have:=(aS.1 hj).1;rw[(O row (cG f)).1]at this;exact this
  have hv:i<b.length:=by omega
  obtain⟨r,I,W⟩:=k i b[i] (aR hv);rw[f]at I;cases I;have h3:=f3 i b[i] j (aR hv) F;rw[bF]at h3;have G:j<b[i].2.cells.size:=by rw[c _ (cp hv)];exact F
  refine⟨b[i].2.cells[j],by rw[h3,fM G],W.2 j v _ hj (by simp[G])⟩
def O6(q:bW M C β s w)(r:dE β (Live M s β) w e a){go:Oper}{sz:Nat}{xs:List X}(d:aX P (.bsl sz xs) go.op=true):cm M C P β s w a go (GU sz xs e s):=by
 cases b:go.op<;>rw[b]at d<;>try cases d
 rename_i t n L;unfold GU;cases u:fY xs e with
 |none=>trivial
 |some l=>
  show cm M C P β s w a go (bN (flat sz l) (λm=>s.new m (λo=>.sl o 0 (aM xs) sz)) .bad);cases x:flat sz l with
  |none=>trivial
  |some O=>
   obtain⟨m,y,rfl⟩:=Hi x;obtain⟨f,z,E,cs,A,g,h,B⟩:=Ao (P:=P) r b d u y;obtain⟨D,F⟩:=gz (sz:=sz) λrow c=>(h row c).1
   show cm M C P β s w a go (s.new (aB m) (λo=>.sl o 0 (aM xs) sz));rw[vM,bB xs];obtain⟨i,G,H,I⟩:=q.newRow (l:=aB m) (cs:=cs) (E:=E) (fr:=(0,0)) (.inl rfl) (.inl rfl) (by rw[D,g,z];exact aW _) (λk v J=>by
    obtain⟨Q,row,j,p⟩:=F k v J;refine⟨(h row (cG j)).2 v (cG p),?_⟩;have:=B _ _ _ _ j p;rwa[D4,Nat.div_add_mod]at this)
   refine⟨_,_,i,.inl A,G,H,?_⟩;rw[f];have:=λN=>HR.sl (β:=i) (N:=N) (w:={w with heap:=w.heap.push (.cells cs E)}) s.nx 0 xs.length sz xs.length cs.size ⟨w.heap.size,0⟩ I (aW _) (aW _) ⟨E,cs,(0,0),by simp,rfl⟩ (by simp[g,f])
   simpa using this _
def O7(f:bW M C β s w)(q:dE β (Live M s β) w e a){go:Oper}{sz:Nat}{xs:List X}(h:aX P (.fbl sz xs) go.op=true):cm M C P β s w a go (ug sz xs e s):=by
 cases b:go.op<;>rw[b]at h<;>try cases h
 rename_i t n G;unfold ug;cases r:fY xs e with
 |none=>trivial
 |some l=>
  show cm M C P β s w a go (bN (ju sz l) (λm=>.v (.psl m) s) .bad);cases x:ju sz l with
  |none=>trivial
  |some m=>
   obtain⟨H,y,E,o,z,A,p,B⟩:=Ao (P:=P) q b h r x;refine⟨_,_,β,.inl z,f.push _,Ext.push f.mlt β s _,?_⟩;rw[<-y];refine .psl m _ 0 _ sz (λi j=>o.getD (i*sz+j) Go.undef) (jW f) (by simp) (aW _) (λi row g=>(p row (cG g)).1) (λrow c=>(p row c).2) (λi j g k=>?_) λi row j v g k=>?_
   .have d:i*sz+j<o.size:=by rw[A];exact D3 (by omega) k
    rw[bF,tE,fM d];simp[Array.getD,d]
   obtain⟨u,D,F⟩:=B i row j v g k;simp only[fA,D,hU];exact F.ext (Ext.push f.mlt β s _)
def j8:∀(l:aj) (b:List Value),iE l b=true->∀x∈l,x.one=true:=by
 intro l
 induction l with
 |nil=>simp
 |cons y l f=>
  intro b h x c;cases b with
  |nil=>simp[iE]at h
  |cons u b=>
   simp only[iE,aL]at h;rcases bk.1 c with rfl|c
   .have d:=h.1;unfold Ah at d
    split at d<;>first|rfl|cases d
   exact f b h.2 x c
def run_places(P:Program)(w:World)(b:Array Field)(h:∀f∈b.toList,(dB P f.type).isSome=true):
  (b.mapM (λf=>do pure (f.offset,<-sizeOf f.type)):Sem (Array (Nat×Nat))).run P w=.ok (b.map λf=>(f.offset,(dB P f.type).getD 0)) w:=by
 have gen:∀l:List Field,(∀f∈l,(dB P f.type).isSome=true)->(l.mapM (λf=>do pure (f.offset,<-sizeOf f.type)):Sem (List (Nat×Nat))).run P w=.ok (l.map λf=>(f.offset,(dB P f.type).getD 0)) w:=by
  intro l
  induction l with
  |nil=>intro _;rfl
  |cons f l i=>
   intro d;have g:=d f (by simp);cases c:dB P f.type with
   |none=>rw[c]at g;cases g
   |some n=>simp only[List.mapM_cons,Sem.run_bind,fO c,Result.andThen_ok,Sem.run_pure,i λf j=>d f (by simp[j]),cx,c,hU]
 rw[O8];simp only[Sem.run_map,gen _ h,Result.andThen_ok]
 congr 1
 apply so;simp
def lQ{g:List Value}:∀{c:List Field} {i bm:Nat} {ps:List Pc} {l:List (Nat×Operand)},eB P g i c ps l bm=true->∀f∈c,(dB P f.type).isSome=true
 |[],_,_,_,_,_=>by simp
 |f::c,i,bm,ps,l,h=>by
  cases ps with
  |nil=>simp[eB]at h
  |cons p ps=>
   cases p with
   |z z=>
    simp only[eB,aL,bR]at h;intro d b;rcases bk.1 b with rfl|b
    .rw[h.1.1.2];rfl
    exact lQ h.2 d b
   |x o n=>
    cases l with
    |nil=>simp[eB]at h
    |cons q l=>
     simp only[eB,aL,bR]at h;intro d b;rcases bk.1 b with rfl|b
     .rw[h.1.1.1.2];rfl
     exact lQ h.2 d b
def yL:∀{ps:List Pc} {m:aj},eA e ps=some m->m.length=sn ps:=by
 intro ps
 induction ps with
 |nil=>intro m h;cases h;rfl
 |cons p ps f=>
  intro m h;cases p with
  |z z=>
   simp only[eA]at h
   split at h
   .rename_i g b;cases h;simp[sn,f b]
   cases h
  |x o n=>
   simp only[eA]at h
   split at h
   .split at h
    .rename_i c g i b;cases d:Nat.beq (aM c) n with
     |false=>rw[d]at h;cases h
     |true=>rw[d]at h;cases h;rw[bh,bB]at d;simp[sn,f b,d]
    cases h
   cases h
def Ap(he:dE β (Live M s β) w e a)(G:List Value):∀(H:List Field) (i bm:Nat) (ps:List Pc) (l:List (Nat×Operand)) (m:aj),eB P G i H ps l bm=true->eA e ps=some m->
  ∀(pl:Nat->Option (Nat×Nat)) (cells:Array Value),(∀(j:Nat) (f:Field) (n:Nat),H[j]?=some f->dB P f.type=some n->pl (i+j)=some (f.offset,n))->cells.size=G.length->bm+m.length=G.length->
   (∀k,bm<=k->cells[k]?=G[k]?)->
   (∀x∈m,x.one=true)/\∃cs,Instr.fill pl cells (l.map λp=>(p.1,a.eval p.2))=some cs/\cs.size=cells.size/\(∀k,k<bm->cs[k]?=cells[k]?)/\
    ∀(j:Nat) (v:HV),m[j]?=some v->∃u,cs[bm+j]?=some u/\HR β (Live M s β) w v u:=by
 intro H
 induction H with
 |nil=>
  intro i bm ps l m h b pl cells r A hlen O;cases ps with
  |cons p ps=>simp[eB]at h
  |nil=>
   cases l with
   |cons q l=>simp[eB]at h
   |nil=>cases b;exact⟨by simp,cells,rfl,rfl,λ_ _=>rfl,by simp⟩
 |cons f H ih=>
  intro i bm ps l m h b pl cells r A hlen O;cases ps with
  |nil=>simp[eB]at h
  |cons p I=>
  cases p with
  |z z=>
   simp only[eB,aL,bR]at h;obtain⟨⟨⟨f1,f2⟩,Q⟩,T⟩:=h;simp only[eA]at b
   split at b
   .rename_i V B;cases b;simp only[cA]at hlen;obtain⟨W,cs,X,Y,J,Z⟩:=ih (i+1) (bm+z.length) I l V T B pl cells (λj f' n d hn=>by rw[show i+1+j=i+(j+1) by omega];exact r (j+1) f' n (by simpa using d) hn) A (by omega) (λk hk=>O k (by omega));refine⟨λx g=>?_,cs,X,Y,λk hk=>J k (by omega),λj v d=>?_⟩
    .rcases cP.1 g with g|g
     .exact j8 _ _ Q x g
     exact W x g
    rcases jw j z.length with t|D
    .rw[ea t]at d;have h1:=dC Q β (Live M s β) w;have L:bm+j<G.length:=by omega
     refine⟨G[bm+j],by rw[J _ (by omega),O _ (by omega)];exact aR L,h1.2 j v _ d ?_⟩;rw[rh t,l6];exact aR L
    rw[iG D]at d;obtain⟨u,a1,a2⟩:=Z (j-z.length) v d;exact⟨u,by rw[show bm+j=bm+z.length+(j-z.length) by omega];exact a1,a2⟩
   cases b
  |x o n=>
   cases l with
   |nil=>simp[eB]at h
   |cons q l'=>
   obtain⟨jj,y⟩:=q;simp only[eB,aL,bR]at h;obtain⟨⟨⟨⟨f1,f2⟩,rfl⟩,Q⟩,T⟩:=h;simp only[eA]at b
   split at b
   case h_2=>cases b
   rename_i v0 h2
   split at b
   case h_2=>cases b
   rename_i c V hc B;cases hq:Nat.beq (aM c) n with
   |false=>rw[hq]at b;cases b
   |true=>
    rw[hq]at b;cases b;rw[bh,bB]at hq;simp only[cA]at hlen;obtain⟨c1,c2⟩:=(aD he Q h2).cells hc;have h3:(a.eval y).cells.size=n:=by have:=c1.1;simp at this;omega
    obtain⟨g1,g2,g3⟩:=IF bm (a.eval y).cells.toList 0 cells (by simp;omega);have E:(a.eval y).cells.zipIdx.foldl (λcs (q:Value×Nat)=>cs.setIfInBounds (bm+q.2) q.1) cells=((a.eval y).cells.toList.zipIdx 0).foldl (λcs (q:Value×Nat)=>cs.setIfInBounds (bm+q.2) q.1) cells:=by rw[<-Array.foldl_toList];simp
    have N:=r 0 f n (by simp) f2;simp only[gH]at N;obtain⟨W,cs,X,Y,J,Z⟩:=ih (i+1) (bm+n) I l' V T B pl (((a.eval y).cells.toList.zipIdx 0).foldl (λcs (q:Value×Nat)=>cs.setIfInBounds (bm+q.2) q.1) cells)
     (λj f' n d hn=>by rw[show i+1+j=i+(j+1) by omega];exact r (j+1) f' n (by simpa using d) hn) (by rw[g1];exact A) (by omega) (λk hk=>by rw[g3 k (.inr (by simp;omega))];exact O k (by omega))
    refine⟨λx g=>?_,cs,?_,by rw[Y,g1],λk hk=>by rw[J k (by omega),g3 k (.inl (by omega))],λj v d=>?_⟩
    .rcases cP.1 g with g|g
     .exact c2 x g
     exact W x g
    .simp only[cx,Instr.fill,N,f1];rw[au (by simp;omega)];rw[E];exact X
    rcases jw j c.length with t|D
    .rw[ea t]at d;have F:j<(a.eval y).cells.toList.length:=by simp;omega
     refine⟨(a.eval y).cells.toList[j],?_,c1.2 j v _ d (aR F)⟩;rw[J _ (by omega)];have:=g2 j F;rw[gH]at this;rw[this];exact aR F
    rw[iG D]at d;obtain⟨u,a1,a2⟩:=Z (j-c.length) v d;exact⟨u,by rw[show bm+j=bm+n+(j-c.length) by omega];exact a1,a2⟩
def IG(E:bW M C β s w)(F:dE β (Live M s β) w e a){go:Oper}{ps:List Pc}(b:aX P (.build ps) go.op=true):cm M C P β s w a go (lM ps e s):=by
 cases c:go.op<;>rw[c]at b<;>try cases b
 rename_i t l;simp only[aX]at b
 split at b
 case h_2=>cases b
 rename_i g G
 split at b
 case h_2=>cases b
 rename_i z H;simp only[aL,bX]at b;unfold lM;cases B:eA e ps with
 |none=>trivial
 |some m=>
  obtain⟨I,d,o⟩:=nR.1 H;have p:=yL B;obtain⟨J,q,L,N,_,O⟩:=Ap F z.cells.toList g.toList 0 0 ps l.toList m b.1 B (λj=>(g.map λf=>(f.offset,(dB P f.type).getD 0))[j]?) z.cells (λj f n h Q=>by
   rw[l7]at h;simp[h,Q]) (by simp) (by simp;omega) (λk _=>by simp)
  refine .val (v:=.agg m) (u:=.agg q) E ?_ ?_
  .have r:(zeroValue t).run P w=.ok z w:=by simp[zeroValue,typeInfo,d,o]
   have y:=run_places P w g (lQ b.1);simp only[execOp,c,Instr.build,Sem.run_bind,r,Result.andThen_ok,run_underlying G,y];have A:Instr.fill (λx=>(Array.map (λf=>(f.offset,(dB P f.type).getD 0)) g)[x]?) z.cells (Array.map (λx=>match x with|(i,x)=>(i,a.eval x)) l).toList=some q:=by simpa using L
   rw[A];simp
  refine .agg m q J (by rw[N,b.2,p]) λj v u h T=>?_
  obtain⟨W,D,V⟩:=O j v h;rw[bF,T]at D;cases D;exact V
def oC{α:Type}{P:Program}{w:World}(b:α->PUnit->Sem (ForInStep PUnit)):∀(l:List α),(∀f∈l,(b f PUnit.unit).run P w=.ok (.yield PUnit.unit) w)->(forIn (m:=Sem) l PUnit.unit b).run P w=.ok PUnit.unit w
 |[],_=>rfl
 |f::l,h=>by simp only[List.forIn_cons,Sem.run_bind,h f (by simp),Result.andThen_ok];exact oC b l λg c=>h g (by simp[c])
def ux(em:Bool)(P:Program)(w:World)(d D:Nat)(ih:∀(t:TypeId) (c:ay) (x:Value) {N:aC} {β:Bt} (l:aj),eQ P d t=some c->zi P t x->eJ β N w l x.cells.toList->df c l=true->(Instr.checkKey em D t x).run P w=.ok () w){N:aC}{β:Bt}:
  ∀(i:List Field) (bm:Nat) (c:ay),eQ.vD P d i bm=some c->∀(xs:Array Value) (l:aj),eJ β N w l xs.toList->bm+c.length=l.length->(∀v∈l,v.one=true)->df c (l.drop bm)=true->
   ∀f∈i,f.name≠ "_" /\∃x,(part f.type xs f.offset).run P w=.ok x w/\(Instr.checkKey em D f.type x).run P w=.ok () w:=by
 intro i
 induction i with
 |nil=>intro bm c _ xs l _ _ _ _ f j;simp at j
 |cons f i m=>
  intro bm c b xs l o y p z;simp only[eQ.vD,sk]at b
  split at b
  case isFalse=>cases b
  rename_i j;simp only[aL,vI,ne_eq,bR]at j
  split at b
  case h_2=>cases b
  rename_i q k
  split at b
  case isFalse=>cases b
  rename_i g;have g:=bR.1 g
  split at b
  case h_2=>cases b
  rename_i A n;simp only[bL]at b;subst b;rw[cA]at y;obtain⟨B,r⟩:=lv z;rw[IB]at r;obtain⟨x,E,F,G⟩:=qt g o (bm:=bm) p (by omega) (su k);intro u h;rcases bk.1 h with rfl|h
  .exact⟨j.1,x,by rw[j.2];exact E,ih u.type q x _ k F G B⟩
  exact m (bm+q.length) A n xs l o (by omega) p r u h
def Aq(em:Bool)(P:Program)(w:World):∀(d j:Nat) (t:TypeId) (g:ay) (x:Value) {N:aC} {β:Bt} (l:aj),eQ P d t=some g->zi P t x->eJ β N w l x.cells.toList->df g l=true->(Instr.checkKey em (d+j) t x).run P w=.ok () w:=by
 intro d
 induction d with
 |zero=>intro j t g x N β l h;simp[eQ]at h
 |succ d o=>
  intro j t g x N β l h p q tl;rw[show d+1+j=(d+j)+1 by omega];unfold eQ at h
  split at h
  .rename_i k b;simp only[Instr.checkKey,Sem.run_bind,run_underlying b,Result.andThen_ok];rfl
  .rename_i b;simp only[Instr.checkKey,Sem.run_bind,run_underlying b,Result.andThen_ok];rfl
  .rename_i b;simp only[Instr.checkKey,Sem.run_bind,run_underlying b,Result.andThen_ok];rfl
  .rename_i r b
   split at h
   .cases h
   have i:dD P t=some true:=by simp[dD,b]
   obtain⟨u,rfl⟩:∃v,x=.agg v:=by
    rcases p with⟨_,c⟩|⟨c,_⟩
    .exact c
    rw[i]at c;cases c
   have A:=lu tl;have:=ux em P w d (d+j) (λt g x {N} {β} l c m n y=>o j t g x l c m n y) r.toList 0 g h u l q (by omega) (rj tl) tl;simp only[Instr.checkKey,Sem.run_bind,run_underlying b,Result.andThen_ok];rw[<-Array.forIn_toList,oC _ _ λf z=>?_]
   .rfl
   obtain⟨c,x,m,n⟩:=this f z;rw[ar c];simp only[Sem.run_bind,m,n,Result.andThen_ok,Sem.run_pure]
  cases h
def kK{N:aC}{K:Kd}{T:TypeId}(b:mQ P K T=true){k:HV}{u:Value}(c:p9 K k=true)(h:HR β N w k u)(em:Bool):(Instr.checkKey em 10000 T u).run P w=.ok () w:=by obtain⟨d,f,g⟩:=iq b c h;simp only[mQ,aL,bR]at b;exact Aq em P w 8 9992 T K.ks u _ b.1 d f g
def rn{N:aC}:∀(n:Nat) {k:Nat} {v:HV} {u:Value},lK k v=true->HR β N w v u->Instr.sameBits n u u=true:=by
  intro n k v u b c;cases c<;>first
    |(cases k with
       |zero=>simp[lK]at b
       |succ k=>cases k with
         |zero=>simp[lK]at b
         |succ k=>cases k with
           |zero=>simp[lK]at b
           |succ k=>simp[lK]at b)
    |(cases n<;>simp[Instr.sameBits,beq_toListBytes])
def Cn{N:aC}{K:Kd}{T:TypeId}(p:mQ P K T=true){k:HV}{u:Value}(m:p9 K k=true)(h:HR β N w k u):(Instr.keyThatStays u u).run P w=.ok u w:=by
 obtain⟨q,c,b⟩:=iq p m h;have t:Instr.sameBits 10000 u u=true:=by
  rcases q with⟨_,j,rfl⟩|⟨_,z⟩
  .have:∀(ks:ay) (l:aj) (d:List Value),df ks l=true->eJ β N w l d->(d.zip d).all (λ(x,y)=>Instr.sameBits 9999 x y)=true:=by
    intro ks
    induction ks with
    |nil=>
     intro l d f n;cases l with
     |nil=>have:=n.1;cases d<;>simp at this ⊢
     |cons=>simp[df]at f
    |cons k ks A=>intro l d f n;cases l with|nil=>simp[df]at f|cons v l=>obtain⟨x,o,rfl,B,D⟩:=n.split;simp only[df,aL]at f;simp only[List.zip_cons_cons,List.all_cons,aL];exact⟨rn 9999 f.1 B,A l o f.2 D⟩
   have:=this _ _ _ b c;show(j.size==j.size&&(j.toList.zip j.toList).all λ(x,y)=>Instr.sameBits 9999 x y)=true;simp only[DZ,iI];exact this
  rw[z]at c;cases g:Hf K k with
  |nil=>rw[g]at c;have:=c.1;simp at this
  |cons v r=>rw[g]at c b;cases i:K.ks with|nil=>rw[i]at b;simp[df]at b|cons E F=>rw[i]at b;simp only[df,aL]at b;exact rn 10000 b.1 (c.2 0 v u rfl rfl)
 unfold Instr.keyThatStays;rw[t];rfl
def bW.map(q:bW M C β s w){o:Ky}{pl:Pl}(f:β o=some pl){es:List (HV×HV)}(h:ak s.h o=some (.mp es)):
  ∃c:Array MapEntry,w.heap[pl.b]?=some (.map c es.length)/\D2 β (Live M s β) w es c.toList/\∀i (x:MapEntry),c[i]?=some x->x.born=i:=by
 obtain⟨r,g,t⟩:=q.obj _ _ h;rw[f]at g;cases g;cases t with
 |mp _ c u j z=>
  have get:∀i (x:MapEntry),c[i]?=some x->∃k v,es[i]?=some (k,v)/\HR β (Live M s β) w k x.key/\HR β (Live M s β) w v x.val/\x.born=i:=by
   intro i x d;have l:i<es.length:=by rw[<-j];exact(rb.1 d).1
   obtain⟨y,m,A,B,D⟩:=z i es[i].1 es[i].2 (aR l);rw[d]at m;cases m;exact⟨_,_,aR l,A,B,D⟩
  refine⟨c,u,⟨by simpa using j,λi p x E d=>?_⟩,λi x d=>?_⟩
  .rw[l7]at d;obtain⟨k,v,n,F,G,_⟩:=get i x d;rw[E]at n;cases n;exact⟨F,G⟩
  obtain⟨_,_,_,_,_,H⟩:=get i x d;exact H
def O9(V:bW M C β s w)(he:dE β (Live M s β) w e a){go:Oper}{K:Kd}{m k:X}{z:HV}{ok:Bool}(g:aX P (.lkp K m k z ok) go.op=true):cm M C P β s w a go (B4 K m k z ok e s):=by
 cases n:go.op<;>rw[n]at g<;>try cases g
 rename_i t m' k' h8;simp only[aX,aL,bR]at g;obtain⟨⟨⟨hm,hk⟩,rfl⟩,g⟩:=g
 split at g
 case h_2=>cases g
 rename_i T E ht;simp only[aL]at g;obtain⟨W,c⟩:=g;have hzero:∃H,(zeroValue E).run P w=.ok H w/\∀N,HR β N w z H:=by
  split at c
  .rename_i cs B;obtain⟨h5,d,D⟩:=nR.1 B
   split at c
   .rename_i l;refine⟨.agg cs,by simp[zeroValue,typeInfo,d,D],λN=>?_⟩;have:=dC c β N w;exact .agg l cs (j8 _ _ c) (by simpa using this.1) λi v u Y I=>this.2 i v u Y (by simpa using I)
   cases c
  .rename_i v _ B;obtain⟨h5,d,D⟩:=nR.1 B;exact⟨v,by simp[zeroValue,typeInfo,d,D],λN=>mV c β N w⟩
  cases c
 obtain⟨H,J,L⟩:=hzero;unfold B4;cases h1:bp m e with
 |none=>trivial
 |some p=>
  cases h2:bp k e with
  |none=>cases p<;>trivial
  |some q=>
   have hp:=aD he hm h1;have O:=aD he hk h2;generalize I:a.eval m'=u at hp;generalize F:a.eval k'=u2 at O;have f:∀(v:HV) (x:Value) (b:Bool),HR β (Live M s β) w v x->HR β (Live M s β) w (bif ok then .bM [v,.bool b]else v) (if ok then .tuple #[x,.bool b]else x):=by
    intro v x b Y;cases ok with
    |false=>exact Y
    |true=>
     refine .bM _ _ rfl λi y z Q c=>?_
     match i with|0=>simp at Q c;subst Q;subst c;exact Y|1=>simp at Q c;subst Q;subst c;exact .bool b|i+2=>simp at Q
   cases hp with
   |fK=>simp only[];cases G:p9 K q with|false=>trivial|true=>refine .val (v:=bif ok then .bM [z,.bool false]else z) V ?_ (f z H false (L _));have A:=kK W G O true;obtain⟨o,Z,f2⟩:=jq W O (es:=[]) (l:=[]) ⟨rfl,by simp⟩ (r:=(0,none)) rfl;obtain⟨rfl,_⟩:=f2;simp only[execOp,n,I,F,Instr.lookup,Sem.run_bind,run_underlying ht,Result.andThen_ok,Sem.run_pure];simp[A,Z,J]
   |mp o pl h6=>
    simp only[];cases G:p9 K q with
    |false=>trivial
    |true=>
     simp only[cond_true];cases h3:ak s.h o with
     |none=>trivial
     |some ob=>
      cases ob with
      |mp es=>
       simp only[];obtain⟨h7,g1,g2,_⟩:=V.map h6 h3;cases h4:dM K es q 0 with
       |none=>trivial
       |some r=>obtain⟨o',Z,f2⟩:=jq (P:=P) W O g2 h4;have A:=kK (P:=P) W G O h7.isEmpty;obtain⟨j,vo⟩:=r;cases vo with|none=>obtain⟨rfl,_⟩:=f2;refine .val (v:=bif ok then .bM [z,.bool false]else z) V ?_ (f z H false (L _));simp only[execOp,n,I,F,Instr.lookup,Sem.run_bind,run_underlying ht,Result.andThen_ok,eC g1 rfl,Sem.run_pure,A,Z];simp[J]|some v=>obtain⟨x,_,_,rfl,f3,_⟩:=f2;refine .val (v:=bif ok then .bM [v,.bool true]else v) V ?_ (f v x.val true f3);simp only[execOp,n,I,F,Instr.lookup,Sem.run_bind,run_underlying ht,Result.andThen_ok,eC g1 rfl,Sem.run_pure,A,Z]
      |cells=>trivial
      |loop=>trivial
   |_=>trivial
def Pa(G:bW M C β s w)(A:dE β (Live M s β) w e a){go:Oper}{K:Kd}{neg:Bool}{x y:X}(k:aX P (.eqs K neg x y) go.op=true):cm M C P β s w a go (GY K neg x y e s):=by
 cases g:go.op<;>rw[g]at k<;>try cases k
 rename_i op t H I t2;simp only[aX,aL]at k;obtain⟨⟨⟨⟨⟨J,L⟩,cU⟩,l⟩,m⟩,N⟩:=k;unfold GY;cases O:bp x e with
 |none=>trivial
 |some p=>
  cases Q:bp y e with
  |none=>trivial
  |some q=>
   simp only[];cases T:ql K p q with
   |none=>trivial
   |some r=>
    have B:=aD A J O;have D:=aD A L Q;generalize V:a.eval H=u at B;generalize n:a.eval I=o at D;obtain⟨W,Y,Z⟩:=rk T;obtain⟨E,d2,d3⟩:=iq l W B;obtain⟨F,e2,e3⟩:=iq l Y D;have b:=l;simp only[mQ,aL,bR]at b;rw[m]at b;have i:(Op.equal t u o).run P w=.ok r w:=zj 8 9992 t K.ks b.1 u o _ _ r E F d2 e2 d3 e3 Z;obtain⟨f,rfl⟩:∃f,u=.agg f:=by
     rcases E with⟨_,h⟩|⟨h,_⟩
     .exact h
     rw[b.2]at h;cases h
    obtain⟨d,rfl⟩:∃f,o=.agg f:=by
     rcases F with⟨_,h⟩|⟨h,_⟩
     .exact h
     rw[b.2]at h;cases h
    have j:P.eqGuardType P.depth t=false:=by simpa using N
    refine .val (v:=.bool (r != neg)) (u:=.bool (r != neg)) G ?_ (.bool _);simp only[execOp,g,V,n]
    split at cU
    .have c:neg=false:=by simpa using cU
     subst c;have z:binOp .eql t (.agg f) (.agg d)=(do pure (.bool (<-Op.equal t (.agg f) (.agg d))):Sem Value):=rfl;simp[eqGuard,j,z,i]
    .have c:neg=true:=cU;subst c;have z:binOp .neq t (.agg f) (.agg d)=(do pure (.bool (!(<-Op.equal t (.agg f) (.agg d)))):Sem Value):=rfl;simp[eqGuard,j,z,i]
    cases cU
end sound
def gN{P:Program}{w:World}{r:Nat}{o o':Obj}(h:w.heap[r]?=some o)(b:jB o=true):(setObj r o').run P w=.ok () (dA w r o'):=by unfold setObj;simp only[Sem.run,h];cases o<;>first|rfl|(simp[jB]at b)
def kL:∀(es:List (HV×HV)) (i:Nat) (v:HV) (j:Nat),(lL es i v).length=es.length/\(lL es i v)[j]?=if j=i then(es[j]?).map (λp=>(p.1,v))else es[j]?
 |[],i,v,j=>⟨rfl,by simp[lL]⟩
 |(a,x)::r,i,v,j=>by
  simp only[lL];cases i with
  |zero=>have:Nat.beq 0 0=true:=rfl;rw[this];refine⟨rfl,?_⟩;cases j with|zero=>rfl|succ j=>simp
  |succ i=>have:Nat.beq (i+1) 0=false:=rfl;rw[this];obtain⟨b,_⟩:=kL r i v 0;refine⟨by simp only[cond_false,az,Pb,b],?_⟩;cases j with|zero=>simp|succ j=>obtain⟨_,c⟩:=kL r i v j;simp only[cond_false,List.getElem?_cons_succ,Pb,c,Nat.add_right_cancel_iff]
section sound
variable{M:aC}{C:eK}{P:Program}{β:Bt}{s:HS}{w:World}{e:En}{a:Act}
def bW.D5(j:bW M C β s w){o:Ky}{pl:Pl}(c:β o=some pl){es KZ:List (HV×HV)}(h:ak s.h o=some (.mp es)){Co:Array MapEntry}(B:Co.size=KZ.length)
  (D:∀(i:Nat) (k v:HV),KZ[i]?=some (k,v)->∃x,Co[i]?=some x/\HR β (Live M s β) w k x.key/\HR β (Live M s β) w v x.val/\x.born=i):
  bW M C β (s.aK o (.mp KZ)) (dA w pl.b (.map Co KZ.length))/\Ext M β s w β (s.aK o (.mp KZ)) (dA w pl.b (.map Co KZ.length)):=by
 obtain⟨E,l,_⟩:=j.map c h;refine j.p8 h c (by simp[dA]) (λb m=>bK w _ m) (jh l rfl) rfl rfl rfl (λr d=>by rw[l]at d;cases d) (λn=>?_) (λF z p q u f y n=>?_) (.inr ⟨by simp,by simp⟩)
 .exact .mp KZ Co (fp l) B λi k v A=>let⟨x,G,H,I,J⟩:=D i k v A;⟨x,G,H.keep (Bt.le_refl _) (gM.refl _ _) n,I.keep (Bt.le_refl _) (gM.refl _ _) n,J⟩
 obtain⟨_,t,Q,A,g,T,L,N,O,_⟩:=j.apart o F _ _ pl p h u c f q.symm y.symm;cases O
def Cp{K:Kd}{k:HV}:∀{es:List (HV×HV)} {b j:Nat} {v:HV},dM K es k b=some (j,some v)->b<=j/\j<b+es.length
 |[],b,j,v,h=>by cases h
 |(a,x)::r,b,j,v,h=>by
  simp only[dM]at h
  split at h
  .cases h;simp
  .have:=Cp h;simp only[az];omega
  cases h
def zl(G:bW M C β s w){o:Ky}{pl:Pl}(l:β o=some pl){es:List (HV×HV)}(h:ak s.h o=some (.mp es)){K:Kd}{T:TypeId}(H:mQ P K T=true){q:HV}{u:Value}(I:p9 K q=true)(E:HR β (Live M s β) w q u):
  ∃c:Array MapEntry,w.heap[pl.b]?=some (.map c es.length)/\(Instr.checkKey false 10000 T u).run P w=.ok () w/\
   (∀i J,dM K es q 0=some (i,some J)->∃x,c[i]?=some x/\x.key=u/\x.born=i/\HR β (Live M s β) w J x.val/\(Instr.findKey T u c.toList).run P w=.ok (some (i,x.val)) w/\
    ∀v z,HR β (Live M s β) w v z->bW M C β (s.aK o (.mp (lL es i v))) (dA w pl.b (.map (c.modify i λe=>{e with key:=u,val:=z}) es.length))/\
     Ext M β s w β (s.aK o (.mp (lL es i v))) (dA w pl.b (.map (c.modify i λe=>{e with key:=u,val:=z}) es.length)))/\
   (∀n,dM K es q 0=some (n,none)->(Instr.findKey T u c.toList).run P w=.ok none w/\
    ∀v z,HR β (Live M s β) w v z->bW M C β (s.aK o (.mp (es++[(q,v)]))) (dA w pl.b (.map (c.push {key:=u,val:=z,born:=es.length}) (es.length+1)))/\
     Ext M β s w β (s.aK o (.mp (es++[(q,v)]))) (dA w pl.b (.map (c.push {key:=u,val:=z,born:=es.length}) (es.length+1)))):=by
 obtain⟨c,Z,D,F⟩:=G.map l h;have f:c.size=es.length:=by have:=D.1;simpa using this
 refine⟨c,Z,kK H I E false,λi J L=>?_,λn L=>?_⟩
 .obtain⟨o',N,O⟩:=jq (P:=P) H E D L;obtain⟨x,_,m,rfl,f4,X⟩:=O;simp only[Nat.sub_zero]at m;rw[l7]at m;refine⟨x,m,X,F i x m,f4,N,λv z Q=>?_⟩;have Y:=(kL es i v 0).1;have:=G.D5 l h (KZ:=lL es i v) (Co:=c.modify i λe=>{e with key:=u,val:=z}) (by simp[f,Y]) (λj k V g=>by
   have d:=(kL es i v j).2;rw[g]at d;rw[zk];by_cases r:j=i
   .subst r;rw[ar rfl]at d;rw[ar rfl,m];cases t:es[j]?with
    |none=>rw[t]at d;cases d
    |some p=>rw[t]at d;cases d;have y:=D.2 j p x t (by rw[l7];exact m);exact⟨_,rfl,by rw[<-X];exact y.1,Q,F j x m⟩
   rw[au r]at d;rw[au (λe=>r e.symm)];have A:=(aS.1 d.symm).1;have B:c[j]?=some (c[j]'(by omega)):=fM (by omega);have y:=D.2 j (k,V) _ d.symm (by rw[l7];exact B);exact⟨_,B,y.1,y.2,F j _ B⟩)
  rw[Y]at this;exact this
 obtain⟨o',N,O⟩:=jq (P:=P) H E D L;obtain⟨rfl,_⟩:=O;refine⟨N,λv z Q=>?_⟩;have:=G.D5 l h (KZ:=es++[(q,v)]) (Co:=c.push {key:=u,val:=z,born:=es.length}) (by simp[f]) (λj k V g=>by
  rw[Ik];by_cases A:j=c.size
  .subst A;rw[iG (by omega),f]at g;simp only[oz,List.getElem?_cons_zero,bL,lx]at g;obtain⟨rfl,rfl⟩:=g;rw[ar rfl];exact⟨_,rfl,E,Q,f.symm⟩
  have W:j<es.length:=by have:=(aS.1 g).1;simp at this;omega
  rw[ea W]at g;rw[au A];have B:c[j]?=some (c[j]'(by omega)):=fM (by omega);have y:=D.2 j (k,V) _ g (by rw[l7];exact B);exact⟨_,B,y.1,y.2,F j _ B⟩)
 simpa using this
def Pd(hr:bW M C β s w)(F:dE β (Live M s β) w e a){go:Oper}{K:Kd}{m k v:X}(d:aX P (.mup K m k v) go.op=true):cm M C P β s w a go (GX K m k v e s):=by
 have b:∃t f g j,(go.op=.mapUpdate t f g j∨go.op=.insert t f g j)/\cO m f=true/\cO k g=true/\cO v j=true/\∃T E,P.underlying t=some (.map T E)/\mQ P K T=true:=by
  cases b:go.op<;>rw[b]at d<;>try cases d
  all_goals
   simp only[aX,aL]at d;obtain⟨⟨⟨y,A⟩,B⟩,d⟩:=d
   split at d
   .rename_i T E l
    first
     |exact⟨_,_,_,_,.inl rfl,y,A,B,T,E,l,d⟩
     |exact⟨_,_,_,_,.inr rfl,y,A,B,T,E,l,d⟩
   cases d
 obtain⟨t,f,g,j,b,y,A,B,T,E,l,Y⟩:=b;unfold GX;cases h1:bp m e with
 |none=>trivial
 |some p=>
  cases h2:bp k e with
  |none=>cases p<;>trivial
  |some q=>
   cases h3:bp v e with
   |none=>cases p<;>trivial
   |some z=>
    have Z:=aD F y h1;have G:=aD F A h2;have H:=aD F B h3;generalize hu:a.eval f=u at Z;generalize I:a.eval g=u2 at G;generalize J:a.eval j=L at H;have c:(execOp a.eval go).run P w=((Instr.mapUpdate t u u2 L).run P w).andThen λ_ w=>.ok .skip w:=by rcases b with b|b<;>simp[execOp,b,hu,I,J]
    cases Z with
    |mp o pl N=>
     simp only[];cases n:p9 K q with
     |false=>trivial
     |true=>
      simp only[cond_true];cases h4:ak s.h o with
      |none=>trivial
      |some ob=>
       cases ob with
       |mp es=>
        simp only[];obtain⟨h6,D,g2,g3,g4⟩:=zl hr N h4 Y n G;cases h5:dM K es q 0 with
        |none=>trivial
        |some r=>obtain⟨i,vo⟩:=r;cases vo with|none=>obtain⟨O,Q⟩:=g4 i h5;obtain⟨V,W⟩:=Q z L H;refine⟨Go.undef,_,β,.inr ⟨?_,rfl⟩,V,W,.undef⟩;rw[c];simp only[Instr.mapUpdate,Sem.run_bind,run_underlying l,Result.andThen_ok,eC D rfl,g2,O,gN D rfl]|some v0=>obtain⟨x,O,Q,k3,k4,k5,k6⟩:=g3 i v0 h5;obtain⟨V,W⟩:=k6 z L H;refine⟨Go.undef,_,β,.inr ⟨?_,rfl⟩,V,W,.undef⟩;rw[c];simp only[Instr.mapUpdate,Sem.run_bind,run_underlying l,Result.andThen_ok,eC D rfl,g2,k5,O,lO,hU,Q,Cn Y n G,gN D rfl]
       |cells=>trivial
       |loop=>trivial
    |_=>trivial
def Pe(hr:bW M C β s w)(he:dE β (Live M s β) w e a){go:Oper}{K:Kd}{m k:X}{z:HV}(D:aX P (.men K m k z) go.op=true):cm M C P β s w a go (G1 K m k z e s):=by
 cases J:go.op<;>rw[J]at D<;>try cases D
 rename_i t m' k';simp only[aX,aL]at D;obtain⟨⟨hm,hk⟩,D⟩:=D
 split at D
 case h_2=>cases D
 rename_i T E ht;simp only[aL]at D;obtain⟨hK,n⟩:=D;have hzero:∃V,(∀w,(zeroValue E).run P w=.ok V w)/\∀N,HR β N w z V:=by
  split at n
  .rename_i cs L;obtain⟨ha,A,O⟩:=nR.1 L
   split at n
   .rename_i l;refine⟨.agg cs,λw=>by simp[zeroValue,typeInfo,A,O],λN=>?_⟩;have:=dC n β N w;exact .agg l cs (j8 _ _ n) (by simpa using this.1) λi v u hv hu=>this.2 i v u hv (by simpa using hu)
   cases n
  .rename_i v _ L;obtain⟨ha,A,O⟩:=nR.1 L;exact⟨v,λw=>by simp[zeroValue,typeInfo,A,O],λN=>mV n β N w⟩
  cases n
 obtain⟨V,hd,Y⟩:=hzero;unfold G1;cases h1:bp m e with
 |none=>trivial
 |some p=>
  cases h2:bp k e with
  |none=>cases p<;>trivial
  |some q=>
   have hp:=aD he hm h1;have hq:=aD he hk h2;generalize hu:a.eval m'=u at hp;generalize Z:a.eval k'=u2 at hq;have H:∀{β':Bt} {N:aC} {w':World} (v:HV) (x:Value) (i:Nat),HR β' N w' v x->HR β' N w' (.bM [v,.int .i64 (.ofNat i)]) (.tuple #[x,goInt i]):=by
    intro β' N w' v x i hv;refine .bM _ _ rfl λj y z F n=>?_
    match j with|0=>simp at F n;subst F;subst n;exact hv|1=>simp at F n;subst F;subst n;exact .int .i64 (.ofNat i)|j+2=>simp at F
   cases hp with
   |mp o pl hf=>
    simp only[];cases h3:p9 K q with
    |false=>trivial
    |true=>
     simp only[cond_true];cases h4:ak s.h o with
     |none=>trivial
     |some ob=>
      cases ob with
      |mp d=>
       simp only[];obtain⟨G,g1,g2,g3,g4⟩:=zl hr hf h4 hK h3 hq;cases h5:dM K d q 0 with
       |none=>trivial
       |some r=>
        obtain⟨i,vo⟩:=r;cases vo with
        |none=>obtain⟨k1,k2⟩:=g4 i h5;obtain⟨B,f⟩:=k2 z V (Y _);simp only[];rw[bB];refine⟨.tuple #[V,goInt d.length],_,β,.inl ?_,B,f,H z V d.length ((Y _).ext f)⟩;simp only[execOp,J,hu,Z,Instr.mapEntry,Sem.run_bind,run_underlying ht,Result.andThen_ok,eC g1 rfl,g2,k1,hd,gN g1 rfl,Sem.run_pure]
        |some Q=>
         obtain⟨x,k1,k2,k3,k4,k5,k6⟩:=g3 i Q h5;obtain⟨B,f⟩:=k6 Q x.val k4;have h6:lL d i Q=d:=by
          apply Pf;intro j;rw[(kL d i Q j).2];by_cases W:j=i
          .subst W;rw[ar rfl];have:∀(d:List (HV×HV)) (I:Nat) (j:Nat),dM K d q I=some (j,some Q)->(d[j-I]?).map (λp=>(p.1,Q))=d[j-I]?:=by
            intro d
            induction d with
            |nil=>intro I j h;cases h
            |cons p d ih=>
             obtain⟨pk,pv⟩:=p;intro I j h;simp only[dM]at h
             split at h
             .cases h;simp
             .have k7:=Cp h;have:=ih (I+1) j h;rw[show j-I=(j-(I+1))+1 by omega];simpa using this
             cases h
           simpa using this d 0 j h5
          rw[au W]
         rw[h6]at B f;have k8:s.aK o (.mp d)={s with h:=ax (some (.mp d)) o s.h}:=rfl;have c:∀y,ak (s.aK o (.mp d)).h y=ak s.h y:=λy=>by
          show ak (ax (some (.mp d)) o s.h) y=_;rw[af];split
          .rename_i e;rw[e,h4]
          rfl
         have h7:∀b,Live M (s.aK o (.mp d)) β b↔Live M s β b:=λb=>or_congr Iff.rfl ⟨λ⟨y,ob,pl,a1,a2,a3⟩=>⟨y,ob,pl,by rw[<-c];exact a1,a2,a3⟩,λ⟨y,ob,pl,a1,a2,a3⟩=>⟨y,ob,pl,by rw[c];exact a1,a2,a3⟩⟩
         have hg:bW M C β s (dA w pl.b (.map (G.modify i λe=>{e with key:=u2,val:=x.val}) d.length)):=
          ⟨B.lt,λy ob F=>let⟨ho,b1,b2⟩:=B.obj y ob (by rw[c];exact F);⟨ho,b1,b2.keep (Bt.le_refl _) (λb _ hb=>(h7 b).2 hb) (cv.refl _ _) rfl⟩,
           λy y' ob hs hx k0 c1 c2=>B.apart y y' ob hs hx k0 (by rw[c];exact c1) (by rw[c];exact c2),λy t lo hi g F=>B.qq y t lo hi g (by rw[c];exact F),B.uv,B.mlt,hr.sf,B.yJ⟩
         have h8:Ext M β s w β s (dA w pl.b (.map (G.modify i λe=>{e with key:=u2,val:=x.val}) d.length)):=
          ⟨f.le,f.keeps,λb hb hl=>f.less b hb ((h7 b).2 hl),f.os,f.tape,f.output,f.loops,f.nx,f.ox⟩
         refine⟨.tuple #[x.val,goInt i],_,β,.inl ?_,hg,h8,H Q x.val i (k4.ext h8)⟩;have h9:(G.modify i λe=>{e with key:=u2})=(G.modify i λe=>{e with key:=u2,val:=x.val}):=by
          apply An;intro j;rw[zk,zk];by_cases W:i=j
          .subst W;rw[ar rfl,ar rfl,k1];rfl
          rw[au W,au W]
         simp only[execOp,J,hu,Z,Instr.mapEntry,Sem.run_bind,run_underlying ht,Result.andThen_ok,eC g1 rfl,g2,k5,k1,lO,hU,k2,Cn hK h3 hq,h9,gN g1 rfl,Sem.run_pure,k3]
      |cells=>trivial
      |loop=>trivial
   |_=>trivial
def Pg(N:bW M C β s w)(F:dE β (Live M s β) w e a){go:Oper}{m i v:X}(D:aX P (.mes m i v) go.op=true):cm M C P β s w a go (G2 m i v e s):=by
 cases y:go.op<;>rw[y]at D<;>try cases D
 rename_i t m' i' G;simp only[aX,aL]at D;obtain⟨⟨hm,hi⟩,hv⟩:=D;unfold G2;cases h1:bp m e with
 |none=>trivial
 |some p=>
  cases h2:bp i e with
  |none=>cases p<;>trivial
  |some q=>
   cases h3:bp v e with
   |none=>cases p<;>cases q<;>first|trivial|(rename_i k n;cases n<;>trivial)
   |some z=>
    have d:=aD F hm h1;have O:=aD F hi h2;have Q:=aD F hv h3;generalize hu:a.eval m'=u at d;generalize H:a.eval i'=u2 at O;generalize I:a.eval G=u3 at Q;cases d with
    |mp o pl A=>
     cases O with
     |int kd n=>
      cases n with
      |negSucc n=>trivial
      |ofNat n=>
       simp only[];cases T:ak s.h o with
       |none=>trivial
       |some ob=>
        cases ob with
        |mp x=>
         simp only[];cases h5:Nat.blt n (aM x)with
         |false=>trivial
         |true=>
          rw[ch,bB]at h5;simp only[cond_true];obtain⟨b,V,J,E⟩:=N.map A T;have L:b.size=x.length:=by have:=J.1;simpa using this
          have W:=(kL x n z 0).1;obtain⟨Y,Z⟩:=N.D5 A T (KZ:=lL x n z) (Co:=b.modify n λe=>{e with val:=u3}) (by simp[L,W]) (λj k G hj=>by
           have c:=(kL x n z j).2;rw[hj]at c;rw[zk];by_cases f:j=n
           .subst f;rw[ar rfl]at c;have g:b[j]?=some (b[j]'(by omega)):=fM (by omega);rw[ar rfl,g];cases l:x[j]?with
            |none=>rw[l]at c;cases c
            |some p=>rw[l]at c;cases c;have d:=J.2 j p _ l (by rw[l7];exact g);exact⟨_,rfl,d.1,Q,by simpa using E j _ g⟩
           rw[au f]at c;rw[au (λe=>f e.symm)];have h6:=(aS.1 c.symm).1;have g:b[j]?=some (b[j]'(by omega)):=fM (by omega);have d:=J.2 j (k,G) _ c.symm (by rw[l7];exact g);exact⟨_,g,d.1,d.2,E j _ g⟩)
          rw[W]at Y Z;refine⟨Go.undef,_,β,.inr ⟨?_,rfl⟩,Y,Z,.undef⟩;have r:b.findIdx? (λe=>(e.born:Int)==(Int.ofNat n))=some n:=by
           rw[Array.findIdx?_eq_some_iff_getElem];have B:n<b.size:=by omega
           refine⟨B,?_,λj hj=>?_⟩
           .have:=E n b[n] (fM B);simp[this]
           have:=E j b[j] (fM (by omega));simp[this];omega
          simp only[execOp,y,hu,H,I,Instr.entryStore,Sem.run_bind,eC V rfl,Result.andThen_ok,asInt,asIntOf,Sem.run_pure,r,gN V rfl]
        |cells=>trivial
        |loop=>trivial
     |_=>trivial
    |_=>trivial
def bW.FE(h:bW M C β s w){pl:Pl}(hM:¬M pl.b)(hb:pl.b<w.heap.size){ob:Ob}{t:Tr HV}{Z hi:Nat}{g:Ky}(A:ob=.cells t Z hi g)
  {ty:Tr (Nat×Nat)}(Q:ty=s.ty∨∃E,ty=ax (some (E,0)) s.nx s.ty/\yI w pl.b E 0)
  {gr:Tr cg}(T:∃ms,ak gr g=some ms/\s.nx∈ms)(q:∀p ms x,ak s.gr p=some ms->x∈ms->(∃ob,ak s.h x=some ob)->∃B,ak gr p=some B/\x∈B)(D:∀p ms,ak gr p=some ms->p.toNat<s.nx.succ.toNat)
  (F:∀o' jN c,ak s.h o'=some jN->β o'=some c->c.b=pl.b->c.s=pl.s/\∃G k l,jN=.cells G k l g)
  (hN:Live M s β pl.b∨∀o jN,ak s.h o=some jN->∃c,β o=some c/\Cc C β (λx=>x=pl.b∨Live M s β x) w c jN)
  (V:Cc C (β.add s.nx pl) (λx=>x=pl.b∨Live M s β x) w pl ob):
  bW M C (β.add s.nx pl) {h:=ax (some ob) s.nx s.h,nx:=s.nx.succ,gr:=gr,ty:=ty} w:=by
 subst A;have n:=h.fresh;have hle:β.le (β.add s.nx pl):=Bt.jO n;have j:∀x,Live M {h:=ax (some (.cells t Z hi g)) s.nx s.h,nx:=s.nx.succ,gr:=gr,ty:=ty} (β.add s.nx pl) x->x=pl.b∨Live M s β x:=by
  rintro x (O|⟨o,jN,c,i,d,rfl⟩)
  .exact .inr (.inl O)
  simp only[af]at i;unfold Bt.add at d;by_cases f:o=s.nx
  .simp only[f,bj,bL]at d;subst d;exact .inl rfl
  simp only[f,bn]at i d;exact .inr (.inr ⟨o,jN,c,i,d,rfl⟩)
 refine⟨λo c f=>?_,λo jN f=>?_,λo o' H I J L i d y r N u=>?_,λo G k l p f=>?_,D,h.mlt,?_,h.Il rfl (Q.imp id λ⟨E,i,d⟩=>⟨E,0,i,d,λh=>absurd rfl h⟩)⟩
 rotate_right
 .rintro x O ⟨o,jN,c,i,d,rfl⟩
  simp only[af]at i;unfold Bt.add at d;by_cases f:o=s.nx
  .simp only[f,bj,bL]at d;subst d;exact hM O
  simp only[f,bn]at i d;exact h.sf _ O ⟨o,jN,c,i,d,rfl⟩
 .unfold Bt.add at f;rw[Ky.aV];by_cases m:o=s.nx
  .simp only[m,bj,bL]at f;subst f;subst m;exact⟨by omega,hb⟩
  simp only[m,bn]at f;have:=h.lt o c f;omega
 .simp only[af]at f;by_cases m:o=s.nx
  .simp only[m,bj,bL]at f;subst f;subst m;exact⟨pl,by simp[Bt.add],V.keep (Bt.le_refl _) (λx _ v=>j x v) (cv.refl _ _) rfl⟩
  simp only[m,bn]at f;rcases hN with hl|hg
  .obtain⟨c,i,d⟩:=h.obj o jN f;refine⟨c,hle _ _ i,d.keep hle (λx _ v=>?_) (cv.refl _ _) rfl⟩;rcases j x v with rfl|v
   .exact hl
   exact v
  obtain⟨c,i,d⟩:=hg o jN f;exact⟨c,hle _ _ i,d.keep hle (λx _ v=>j x v) (cv.refl _ _) rfl⟩
 .simp only[af]at i d;unfold Bt.add at y r;by_cases W:o=s.nx
  .simp only[W,bj,bL]at i y;have z:o'≠s.nx:=λz=>N (W.trans z.symm)
   simp only[z,bn]at d r;subst y;subst i;obtain⟨X,G,k,l,Y⟩:=F o' I L d r u.symm;exact⟨X.symm,_,_,_,_,_,_,_,rfl,Y⟩
  simp only[W,bn]at i y;by_cases z:o'=s.nx
  .simp only[z,bj,bL]at d r;subst r;subst d;obtain⟨X,G,k,l,Y⟩:=F o H J i y u;exact⟨X,_,_,_,_,_,_,_,Y,rfl⟩
  simp only[z,bn]at d r;exact h.apart o o' H I J L i d y r N u
 simp only[af]at f;by_cases m:o=s.nx
 .simp only[m,bj,bL]at f;cases f;subst m;exact T
 simp only[m,bn]at f;obtain⟨ms,i,d⟩:=h.qq o G k l p f;exact q p ms o i d ⟨_,f⟩
def Cc.cut{N:aC}{pl:Pl}{t:Tr HV}{c d b:Nat}{g:Ky}(h:Cc C β N w pl (.cells t c d g))(q:b<=d):Cc C β N w pl (.cells t c b g):=by cases h with|cells _ _ _ _ f E i j l m r n=>exact .cells t c b g f E i j l m (by omega) λk v o u p=>n k v o (by omega) p
def bW.spare(h:bW M C β s w){b:Nat}{cs:Array Value}{E:TypeId}{fr:Nat×Nat}(j:w.heap[b]?=some (.cells cs E fr))(l:il s β b){p:Nat}{vs:List Value}(m:p+vs.length<=cs.size)
  (f:∀o' d N q x O,ak s.h o'=some (.cells N q x O)->β o'=some d->d.b=b->∀k,q<=k->k<x->¬(p<=k-d.s/\k-d.s<p+vs.length)):
  bW M C β s (dA w b (.cells (nb cs p vs) E fr))/\Ext M β s w β s (dA w b (.cells (nb cs p vs) E fr)):=by
 have Q:Live M s β b:=.inr l;have y:cv (Live M s β) w (dA w b (.cells (nb cs p vs) E fr)):=⟨by simp[dA],λz _ T=>bK w _ λe=>T (by rw[e];exact Q),rm j (eS vs cs p)⟩;refine⟨⟨λo pl i=>⟨(h.lt o pl i).1,by have:=(h.lt o pl i).2;simpa[dA]using this⟩,λo ob i=>?_,h.apart,h.qq,h.uv,λb D=>by have:=h.mlt b D;simpa[dA]using this,h.sf,λo E n i=>let⟨pl,A,B,V⟩:=h.yJ o E n i;⟨pl,A,B.keep y,V⟩⟩,Bt.le_refl _,y,gM.refl _ _,rfl,rfl,rfl,λz r F=>?_,aW _,λz D=>bK w _ λe=>h.sf z D (by rw[e];exact l)⟩
 .obtain⟨pl,A,B⟩:=h.obj o ob i;refine⟨pl,A,?_⟩;by_cases e:pl.b=b
  .cases B with
   |cells t G H g W E' X Y c Z hn hc=>
    rw[e,j]at c;cases c;refine .cells t G H g _ E fr Y (by rw[e];exact fp j) (by rw[eS];exact Z) (by rw[eS];exact hn) λk v I J a3=>?_
    obtain⟨b1,u,b2,b3⟩:=hc k v I J a3;refine⟨b1,u,?_,b3.keep (Bt.le_refl _) (gM.refl _ _) y⟩;rw[rl vs cs p _ m,au (f o pl t G H g i A e k I J)];exact b2
   |mp es h4 c=>rw[e,j]at c;cases c
   |loop st L tm ps h5 body r nt keep c=>rw[e,j]at c;cases c
  exact B.keep (Bt.le_refl _) (gM.refl _ _) y (bK w _ e)
 by_cases e:z=b
 .subst e;rw[j]at F;cases F
 exact⟨r,by rw[bK w _ e];exact F⟩
def oD(M:aC)(C:eK)(β:Bt)(s:HS)(w:World)(run:Result Value):cR->Prop
 |.v v s'=>∃u b c,run=.ok u b/\bW M C c s' b/\Ext M β s w c s' b/\HR c (Live M s' c) b v u
 |.bad=>True
 |_=>False
def rp{sz dP:Nat}{tx:TypeId}{y:Value}{b:List Value}{new:aj}(c:Src P sz tx y dP b w){N:aC}(d:eJ β N w new b):new.length=dP*sz:=by rw[<-d.1,c.newsLen]
def pK(w:World)(o:Obj):(w.drew.alloc o).heap[w.heap.size]?=some o:=by show(w.heap.push o)[w.heap.size]?=_;simp
def D6(w:World)(o:Obj):w.heap.size<(w.drew.alloc o).heap.size:=by show _<(w.heap.push o).size;simp
def sw(w:World){E:TypeId}{z:Value}{sz len dP cap:Nat}(c:z.cells.size=sz){oE d:List Value}(f:oE.length=len*sz)(g:d.length=dP*sz)(w':World)(b:Nat)
  (h:w'.heap[b]?=some (.cells ((oE++d).toArray++Builtin.zeroCells z.cells (grownCap w (len+dP) cap E-(len+dP))) E)):
  ov w' b E (grownCap w (len+dP) cap E*sz):=by
 refine⟨_,(0,0),h,?_⟩;have i:=grownCap_ge w (len+dP) cap E;rw[Ph,size_zeroCells,c];simp only[IH,cA,f,g];rw[<-Nat.add_mul,<-Nat.add_mul]
 congr 1;omega
def jF(D:bW M C β s w){f:bE}{t tx ty E:TypeId}(n:∀F,f=some F->F=E){info:TypeInfo}{z:Value}(G:P.underlying t=some (.slice E))(H:P.info? E=some info)(J:info.zero=some z)(p:z.cells.size=info.size){bw:Nat}(q:bw*info.bytes<=140737488355328)(L:bw<=140737488355328)
  {y:Value}{dP:Nat}{b:List Value}(d:Src P info.size tx y dP b w){new:aj}(r:eJ β (Live M s β) w new b)(g:∀x∈new,x.one=true):
  oD M C β s w ((Builtin.append_ #[t,tx] ty #[.slice none 0 0,y]).run P w) (s.append info.size bw f .ah new dP):=by
 have u:=rp d r;show oD M C β s w _ (bif Nat.beq dP 0 then .v .ah s else bif Nat.ble dP bw then s.B2 (DQ f s) new (λo=>.sl o 0 dP info.size)else .bad);cases h0:Nat.beq dP 0 with
 |true=>rw[bh]at h0;subst h0;have:b=[]:=iJ (by rw[d.newsLen];simp);subst this;exact⟨_,w,β,run_append_nothing (P:=P) w t tx ty E info G H none 0 0 (aW _) y d,D,Ext.refl _ _ _,.ah⟩
 |false=>
  cases O:Nat.ble dP bw with
  |false=>trivial
  |true=>
   rw[eb]at O;have h0:dP≠0:=λh=>by rw[h]at h0;cases h0
   simp only[cond_false,cond_true];rw[pJ];have i:=run_append_grow_src (P:=P) w t tx ty E info z G H J none 0 0 [] (by simp[Builtin.firstCells]) y dP b d (by omega) (by omega) (growslice_fits (by omega) (fz (jD _ (by omega)) q));have Q:bW M C β s w.drew:=D.drawn rfl;have k:Ext M β s w β s w.drew:=Ext.drawn rfl rfl rfl rfl;have A:=r.ext k;obtain⟨I,T,V,W⟩:=Q.newRow (l:=new) (cs:=([]++b).toArray++Builtin.zeroCells z.cells (grownCap w (0+dP) 0 E-(0+dP))) (E:=E) (fr:=(0,0)) (ty:=DQ f s) (by
     cases f with
     |none=>exact .inl rfl
     |some F=>rw[n F rfl];exact .inr ⟨0,rfl,.inl rfl⟩) (.inl rfl) (by simp[u,d.newsLen]) (λj v B=>by
    have c:j<b.length:=by rw[r.1];exact(aS.1 B).1
    refine⟨g v (cG B),b[j],?_,A.2 j v _ B (aR c)⟩;rw[D7 (by simpa using c)];simp[c])
   refine⟨_,_,I,i,T,k.trans V,?_⟩;have X:=grownCap_ge w (0+dP) 0 E;have m:=sw w (E:=E) (cap:=0) p (oE:=[]) (len:=0) (by simp) d.newsLen (w.drew.alloc (.cells (([]++b).toArray++Builtin.zeroCells z.cells (grownCap w (0+dP) 0 E-(0+dP))) E)) w.heap.size (pK _ _);have:=λN=>HR.sl (β:=I) (N:=N) s.nx 0 dP info.size (grownCap w (0+dP) 0 E) _ ⟨w.heap.size,0⟩ W (aW _) (by omega) ⟨E,m⟩ (by simp)
   simpa using this _
def Cq(p:bW M C β s w){o:Ky}{t0:Tr HV}{J L:Nat}{g:Ky}(ho:ak s.h o=some (.cells t0 J L g)){ms:cg}(F:ak s.gr g=some ms){A B:Nat}{h0 j:Tr Ob}{q f:cg}(hk:eL s.h 12 ms=(h0,q))(hq:bI h0 o A B q=(j,f))
  {t:Tr HV}{I hi:Nat}{l:Ky}(u:ak j o=some (.cells t I hi l))(hA:A<=hi):
  l=g/\bW M C β {h:=ax (some (.cells t I A g)) o j,nx:=s.nx,gr:=ax (some f) g s.gr,ty:=s.ty} w/\Ext M β s w β {h:=ax (some (.cells t I A g)) o j,nx:=s.nx,gr:=ax (some f) g s.gr,ty:=s.ty} w/\
   (∀x D c d,x≠o->ak j x=some (.cells D c d g)->¬(c<B/\A<d)):=by
 obtain⟨N,O,k3⟩:=qu 12 ms s.h;rw[hk]at N O k3;obtain⟨Q,T,q3⟩:=na o A B h0 q;rw[hq]at Q T q3;simp only at N O k3 Q T q3;have k:∀{x ob},ak h0 x=some ob->ak s.h x=some ob:=λ{x ob} b=>by
  rcases N x with e|e
  .rw[<-e];exact b
  rw[e]at b;cases b
 have i:∀{x ob},ak j x=some ob->ak h0 x=some ob:=λ{x ob} b=>by
  rcases Q x with e|⟨e,_⟩
  .rw[<-e];exact b
  rw[e]at b;cases b
 have m:∀x,ak j x=ak s.h x∨ak j x=none:=λx=>by cases e:ak j x with|none=>exact .inr rfl|some ob=>exact .inl (k (i e)).symm
 have v:∀{x ob},ak j x=some ob->ak s.h x=some ob:=λ{x ob} b=>k (i b)
 have hg:l=g:=by have:=v u;rw[ho]at this;cases this;rfl
 subst hg;have n:∀{x D c d},ak j x=some (.cells D c d l)->x∈f/\(x≠o->¬(c<B/\A<d)):=λ{x D c d} b=>by obtain⟨V,E,g2⟩:=p.qq _ _ _ _ _ (v b);rw[F]at E;cases E;exact T x (O x g2 _ (i b)) _ _ _ _ b
 have y:bW M C β {h:=j,nx:=s.nx,gr:=ax (some f) l s.gr,ty:=s.ty} w:=p.sub m (λx D c d E b=>by
  simp only[af];by_cases G:E=l
  .subst G;rw[ar rfl];exact⟨f,rfl,(n b).1⟩
  .rw[au G];exact p.qq _ _ _ _ _ (v b)) (λE V z=>by
  simp only[af]at z;by_cases G:E=l
  .subst G;exact p.uv _ _ F
  rw[au G]at z;exact p.uv _ _ z)
 have W:Ext M β s w β {h:=j,nx:=s.nx,gr:=ax (some f) l s.gr,ty:=s.ty} w:=Ext.sub m;obtain⟨pl,X,Y⟩:=y.obj o _ u;obtain⟨r1,r2⟩:=y.p8 (w':=w) (jN:=.cells t I A l) u X rfl (λ_ _=>rfl) (λ_ _ _ h=>h) rfl rfl rfl (λr p=>⟨r,p⟩) (λ_=>Y.cut hA) (λo' H h3 _ h1 h2 _ _=>by
  obtain⟨h4,c1,c2⟩:=y.obj o' H h1;rw[h2]at c1;cases c1;exact c2) (.inl ⟨_,_,_,_,_,_,_,rfl,rfl⟩)
 exact⟨rfl,r1,W.trans r2,λx D c d Z b=>(n b).2 Z⟩
def mb(hr:bW M C β s w){tg:bE}{t tx ty E:TypeId}(x6:∀F,tg=some F->F=E){info:TypeInfo}{z:Value}(ht:P.underlying t=some (.slice E))(hi:P.info? E=some info)(hz:info.zero=some z)(km:z.cells.size=info.size){bw:Nat}(x7:bw*info.bytes<=140737488355328)(xy:bw<=140737488355328)
  {y:Value}{dP:Nat}{i:List Value}(L:Src P info.size tx y dP i w){new:aj}(hn:eJ β (Live M s β) w new i)(k6:∀x∈new,x.one=true){o:Ky}{bm len kc:Nat}{xv:Value}(hx:HR β (Live M s β) w (.sl o bm len kc) xv):
  oD M C β s w ((Builtin.append_ #[t,tx] ty #[xv,y]).run P w) (s.append info.size bw tg (.sl o bm len kc) new dP):=by
 have kn:=rp L hn;unfold HS.append;simp only[];cases h0:Nat.beq dP 0 with
 |true=>rw[bh]at h0;subst h0;have:i=[]:=iJ (by rw[L.newsLen];simp);subst this;have ko:=hx;cases hx with|sl _ _ _ _ cap n pl O x8 hl hb kp=>exact⟨_,w,β,run_append_nothing (P:=P) w t tx ty E info ht hi _ len cap hl y L,hr,Ext.refl _ _ _,ko⟩|pF _ _ _ b k=>exact⟨_,w,β,run_append_nothing (P:=P) w t tx ty E info ht hi _ 0 0 (aW _) y L,hr,Ext.refl _ _ _,ko⟩
 |false=>
 have h0:dP≠0:=λh=>by rw[h]at h0;cases h0
 simp only[cond_false];cases kq:Nat.beq info.size kc with
 |false=>trivial
 |true=>
 rw[bh]at kq;subst kq;simp only[nV,cond_false];cases ho:ak s.h o with
 |none=>trivial
 |some x9=>
 cases x9 with
 |mp es=>trivial
 |loop=>trivial
 |cells t0 xz y0 g=>
 simp only[];cases kr:ak s.gr g with
 |none=>trivial
 |some ms=>
 simp only[];generalize hk:eL s.h 12 ms=q0;obtain⟨xa,xb⟩:=q0;simp only[];generalize hq:bI xa o (bm+len*info.size) (bm+len*info.size+aM new) xb=q1;obtain⟨h',r⟩:=q1;simp only[];cases xc:ak h' o with
 |none=>trivial
 |some xd=>
 cases xd with
 |mp es=>trivial
 |loop=>trivial
 |cells tr lo xe B=>
 simp only[];cases h8:(iW o r&&Nat.ble lo bm&&Nat.ble (bm+len*info.size) xe&&Nat.ble (len+dP) bw)with
 |false=>trivial
 |true=>
 simp only[aL,eb]at h8;obtain⟨⟨⟨c1,c2⟩,c3⟩,c4⟩:=h8;obtain⟨rfl,Q,x1,c5⟩:=Cq hr ho kr hk hq xc c3;simp only[cond_true];generalize hA:bm+len*info.size=A at*;rw[bB]at*;generalize h5:({h:=ax (some (.cells tr lo A B)) o h',nx:=s.nx,gr:=ax (some r) B s.gr,ty:=s.ty}:HS)=s2 at*;have h6:ak s2.h o=some (.cells tr lo A B):=by rw[<-h5];simp[af]
 have h9:s2.nx=s.nx:=by rw[<-h5]
 have ks:s2.ty=s.ty:=by rw[<-h5]
 have k7:lJ tg o s=s2.ty∨(lJ tg o s=ax (some (E,0)) s2.nx s2.ty/\∃n,ak s.ty o=some (E,n)):=by
  unfold lJ;rw[ks,h9];cases tg with
  |none=>exact .inl rfl
  |some F=>
   rw[x6 F rfl];cases hq:ak s.ty o with
   |none=>exact .inl rfl
   |some p=>obtain⟨T,n⟩:=p;simp only[];cases he:Nat.beq T E with|false=>exact .inl rfl|true=>rw[bh]at he;subst he;exact .inr ⟨rfl,n,rfl⟩
 have kt:=hn.ext x1;obtain⟨pl,O,xf⟩:=Q.obj o _ h6;have ku:(len+dP)*info.bytes<=140737488355328:=fz (jD _ c4) x7;have kd:∃oE:List Value,oE.length=len*info.size/\∃q T fr,w.heap[pl.b]?=some (.cells q T fr)/\Ii fr q.size/\pl.s<=bm/\A-pl.s<=q.size/\(∀j,j<len*info.size->q[bm-pl.s+j]?=oE[j]?)/\
   (∀k v,bm<=k->k<A->fE tr k=some v->v.one=true/\∃u,oE[k-bm]?=some u/\HR β (Live M s2 β) w v u):=by
  cases xf with
  |cells _ _ _ _ q T fr xg hb hf xi hc=>
   have hle:bm-pl.s+len*info.size<=q.size:=by omega
   refine⟨(q.toList.drop (bm-pl.s)).take (len*info.size),by simp;omega,q,T,fr,hb,hf,by omega,xi,λj hj=>?_,λk v a1 a2 V=>?_⟩
   .rw[rh hj,l6,l7]
   obtain⟨b1,u,b2,b3⟩:=hc k v (by omega) a2 V;refine⟨b1,u,?_,b3⟩;rw[rh (by omega),l6,l7,show bm-pl.s+(k-bm)=k-pl.s by omega];exact b2
 obtain⟨oE,ol,q,T,fr,hb,hf,x8,y3,FF,ha⟩:=kd;have D:il s2 β pl.b:=⟨o,_,pl,h6,O,rfl⟩;have W:Live M s2 β pl.b:=.inr D;have hg:∀g1 h7,ak (ax (some (s.nx::r)) B s.gr) g1=some h7->g1.toNat<s2.nx.succ.toNat:=λg1 h7 ke=>by
  rw[h9,Ky.aV];simp only[af]at ke;by_cases eg:g1=B
  .subst eg;have:=hr.uv _ _ kr;omega
  rw[au eg]at ke;have:=hr.uv _ _ ke;omega
 have hy:∀g1 h7 x,ak s2.gr g1=some h7->x∈h7->(∃ob,ak s2.h x=some ob)->∃k0,ak (ax (some (s.nx::r)) B s.gr) g1=some k0/\x∈k0:=λg1 h7 x f l _=>by
  rw[<-h5]at f;simp only[af]at f ⊢;by_cases eg:g1=B
  .rw[ar eg]at f ⊢;cases f;exact⟨_,rfl,by simp[l]⟩
  rw[au eg]at f ⊢;exact⟨_,f,l⟩
 have kv:({h:=ax (some (.cells (cY new A tr) bm (A+new.length) B)) s.nx (ax (some (.cells tr lo A B)) o h'),nx:=s.nx.succ,gr:=ax (some (s.nx::r)) B s.gr,ty:=lJ tg o s}:HS)=
   {h:=ax (some (.cells (cY new A tr) bm (A+new.length) B)) s2.nx s2.h,nx:=s2.nx.succ,gr:=ax (some (s.nx::r)) B s.gr,ty:=lJ tg o s}:=by rw[<-h5]
 rw[kv];have k8:∃k0,ak (ax (some (s.nx::r)) B s.gr) B=some k0/\s2.nx∈k0:=⟨s.nx::r,by rw[af,ar rfl],by rw[h9];simp⟩;have grow:∀(Ad:Option Addr) (cap:Nat),xv=.slice Ad len cap->cap<len+dP->(Builtin.firstCells info.size len (.slice Ad len cap)).run P w.drew=.ok oE.toArray w.drew->
   oD M C β s w ((Builtin.append_ #[t,tx] ty #[xv,y]).run P w) (.v (.sl s.nx bm (len+dP) info.size) {h:=ax (some (.cells (cY new A tr) bm (A+new.length) B)) s2.nx s2.h,nx:=s2.nx.succ,gr:=ax (some (s.nx::r)) B s.gr,ty:=lJ tg o s}):=by
  intro Ad cap xj kx xk;subst xj;have Z:=run_append_grow_src (P:=P) w t tx ty E info z ht hi hz Ad len cap oE xk y dP i L kx (by omega) (growslice_fits kx ku);have xl:=grownCap_ge w (len+dP) cap E;let cells:Array Value:=(oE++i).toArray++Builtin.zeroCells z.cells (grownCap w (len+dP) cap E-(len+dP));have hd:bW M C β s2 w.drew:=Q.drawn rfl;have xm:Ext M β s2 w β s2 w.drew:=Ext.drawn rfl rfl rfl rfl;have hp:bW M C β s2 (w.drew.alloc (.cells cells E)):=hd.push _;have H:Ext M β s2 w β s2 (w.drew.alloc (.cells cells E)):=xm.trans (Ext.push hd.mlt β s2 _);have hN:¬Live M s2 β w.heap.size:=λh=>gF _ (Live.lt Q h)
  have I:∀{v u},HR β (Live M s2 β) w v u->HR (β.add s2.nx ⟨w.heap.size,bm⟩) (λx=>x=w.heap.size∨Live M s2 β x) (w.drew.alloc (.cells cells E)) v u:=λ{v u} h=>h.keep (Bt.jO Q.fresh) (λb hb hx=>hx.resolve_left (by omega)) H.keeps
  have kg:=sw w (E:=E) (cap:=cap) km ol L.newsLen (w.drew.alloc (.cells cells E)) w.heap.size (pK _ _);have G:=hp.FE (pl:=⟨w.heap.size,bm⟩) (λhm=>gF _ (Q.mlt _ hm)) (D6 _ _) (ob:=.cells (cY new A tr) bm (A+new.length) B) rfl (k7.imp id λh=>⟨E,h.1,_,kg,.inl rfl⟩) k8 hy hg (λo' J d f l h3=>absurd (.inr ⟨o',J,d,f,l,h3⟩) hN)
   (.inr λo' J f=>by
    obtain⟨d,a1,a2⟩:=Q.obj o' J f;exact⟨d,a1,a2.keep (Bt.le_refl _) (λb hb hx=>hx.resolve_left (by show¬b=w.heap.size;omega)) H.keeps (gy w _ (Q.lt _ _ a1).2)⟩)
   (by
    refine .cells _ bm _ _ cells E (0,0) (aW _) (pK _ _) (.inl rfl) (by simp only[cells,Ph,IH,cA];rw[ol,L.newsLen];omega) λk v a1 a2 V=>?_
    rw[fj]at V;have xn:cells[k-bm]?=(oE++i)[k-bm]?:=by simp only[cells];rw[D7 (by simp only[IH,cA];rw[ol,L.newsLen];omega)];simp
    rw[xn];by_cases k1:A<=k/\k<A+new.length
    .rw[ar k1]at V;have k2:k-A<i.length:=by rw[L.newsLen,<-kn];omega
     refine⟨k6 v (cG V),i[k-A],?_,I (kt.2 (k-A) v _ V (aR k2))⟩;rw[iG (by omega),show k-bm-oE.length=k-A by omega];exact aR k2
    rw[au k1]at V;obtain⟨b1,u,b2,b3⟩:=ha k v a1 (by omega) V;exact⟨b1,u,by rw[ea (by omega)];exact b2,I b3⟩)
  refine⟨_,_,_,Z,G,x1.trans ⟨Bt.jO Q.fresh,H.keeps,?_,H.os,H.tape,H.output,H.loops,by show s2.nx.toNat<=s2.nx.succ.toNat;rw[Ky.aV];omega,H.ox⟩,?_⟩
  .rintro b ky (hm|⟨o',J,d,f,l,rfl⟩)
   .exact .inl hm
   simp only[af]at f;unfold Bt.add at l;by_cases e:o'=s2.nx
   .rw[ar e]at l;cases l;exact absurd ky (gF _)
   rw[au e]at f l;exact .inr ⟨o',J,d,f,l,rfl⟩
  have k3:=sw w (E:=E) (cap:=cap) km ol L.newsLen (w.drew.alloc (.cells cells E)) w.heap.size (pK _ _);have:=λN=>HR.sl (β:=β.add s2.nx ⟨w.heap.size,bm⟩) (N:=N) s2.nx bm (len+dP) info.size (grownCap w (len+dP) cap E) _ ⟨w.heap.size,bm⟩ (by simp[Bt.add]) (aW _) xl ⟨E,k3⟩ (by simp)
  rw[<-h9];simpa using this _
 cases hx with
 |pF _ _ _ b k=>have xo:oE=[]:=iJ (by rw[ol];simp);exact grow _ 0 rfl (by omega) (by rw[xo];simp[Builtin.firstCells,loadCells,loadCellsFrom])
 |sl _ _ _ _ cap n c k9 ka hl k3 kp=>
  have xp:c=pl:=by have:=x1.le _ _ k9;rw[O]at this;cases this;rfl
  subst xp;by_cases X:len+dP<=cap
  .
   obtain⟨E1,y4,y5,q1,q2⟩:=k3;rw[hb]at q1;cases q1;have xq:q.size=n:=q2;have hmul:(len+dP)*info.size<=cap*info.size:=jD _ X;rw[qs]at hmul;have kb:(A-c.s)+i.length<=q.size:=by rw[L.newsLen];omega
   have kz:i.length=new.length:=by rw[L.newsLen,kn]
   have k4:∀j,j<i.length->(w.cell? ⟨c.b,bm-c.s+len*info.size+j,none⟩).isSome=true:=λj hj=>by
    have:bm-c.s+len*info.size+j<q.size:=by omega
    simp[World.cell?,hb,fM this]
   have x0:∀j,j<i.length->w.frozen? ⟨c.b,bm-c.s+len*info.size+j,none⟩=false:=λj hj=>by
    simp only[World.frozen?,hb];rcases hf with rfl|hf
    .simp
    simp;omega
   have Z:=run_append_room_src (P:=P) w t tx ty E info ht hi c.b (bm-c.s) len cap y dP i L X k4 x0;have e0:bm-c.s+len*info.size=A-c.s:=by omega
   have xr:=run_storeCells_cells (P:=P) c.b (bm-c.s+len*info.size) i 0 w (by simpa using k4) (by simpa using x0) L.one;have ki:=iK (P:=P) c.b (bm-c.s+len*info.size) T fr i 0 w q hb hf (by omega) L.one;rw[xr]at ki;simp only[gH,Result.ok.injEq,true_and]at ki;have xt:w.setCells c.b (bm-c.s+len*info.size) i=dA w c.b (.cells (nb q (A-c.s) i) T fr):=by rw[ki,e0];rfl
   rw[xt]at Z;obtain⟨r2,x2⟩:=Q.spare hb D (p:=A-c.s) (vs:=i) kb (λx d t1 kj x3 g1 Y k5 xu k a1 a2=>by
    obtain⟨xx,y1,y2⟩:=Q.obj _ _ Y;rw[k5]at y1;cases y1;have xg:d.s<=kj:=by cases y2;assumption
    by_cases ex:x=o
    .subst ex;rw[h6]at Y;cases Y;rw[O]at k5;cases k5;omega
    obtain⟨z1,_,_,_,_,_,_,_,z2,z3⟩:=Q.apart x o _ _ d c Y h6 k5 O ex xu;cases z2;cases z3;have x4:ak h' x=some (.cells t1 kj x3 B):=by rw[<-h5]at Y;simp only[af]at Y;rwa[au ex]at Y
    have:=c5 x t1 kj x3 ex x4;rw[z1,kz];omega)
   have kk:(dA w c.b (.cells (nb q (A-c.s) i) T fr)).heap[c.b]?=some (.cells (nb q (A-c.s) i) T fr):=fp hb;have x5:=rl i q (A-c.s);have I:∀{v u},HR β (Live M s2 β) w v u->HR (β.add s2.nx c) (λx=>x=c.b∨Live M s2 β x) (dA w c.b (.cells (nb q (A-c.s) i) T fr)) v u:=λ{v u} h=>
    h.keep (Bt.jO Q.fresh) (λb hb hx=>by
     rcases hx with rfl|hx
     .exact W
     exact hx) x2.keeps
   have kl:lJ tg o s=s2.ty∨∃E,lJ tg o s=ax (some (E,0)) s2.nx s2.ty/\yI (dA w c.b (.cells (nb q (A-c.s) i) T fr)) c.b E 0:=by
    rcases k7 with h|⟨f,n,l⟩
    .exact .inl h
    obtain⟨d,h3,⟨m,h4,_⟩,_⟩:=hr.yJ o E n l;rw[k9]at h3;cases h3;exact .inr ⟨E,f,m,x2.keeps.has _ _ _ h4,.inl rfl⟩
   have G:=r2.FE (pl:=c) (λhm=>Q.sf _ hm D) (lt_of_block kk) (ob:=.cells (cY new A tr) bm (A+new.length) B) rfl kl k8 hy hg (λo' J d f l h3=>by
     by_cases ex:o'=o
     .subst ex;rw[h6]at f;cases f;rw[O]at l;cases l;exact⟨rfl,_,_,_,rfl⟩
     obtain⟨z1,_,_,_,_,_,_,_,z2,z3⟩:=Q.apart o' o _ _ d c f h6 l O ex h3;cases z3;exact⟨z1,_,_,_,z2⟩)
    (.inl W)
    (by
     refine .cells _ bm _ _ _ T fr ka kk (by rw[eS];exact hf) (by rw[eS];omega) λk v a1 a2 V=>?_
     rw[fj]at V;rw[x5 (k-c.s) kb];by_cases k1:A<=k/\k<A+new.length
     .rw[ar k1]at V;rw[ar (by omega)];have k2:k-A<i.length:=by omega
      refine⟨k6 v (cG V),i[k-A],?_,I (kt.2 (k-A) v _ V (aR k2))⟩;rw[show k-c.s-(A-c.s)=k-A by omega];exact aR k2
     rw[au k1]at V;rw[au (by omega)];obtain⟨b1,u,b2,b3⟩:=ha k v a1 (by omega) V;refine⟨b1,u,?_,I b3⟩;have:=FF (k-bm) (by omega);rw[show bm-c.s+(k-bm)=k-c.s by omega]at this;rw[this];exact b2)
   refine⟨_,_,_,Z,G,x1.trans ⟨Bt.jO Q.fresh,x2.keeps,?_,x2.os,x2.tape,x2.output,x2.loops,by show s2.nx.toNat<=s2.nx.succ.toNat;rw[Ky.aV];omega,x2.ox⟩,?_⟩
   .rintro b ky (hm|⟨o',J,d,f,l,rfl⟩)
    .exact .inl hm
    simp only[af]at f;unfold Bt.add at l;by_cases e:o'=s2.nx
    .rw[ar e]at l;cases l;exact W
    rw[au e]at f l;exact .inr ⟨o',J,d,f,l,rfl⟩
   rw[<-h9];exact HR.sl s2.nx bm (len+dP) info.size cap n c (by simp[Bt.add]) ka X ⟨T,_,fr,kk,by rw[eS];exact xq⟩ kp
  refine grow _ cap rfl (by omega) ?_;have hle:bm-c.s+len*info.size<=q.size:=by omega
  have xw:=run_loadCells P w.drew c.b (bm-c.s) (len*info.size) (λj=>oE.getD j Go.undef) (λj hj=>by
   have f:dh w.drew c.b (bm-c.s+j)=q[bm-c.s+j]?:=ik (E:=T) (fr:=fr) hb;rw[f,FF j hj];have:j<oE.length:=by omega
   simp[List.getD,this])
  simp only[Builtin.firstCells];rw[xw]
  congr 1
  apply so;apply Pf;intro j;by_cases hj:j<len*info.size
  .have:j<oE.length:=by omega
   simp[hj,List.getD,this]
  simp[hj];omega
def oD.Vx{go:Oper}{run:Result Value}{r:cR}(h:oD M C β s w run r)(b:(execOp a.eval go).run P w=run.andThen (λv w'=>.ok (.value v) w')):cm M C P β s w a go r:=by cases r with|v v s'=>obtain⟨u,w',c,d,g,i,j⟩:=h;exact⟨u,w',c,.inl (by rw[b,d];rfl),g,i,j⟩|bad=>trivial|call f l=>exact h.elim|round l m=>exact h.elim
def zm{E:TypeId}{sz bw:Nat}(d:dB P E=some sz)(b:ou P E bw=true)(f:Uu P E sz=true):
  ∃info z,P.info? E=some info/\info.zero=some z/\z.cells.size=info.size/\info.size=sz/\bw*info.bytes<=140737488355328/\bw<=140737488355328:=by
 unfold dB at d;unfold ou at b;unfold Uu at f;cases g:P.info? E with
 |none=>simp[g]at d
 |some i=>simp only[g,lO,bL]at d;simp only[g,aL,bX]at b;simp only[g,D8]at f;cases c:i.zero with|none=>simp[c]at f|some z=>simp only[c,bR]at f;exact⟨i,z,rfl,c,by rw[f,d],d,b.1,b.2⟩
def Pj(t:bW M C β s w){tx e':TypeId}(y:P.underlying tx=some (.slice e')){o:Ky}{bm len sz h:Nat}{u:Value}(z:HR β (Live M s β) w (.sl o bm len h) u){l:aj}(A:s.bz o bm (len*sz)=some l)(i:len≠0):
  ∃m,Src P sz tx u len m w/\eJ β (Live M s β) w l m/\∀x∈l,x.one=true:=by
 cases z with
 |pF=>exact absurd rfl i
 |sl _ _ _ _ cap n pl k F G H B=>
  obtain⟨I,p,q,g,D,E⟩:=t.bz k A;have f:eJ β (Live M s β) w l (List.ofFn (n:=len*sz) λj=>g j):=by
   refine⟨by simp[p],λj v x r d=>?_⟩;have c:j<len*sz:=by rw[<-p];exact(aS.1 r).1
   simp only[sr,c,dite_true,bL]at d;subst d;exact E j v r
  refine⟨_,Src.ofSlice w y ⟨pl.b,bm-pl.s,none⟩ len cap _ (by simp) (λj x d=>?_) (f.Aj q),f,q⟩;have c:j<len*sz:=by have:=(aS.1 d).1;simpa using this
  simp only[sr,c,dite_true,bL]at d;subst d;rw[fZ];exact D j c
def FG(_:bW M C β s w){tx e':TypeId}(t:P.underlying tx=some (.slice e')){aq:aO}{sz:Nat}{u:Value}(B:HR β (Live M s β) w (.psl aq) u)(L:cZ sz aq=true)(y:aq.length≠0):
  ∃F,Src P sz tx u aq.length F w/\eJ β (Live M s β) w (aB aq) F/\∀x∈aB aq,x.one=true:=by
 have hlen:=hX L;obtain⟨G,H⟩:=gz hlen;generalize D:HV.psl aq=p at B;cases B<;>first|(cases D;done)|skip
 .cases D;exact absurd rfl y
 rename_i I b o cap c g Q N J E h0 O B;cases D;have z:c=sz:=by cases aq with|nil=>exact absurd rfl y|cons r l=>rw[<-E 0 r rfl];exact hlen r dm
 subst z;have f:∀x∈aB aq,x.one=true:=λx i=>by obtain⟨k,t,rfl⟩:=oy i;obtain⟨_,row,m,q⟩:=H k _ (aR t);exact h0 row (cG m) _ (cG q)
 have A:eJ β (Live M s β) w (aB aq) (List.ofFn (n:=aq.length*c) λk=>g (k/c) (k%c)):=by
  refine⟨by simp[G],λk v x t i=>?_⟩;have d:k<aq.length*c:=by rw[<-G];exact(aS.1 t).1
  simp only[sr,d,dite_true,bL]at i;subst i;obtain⟨_,row,m,q⟩:=H k v t;exact B _ _ _ _ m q
 refine⟨_,Src.ofSlice w t ⟨b,o,none⟩ aq.length cap _ (by simp) (λk x i=>?_) (A.Aj f),A,f⟩;have d:k<aq.length*c:=by have:=(aS.1 i).1;simpa using this
 simp only[sr,d,dite_true,bL]at i;subst i;rw[fZ];have j:0<c:=by
  rcases Nat.eq_zero_or_pos c with h|h
  .subst h;simp at d
  exact h
 have:=O (k/c) (k%c) (by rw[Nat.div_lt_iff_lt_mul j];exact d) (Nat.mod_lt _ j);rw[Nat.div_add_mod']at this;exact this
def oF(k:bW M C β s w){go:Oper}{t u E ty:TypeId}{sz bw:Nat}(l:P.underlying t=some (.slice E))(A:dB P E=some sz)(j:ou P E bw=true)(B:Uu P E sz=true){m:bE}(d:∀F,m=some F->F=E)
  {x:HV}{n y:Value}(o:HR β (Live M s β) w x n){dP:Nat}{p:List Value}(b:Src P sz u y dP p w){new:aj}(q:eJ β (Live M s β) w new p)(c:∀x∈new,x.one=true)
  (D:(execOp a.eval go).run P w=((Builtin.append_ #[t,u] ty #[n,y]).run P w).andThen (λv w'=>.ok (.value v) w')):cm M C P β s w a go (s.append sz bw m x new dP):=by
 obtain⟨info,z,r,f,g,rfl,h,i⟩:=zm A j B;refine oD.Vx ?_ D;cases x<;>first|trivial|skip
 .cases o;exact jF k d l r f g h i b q c
 exact mb k d l r f g h i b q c o
def qv{N:aC}{v:HV}{u:Value}(b:HR β N w v u)(h:iz v=true):∃A l c,u=.slice A l c/\l<=c:=by
 cases b<;>first|(cases h;done)|skip
 .exact⟨_,_,_,rfl,aW _⟩
 .exact⟨_,_,_,rfl,‹_›⟩
 exact⟨_,_,_,rfl,aW _⟩
def ly(j:bW M C β s w){go:Oper}{t u E ty:TypeId}{sz bw:Nat}(k:P.underlying t=some (.slice E))(m:dB P E=some sz)(d:ou P E bw=true)(n:Uu P E sz=true)
  {x:HV}{h y:Value}(i:HR β (Live M s β) w x h)(f:iz x=true)(b:Src P sz u y 0 [] w)
  (o:(execOp a.eval go).run P w=((Builtin.append_ #[t,u] ty #[h,y]).run P w).andThen (λv w'=>.ok (.value v) w')):cm M C P β s w a go (.v x s):=by
 obtain⟨info,z,p,q,r,rfl,B,D⟩:=zm m d n;obtain⟨A,l,c,rfl,g⟩:=qv i f;exact oD.Vx (C:=C) ⟨_,w,β,run_append_nothing (P:=P) w t u ty E info k p A l c g y b,j,Ext.refl _ _ _,i⟩ o
def Pk(z:bW M C β s w)(he:dE β (Live M s β) w e a){go:Oper}{sz bw:Nat}{T:bE}{x y:X}(B:aX P (.app sz bw T x y) go.op=true):cm M C P β s w a go (GV sz bw T x y e s):=by
 cases I:go.op<;>rw[I]at B<;>try cases B
 rename_i cl;simp only[aX,aL]at B;obtain⟨⟨hb,B⟩,Q⟩:=B
 split at hb
 case h_2=>cases hb
 rename_i J;obtain⟨x',y',ha,hx,hy⟩:=pH B
 split at Q
 case h_2=>cases Q
 rename_i t u f;have f:cl.argTypes= #[t,u]:=by rw[<-Array.toList_inj];exact f
 simp only[aL]at Q;obtain⟨j,L⟩:=Q
 split at j
 case h_2=>cases j
 rename_i E D;simp only[aL,bR]at j;obtain⟨⟨⟨N,i⟩,O⟩,k⟩:=j;have k:∀F,T=some F->F=E:=λF hF=>by subst hF;simpa using(Eq.symm (by simpa using k):F=E)
 split at L
 case h_2=>cases L
 rename_i E2 c;have D:=im D;have r:∃ty,(execOp a.eval go).run P w=((Builtin.append_ #[t,u] ty #[a.eval x',a.eval y']).run P w).andThen (λv w'=>.ok (.value v) w'):=by refine⟨go.type,?_⟩;simp[execOp,I,resolve,J,ha,f,invoke,builtin]
 obtain⟨ty,r⟩:=r;unfold GV;cases h1:bp x e with
 |none=>trivial
 |some p=>
 cases h2:bp y e with
 |none=>trivial
 |some q=>
 have H:=aD he hx h1;have d:=aD he hy h2;simp only[];cases G:iz p with
 |false=>trivial
 |true=>
 simp only[cond_true];generalize hq:a.eval y'=yv at d r;cases q<;>first|trivial|skip
 .cases d;exact ly z D N i O H G (Src.ofNil w c 0) r
 .rename_i o V len W;simp only[];cases h0:Nat.beq len 0 with
  |true=>rw[bh]at h0;subst h0;simp only[cond_true];refine ly z D N i O H G ?_ r;cases d with|sl _ _ _ _ cap n pl h6 h7 hl h8 h9=>exact Src.ofSlice w c _ 0 cap [] (by simp) (by simp) (by simp)|pF=>exact Src.ofSlice w c _ 0 0 [] (by simp) (by simp) (by simp)
  |false=>
   have h0:len≠0:=λh=>by rw[h]at h0;cases h0
   simp only[cond_false];cases Y:s.bz o V (len*sz)with|none=>trivial|some l=>obtain⟨nv,Z,a2,a3⟩:=Pj z c d Y h0;exact oF z D N i O k H Z a2 a3 r
 rename_i m;simp only[];cases h0:Nat.beq (aM m) 0 with
 |true=>
  rw[bh,bB]at h0;have:m=[]:=iJ h0;subst this;simp only[cond_true];refine ly z D N i O H G ?_ r;generalize hp:HV.psl []=p' at d;cases d<;>first|(cases hp;done)|skip
  .rename_i A cap hn;cases A with|none=>rw[hn rfl];exact Src.ofNil w c 0|some A=>exact Src.ofSlice w c A 0 cap [] (by simp) (by simp) (by simp)
  rename_i h4 b o cap W g hN hd h5 hf h0 B H;cases hp;exact Src.ofSlice w c _ 0 cap [] (by simp) (by simp) (by simp)
 |false=>
  have h0:m.length≠0:=λh=>by rw[bB,h]at h0;cases h0
  simp only[cond_false];cases h3:cZ sz m with|false=>trivial|true=>obtain⟨nv,Z,a2,a3⟩:=FG z c d h3 h0;simp only[cond_true];rw[bB];exact oF z D N i O k H Z a2 a3 r
def qc{N:aC}(b:ByteArray):eJ β N w (fG (dS b)) (byteCells b)/\∀x∈fG (dS b),x.one=true:=by
 have key:∀l:List UInt8,eJ β N w (fG (l.map UInt8.toNat)) (l.map λb=>Value.int .u8 b.toNat)/\∀x∈fG (l.map UInt8.toNat),x.one=true:=by
  intro l
  induction l with
  |nil=>exact⟨.nil,by simp[fG]⟩
  |cons x l d=>
   refine⟨.cons (.int _ _) d.1,?_⟩;intro y c;simp only[cx,fG,bk]at c;rcases c with rfl|c
   .rfl
   exact d.2 y c
 exact key b.data.toList
def Pm(D:bW M C β s w)(G:dE β (Live M s β) w e a){go:Oper}{bw:Nat}{z:bE}{x y:X}(h:aX P (.aps bw z x y) go.op=true):cm M C P β s w a go (G0 bw z x y e s):=by
 cases i:go.op<;>rw[i]at h<;>try cases h
 rename_i Q;simp only[aX,aL]at h;obtain⟨⟨H,h⟩,o⟩:=h
 split at H
 case h_2=>cases H
 rename_i j;obtain⟨T,I,V,W,Y⟩:=pH h
 split at o
 case h_2=>cases o
 rename_i t u d;have d:Q.argTypes= #[t,u]:=by rw[<-Array.toList_inj];exact d
 simp only[aL]at o;obtain⟨f,k⟩:=o
 split at f
 case h_2=>cases f
 rename_i E r;simp only[aL,bR]at f;obtain⟨⟨⟨J,l⟩,L⟩,g⟩:=f;have g:∀F,z=some F->F=E:=λF Z=>by subst Z;simpa using(Eq.symm (by simpa using g):F=E)
 split at k
 case h_2=>cases k
 rename_i A;have r:=im r;have m:∃ty,(execOp a.eval go).run P w=((Builtin.append_ #[t,u] ty #[a.eval T,a.eval I]).run P w).andThen (λv w'=>.ok (.value v) w'):=by refine⟨go.type,?_⟩;simp[execOp,i,resolve,j,V,d,invoke,builtin]
 obtain⟨ty,m⟩:=m;unfold G0;cases h1:bp x e with
 |none=>trivial
 |some p=>
 cases h2:bp y e with
 |none=>trivial
 |some q=>
 have O:=aD G W h1;have n:=aD G Y h2;simp only[];cases B:iz p with
 |false=>trivial
 |true=>
 simp only[cond_true];generalize hq:a.eval I=yv at n m;cases n<;>first|trivial|skip
 rename_i b;simp only[];rw[bB,ga];have c:=Src.ofString (P:=P) w A b;cases h0:Nat.beq b.size 0 with|true=>rw[bh]at h0;simp only[cond_true];rw[h0]at c;have:byteCells b=[]:=iJ (by rw[byteCells_length,h0]);rw[this]at c;exact ly D r J l L O B c m|false=>simp only[cond_false];obtain⟨o1,o2⟩:=qc (β:=β) (N:=Live M s β) (w:=w) b;exact oF D r J l L g O c o1 o2 m
def vO(z:aj):∀(n:Nat),(lW z n).length=n*z.length/\∀j v,(lW z n)[j]?=some v->z[j%z.length]?=some v
 |0=>⟨by simp[lW],by simp[lW]⟩
 |n+1=>by
  obtain⟨f,g⟩:=vO z n;refine⟨by simp[lW,f,jE];omega,λj v b=>?_⟩;simp only[lW]at b;rcases jw j z.length with c|d
  .rw[ea c]at b;rw[D0 c];exact b
  rw[iG d]at b;have:=g _ _ b;rw[Nat.mod_eq_sub_mod d];exact this
def II(q:bW M C β s w){w1:World}(g:w1.heap=w.heap)(r:w1.os=w.os)(i:w1.tape=w.tape)(k:w1.output=w.output){go:Oper}{l:aj}{cs:Array Value}{E:TypeId}{fr:Nat×Nat}{len sz cap:Nat}(t:Ii fr cs.size)(x:l.length<=cs.size)(y:∀(j:Nat) (v:HV),l[j]?=some v->v.one=true/\∃u,cs[j]?=some u/\HR β (Live M s β) w v u)
  (m:len<=cap)(b:cap*sz<=cs.size)
  (c:(execOp a.eval go).run P w=.ok (.value (.slice (some ⟨w.heap.size,0,none⟩) len cap)) {w1 with heap:=w1.heap.push (.cells cs E fr)}):cm M C P β s w a go (s.new l (λo=>.sl o 0 len sz)):=by
 rw[vM];have z:bW M C β s w1:=q.drawn g;have d:Ext M β s w β s w1:=Ext.drawn g r i k;obtain⟨n,A,B,p⟩:=z.newRow (l:=l) (cs:=cs) (E:=E) (fr:=fr) (.inl rfl) t x (λj v D=>by
  obtain⟨F,u,G,H⟩:=y j v D;exact⟨F,u,G,H.ext d⟩)
 rw[g]at p;refine⟨_,_,n,.inl c,A,d.trans B,?_⟩;have f:Has {w1 with heap:=w1.heap.push (.cells cs E fr)} w.heap.size cs.size:=⟨E,cs,fr,by show(w1.heap.push _)[w.heap.size]?=_;rw[g];simp,rfl⟩;simpa using HR.sl (β:=n) (N:=Live M {h:=ax (some (.cells (cY l 0 .lf) 0 (aM l) s.nx)) s.nx s.h,nx:=s.nx.succ,gr:=ax (some [s.nx]) s.nx s.gr,ty:=s.ty} n) s.nx 0 len sz cap cs.size ⟨w.heap.size,0⟩ p (aW _) m f (by simpa using b)
def zn{E:TypeId}{sz:Nat}{z:aj}(f:dB P E=some sz)(c:qZ P E z=true)(h:z.length=sz):
  ∃info d,P.info? E=some info/\info.zero=some d/\d.cells.size=sz/\info.size=sz/\iE z d.cells.toList=true:=by
 unfold dB at f;unfold qZ at c;cases g:P.info? E with
 |none=>simp[g]at f
 |some i=>simp only[g,lO,bL]at f;simp only[g,D8]at c;cases b:i.zero with|none=>simp[b]at c|some d=>simp only[b]at c;have:=(dC c (λ_=>none) (λ_=>False) default).1;exact⟨i,d,rfl,b,by simp at this;omega,f,c⟩
def Pn(hr:bW M C β s w)(T:dE β (Live M s β) w e a){go:Oper}{sz bw:Nat}{z:aj}{l c:X}(F:aX P (.mks sz bw z l c) go.op=true):cm M C P β s w a go (GW sz bw z l c e s):=by
 cases h:go.op<;>rw[h]at F<;>try cases F
 rename_i t l' c';simp only[aX,aL]at F;obtain⟨⟨hl,H⟩,G⟩:=F
 split at G
 case h_2=>cases G
 rename_i E I;simp only[aL,bR,bX]at G;obtain⟨⟨⟨⟨hs,i⟩,hz⟩,d⟩,h4⟩:=G;have I:=im I;obtain⟨info,o,V,J,r,f,x⟩:=zn hs hz d;unfold ou at i;simp only[V,aL,bX]at i;unfold GW;cases W:bp l e with
 |none=>trivial
 |some p=>
 cases Y:bp c e with
 |none=>cases p<;>first|trivial|(rename_i k n;cases n<;>trivial)
 |some q=>
 have Z:=aD T hl W;have y:=aD T H Y;generalize hu:a.eval l'=u at Z;generalize L:a.eval c'=u2 at y;cases Z<;>first|trivial|skip
 rename_i k n;cases n with
 |negSucc n=>trivial
 |ofNat n=>
 cases y<;>first|trivial|skip
 rename_i k2 m;cases m with
 |negSucc m=>trivial
 |ofNat m=>
 simp only[];cases b:(Nat.ble n m&&Nat.ble m bw)with
 |false=>trivial
 |true=>
 simp only[aL,eb]at b;simp only[cond_true];have N:(info.bytes:Int)*(m:Int)<=281474976710656:=by
  have W:m*info.bytes<=bw*info.bytes:=jD _ b.2;have Y:info.bytes*m=m*info.bytes:=D4 _ _;have h3:((info.bytes*m:Nat):Int)<=281474976710656:=by omega
  rwa[Int.natCast_mul]at h3
 have A:=run_make (P:=P) w t E info o I V J k k2 (Int.ofNat n) (Int.ofNat m) (by simp) (by simpa using b.1) (by simpa using N) (by simp;omega);obtain⟨f1,f2⟩:=vO z n;have B:=j8 z _ x;have O:=dC x β (Live M s β) w;refine II (w1:=w) (cs:=madeCells o.cells (m*info.size)) (cap:=m) (E:=E) (fr:=(0,0)) hr rfl rfl rfl rfl (.inl rfl) (by rw[size_madeCells,f1,d,f];exact jD _ b.1) (λj v hj=>?_) b.1 (by rw[size_madeCells,f];exact aW _) ?_
 .have g:=f2 j v hj;have Q:j<m*info.size:=by have:=(aS.1 hj).1;rw[f1,d]at this;rw[f];exact dZ this (jD sz b.1)
  refine⟨B v (cG g),o.cells[j%o.cells.size]!,by simp[madeCells,Q],?_⟩;have D:j%z.length<o.cells.size:=by rw[r,<-d];exact(aS.1 g).1
  refine O.2 (j%z.length) v _ g ?_;rw[d]at D ⊢;rw[r];simp[D]
 simp only[execOp,h,hu,L];rw[Sem.run_bind,A];simp
def Po(q:bW M C β s w)(r:dE β (Live M s β) w e a){go:Oper}{x:X}(c:aX P (.csb x) go.op=true):cm M C P β s w a go (GZ x e s):=by
 cases g:go.op<;>rw[g]at c<;>try cases c
 rename_i t z y;simp only[aX,aL]at c;obtain⟨A,c⟩:=c
 split at c
 case h_2=>cases c
 rename_i d B D
 split at c
 case h_2=>cases c
 rename_i F;unfold GZ;cases G:bp x e with
 |none=>trivial
 |some p=>
 have n:=aD r A G;generalize H:a.eval y=u at n;cases n<;>first|trivial|skip
 rename_i b;simp only[];have h:=run_bytes_of_string (P:=P) w t z d b B D F;have i:=grownCap_ge w b.size 0 d;rw[bB,ga];obtain⟨l,I⟩:=qc (β:=β) (N:=Live M s β) (w:=w) b;have k:(bytesRow b (grownCap w b.size 0 d)).size=grownCap w b.size 0 d:=by simp[bytesRow];have:b.data.size=b.size:=rfl;omega
 refine II (w1:=w.drew) (cs:=bytesRow b (grownCap w b.size 0 d)) (cap:=grownCap w b.size 0 d) (E:=d) (fr:=((bytesRow b (grownCap w b.size 0 d)).size,(bytesRow b (grownCap w b.size 0 d)).size+1)) q rfl rfl rfl rfl (.inr (aW _)) (by rw[l.1.symm,byteCells_length,k];exact i) (λj v m=>?_) i (by rw[k];omega) ?_
 .have f:j<(byteCells b).length:=by rw[l.1];exact(aS.1 m).1
  refine⟨I v (cG m),(byteCells b)[j],?_,l.2 j v _ m (aR f)⟩;rw[byteCells_length]at f;have o:j<b.data.size:=f;simp[bytesRow,byteCells,Array.getElem?_append,f]
 simp only[execOp,g,H];rw[Sem.run_bind,h];simp;rfl
def Pp(m:bW M C β s w)(j:dE β (Live M s β) w e a){go:Oper}{d:Bool}{op:BinOp}{x y:X}(f:aX P (.bin d op x y) go.op=true):cm M C P β s w a go (uh d op x y e s):=by
 cases c:go.op<;>rw[c]at f<;>try cases f
 rename_i n t g h I;simp only[aX,aL,bR]at f;obtain⟨⟨⟨rfl,o⟩,v⟩,A⟩:=f;unfold uh;cases B:bp x e with
 |none=>trivial
 |some p=>
 cases D:bp y e with
 |none=>trivial
 |some q=>
 have E:=aD j o B;have i:=aD j v D;show cm M C P β s w a go (rv s (GR d op p q));cases F:GR d op p q with
 |none=>trivial
 |some r=>
  obtain⟨z,b,G⟩:=Lf (P:=P) (x:=g) (y:=h) F E i A;refine .val m ?_ G;simp only[execOp,c];rw[Sem.run_bind]at b;simp only[Sem.run_bind];cases l:(eqGuard op t g h (a.eval g) (a.eval h)).run P w with
  |ok u H=>rw[l]at b;simp only[Result.andThen_ok]at b ⊢;rw[b];rfl
  |halt k H=>rw[l]at b;cases b
end sound
end Go.Proofs.YtepamfbheocmhaaGreatDoor.K.Hm
