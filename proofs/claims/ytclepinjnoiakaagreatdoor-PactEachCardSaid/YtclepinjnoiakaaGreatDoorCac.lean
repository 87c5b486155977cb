/- PactEach returns true, part 3. -/
import Derived.Test.YtclepinjnoiakaaGreatDoorCaa
import Derived.Test.YtclepinjnoiakaaGreatDoorCab
import Derived.KernelRfl
import Derived.Test.YtclepinjnoiakaaGreatDoorProg
set_option linter.all false
open Int renaming ofNat_eq_natCast->nM
open List renaming length_cons->aA,nil_append->bD,length_singleton->dM,map_congr_left->Tv
open Nat renaming add_zero->fR
open Function renaming comp_def->tS
set_option maxRecDepth 10000
noncomputable section
namespace Go.Proofs.YtclepinjnoiakaaGreatDoor.K.Hm.U
open Go
abbrev o(d:Nat)(p:lO):aU:=⟨some d,p,none⟩
abbrev e(p:lO):aU:=⟨none,p,none⟩
abbrev G(d:Nat)(p:lO)(t:Nat)(b:Bool):aU:=⟨some d,p,some (t,b)⟩
abbrev m(d x:Nat):aU:=⟨some d,.mv (.t x),none⟩
abbrev l(d x:Nat):aU:=⟨some d,.ld (.t x) none,none⟩
abbrev L(d x n:Nat):aU:=⟨some d,.ld (.t x) (some n),none⟩
abbrev z(d:Nat)(b:BinOp)(x y:Nat):aU:=⟨some d,.bin false b (.t x) (.t y),none⟩
abbrev f(d x n:Nat):aU:=⟨some d,.fa (.t x) n,none⟩
abbrev a(d x y n:Nat):aU:=⟨some d,.ia (.t x) (.t y) n,none⟩
abbrev n(d x:Nat):aU:=⟨some d,.len 0 (.t x),none⟩
abbrev x(d t n:Nat):aU:=⟨some d,.ext (.t t) n,none⟩
abbrev mT(d x:Nat)(y:Nat):aU:=⟨some d,.mv (.t x),some (y,true)⟩
abbrev mF(d x:Nat)(y:Nat):aU:=⟨some d,.mv (.t x),some (y,false)⟩
abbrev lT(d x:Nat)(y:Nat):aU:=⟨some d,.ld (.t x) none,some (y,true)⟩
abbrev lF(d x:Nat)(y:Nat):aU:=⟨some d,.ld (.t x) none,some (y,false)⟩
abbrev LT(d x n:Nat)(y:Nat):aU:=⟨some d,.ld (.t x) (some n),some (y,true)⟩
abbrev LF(d x n:Nat)(y:Nat):aU:=⟨some d,.ld (.t x) (some n),some (y,false)⟩
abbrev fT(d x n:Nat)(y:Nat):aU:=⟨some d,.fa (.t x) n,some (y,true)⟩
abbrev fF(d x n:Nat)(y:Nat):aU:=⟨some d,.fa (.t x) n,some (y,false)⟩
abbrev aT(d x z n:Nat)(y:Nat):aU:=⟨some d,.ia (.t x) (.t z) n,some (y,true)⟩
abbrev aF(d x z n:Nat)(y:Nat):aU:=⟨some d,.ia (.t x) (.t z) n,some (y,false)⟩
abbrev nT(d x:Nat)(y:Nat):aU:=⟨some d,.len 0 (.t x),some (y,true)⟩
abbrev nF(d x:Nat)(y:Nat):aU:=⟨some d,.len 0 (.t x),some (y,false)⟩
abbrev K(d:Nat)(x:Int):aU:=⟨some d,.mv (.k (.int .i64 x)),none⟩
abbrev Z(d:Nat):aU:=⟨some d,.mv (.k (.bool false)),none⟩
abbrev O(d:Nat):aU:=⟨some d,.mv (.k (.bool true)),none⟩
abbrev Q(d:Nat):aU:=⟨some d,.mv (.k .ai),none⟩
abbrev V(d:Nat):aU:=⟨some d,.mv (.k .dZ),none⟩
abbrev y(d x z:Nat):aU:=⟨some d,.pick (.t x) (.t z) (.k (.bool false)),none⟩
abbrev yT(d x z:Nat)(y:Nat):aU:=⟨some d,.pick (.t x) (.t z) (.k (.bool false)),some (y,true)⟩
abbrev yF(d x z:Nat)(y:Nat):aU:=⟨some d,.pick (.t x) (.t z) (.k (.bool false)),some (y,false)⟩
abbrev Y(d x z:Nat):aU:=⟨some d,.pick (.t x) (.k (.bool true)) (.t z),none⟩
abbrev YT(d x z:Nat)(y:Nat):aU:=⟨some d,.pick (.t x) (.k (.bool true)) (.t z),some (y,true)⟩
abbrev i(d:Nat)(p:BinOp)(x:Nat)(k:Int):aU:=⟨some d,.bin false p (.t x) (.k (.int .i64 k)),none⟩
abbrev iT(d:Nat)(p:BinOp)(x:Nat)(k:Int)(y:Nat):aU:=⟨some d,.bin false p (.t x) (.k (.int .i64 k)),some (y,true)⟩
abbrev iF(d:Nat)(p:BinOp)(x:Nat)(k:Int)(y:Nat):aU:=⟨some d,.bin false p (.t x) (.k (.int .i64 k)),some (y,false)⟩
abbrev zT(d:Nat)(p:BinOp)(x z:Nat)(y:Nat):aU:=⟨some d,.bin false p (.t x) (.t z),some (y,true)⟩
abbrev zF(d:Nat)(p:BinOp)(x z:Nat)(y:Nat):aU:=⟨some d,.bin false p (.t x) (.t z),some (y,false)⟩
abbrev b(d x:Nat):aU:=⟨some d,.fbx (.t x),none⟩
abbrev j(d k:Nat):aU:=⟨some d,.call k [],none⟩
abbrev c(d k x:Nat):aU:=⟨some d,.call k [.t x],none⟩
abbrev cT(d k x:Nat)(y:Nat):aU:=⟨some d,.call k [.t x],some (y,true)⟩
abbrev cF(d k x:Nat)(y:Nat):aU:=⟨some d,.call k [.t x],some (y,false)⟩
abbrev C(d k x z:Nat):aU:=⟨some d,.call k [.t x,.t z],none⟩
abbrev CT(d k x z:Nat)(y:Nat):aU:=⟨some d,.call k [.t x,.t z],some (y,true)⟩
abbrev CF(d k x z:Nat)(y:Nat):aU:=⟨some d,.call k [.t x,.t z],some (y,false)⟩
abbrev J(d k x z v:Nat):aU:=⟨some d,.call k [.t x,.t z,.t v],none⟩
abbrev p(d k n x z:Nat):aU:=⟨some d,.app k n none (.t x) (.t z),none⟩
abbrev k(d x:Nat):aU:=⟨some d,.nck (.t x),none⟩
abbrev N(d x:Nat):aU:=⟨some d,.un .not (.t x),none⟩
abbrev NT(d x:Nat)(y:Nat):aU:=⟨some d,.un .not (.t x),some (y,true)⟩
abbrev NF(d x:Nat)(y:Nat):aU:=⟨some d,.un .not (.t x),some (y,false)⟩
abbrev q(d k x:Nat):aU:=⟨some d,.fbl k [.t x],none⟩
abbrev s(n x z:Nat):aU:=⟨none,.st n (.t x) (.t z),none⟩
abbrev h(n p:Nat)(k:ay)(r:List Rs)(c:HC):HF:=⟨n,p,k,r,c,true⟩
abbrev h0(n p:Nat)(k:ay)(r:List Rs)(c:HC):HF:=⟨n,p,k,r,c,false⟩
abbrev R:HC:=.ret
abbrev W:HC:=.skip
abbrev g(x:ay)(l:List aU):HC:=.rg x l
abbrev t(x a b:Nat):HC:=.rg [x] [m a x,i b .add a 1,m x b]
abbrev d(x:ay)(l:List dW)(k:List aU):HC:=.LZ x l k
abbrev I(t:Nat)(a b:HC):HC:=.cond (.t t) a b
abbrev F(x:ay)(l:List aU):HC:=.seq (.rg x l) .ret
abbrev A(x:ay)(l:List aU)(t:Nat)(a b:HC):HC:=.seq (.rg x l) (.cond (.t t) a b)
abbrev S(a b:HC):HC:=.seq a b
abbrev T(n:Nat)(c:HC):HC:=.block n c
abbrev M(c:HC):HC:=.loop c
abbrev X(n:Nat):HC:=.exit n
abbrev r(n:Nat)(h:aU):dW:=⟨n,h,.r⟩
abbrev v(n:Nat)(h:aU):dW:=⟨n,h,.a⟩
abbrev u(n:Nat)(h:aU):dW:=⟨n,h,.e⟩
abbrev w(n:Nat)(h:aU)(x y:Nat):dW:=⟨n,h,.l x y⟩
@[simp]def abC:=g [42] [f 20 2 0,L 21 20 4,c 22 9 21,N 23 22,m 24 23,fF 25 2 5 24,LF 26 25 6 24,cF 27 29 26 24,NF 28 27 24,Y 29 24 28,m 30 29,fF 31 2 0 30,LF 32 31 4 30,cF 33 24 32 30,iF 34 .neq 33 0 30,Y 35 30 34,m 36 35,fF 37 2 0 36,LF 38 37 4 36,mF 39 1 36,CF 40 25 38 39 36,NF 41 40 36,Y 42 36 41]
@[simp]def abD:=g [61] [m 52 6,i 53 .neq 52 0,m 54 53,LF 55 5 4 54,fF 56 2 5 54,fF 57 56 0 54,LF 58 57 4 54,CF 59 30 55 58 54,NF 60 59 54,Y 61 54 60]
@[simp]def abE:=g [110] [m 94 9,i 95 .neq 94 0,m 96 95,mF 97 11 96,iF 98 .neq 97 0 96,Y 99 96 98,m 100 99,mF 101 13 100,iF 102 .neq 101 0 100,Y 103 100 102,m 104 103,mF 105 10 104,nF 106 105 104,mF 107 12 104,nF 108 107 104,zF 109 .neq 106 108 104,Y 110 104 109]
@[simp]def abF:=g [140] [m 130 19,i 131 .neq 130 0,m 132 131,mF 133 17 132,mF 134 10 132,mF 135 16 132,aF 136 134 135 1 132,lF 137 136 132,nF 138 137 132,zF 139 .geq 133 138 132,Y 140 132 139]
@[simp]def abG:=g [157] [m 141 17,i 142 .geq 141 0,m 143 142,mT 144 14 143,iT 145 .lss 144 0 143,mT 146 145 143,mF 147 10 146,mF 148 16 146,aF 149 147 148 1 146,lF 150 149 146,mF 151 17 146,aF 152 150 151 1 146,lF 153 152 146,mF 154 14 146,zF 155 .lss 153 154 146,YT 156 146 155 143,y 157 143 156]
def Dp:=S (A [114] [m 111 16,m 112 12,n 113 112,z 114 .lss 111 113] 114 W (X 0)) (S (T 1 (S (d [17,18,19] [r 0 (f 118 2 5),w 1 (L 119 118 6) 0 0,u 2 (c 120 32 119),r 3 (m 121 12),r 4 (m 122 16),r 5 (a 123 121 122 1),w 6 (l 124 123) 0 1,u 7 (c 125 15 124),u 8 (C 126 31 120 125),r 9 (m 117 126),r 10 (x 127 117 0),r 11 (x 128 117 1),r 12 (x 129 117 2),r 13 (m 17 127),r 14 (m 18 128)] [m 19 129]) (S (S abF (I 140 (F [4] [Z 4]) W)) (S abG (I 157 (g [14,15] [m 158 10,m 159 16,a 160 158 159 1,l 161 160,m 162 17,a 163 161 162 1,l 164 163,m 165 18,N 166 165,m 14 164,m 15 166]) W))))) (t 16 115 116))
@[simp]def abH:=g [4] [m 167 7,m 168 14,z 169 .eql 167 168,m 170 169,mT 171 8 170,mT 172 15 170,G 173 (.bin true .eql (.t 171) (.t 172)) 170 true,y 174 170 173,m 175 174,G 176 (.call 12 []) 175 true,y 177 175 176,m 4 177]
def b6:=S (g [2,4] [b 2 0,Z 4]) (S (S abC (I 42 (F [4] [j 43 12,m 4 43]) W)) (S (g [5,6] [f 45 2 0,L 46 45 4,f 47 2 4,l 48 47,C 49 26 46 48,m 44 49,x 50 44 0,x 51 44 1,o 5 (.alloc [.ai,.bool false,.int .i64 0,.bool false]),s 4 5 50,m 6 51]) (S (S abD (I 61 (F [4] [j 62 12,m 4 62]) W)) (S (g [7,8,9] [L 64 2 11,c 65 14 64,m 66 1,c 67 15 66,C 68 13 65 67,m 63 68,x 69 63 0,x 70 63 1,x 71 63 2,m 7 69,m 8 70,m 9 71]) (S (d [10,11] [r 0 (f 73 2 0),w 1 (L 74 73 4) 0 0,u 2 (c 75 18 74),r 5 (m 78 1),u 6 (c 79 15 78),r 3 (f 76 2 4),w 4 (l 77 76) 0 2,u 7 (J 80 17 75 77 79),r 8 (m 72 80),r 9 (x 81 72 0),r 10 (x 82 72 1),r 11 (m 10 81)] [m 11 82]) (S (d [12,13] [r 0 (f 84 2 0),w 1 (L 85 84 4) 0 0,u 2 (c 86 18 85),r 5 (m 89 1),u 6 (c 90 15 89),r 3 (f 87 2 4),w 4 (l 88 87) 0 2,u 7 (J 91 19 86 88 90),r 8 (m 83 91),r 9 (x 92 83 0),r 10 (x 93 83 1),r 11 (m 12 92)] [m 13 93]) (S (S abE (I 110 (F [4] [Z 4]) W)) (S (g [14,15] [K 14 (-1),Z 15]) (S (S (g [16] [K 16 0]) (T 0 (M Dp))) (S abH R))))))))))
def f6:=h 178 2 [0,1,2,4,5,6,7,8,9,10,11,12,13,14,15,16,17,18,19,42,61,110,114,140,157] [.tmp 4] b6
@[simp]def abI:=g [22] [f 7 1 1,f 8 7 1,l 9 8,i 10 .gtr 9 8,m 11 10,fT 12 1 1 11,fT 13 12 1 11,lT 14 13 11,iT 15 .leq 14 64 11,y 16 11 15,m 17 16,fF 18 1 0 17,lF 19 18 17,nF 20 19 17,iF 21 .gtr 20 9 17,Y 22 17 21]
@[simp]def abJ:=g [52] [m 37 4,i 38 .gtr 37 8,m 39 38,mT 40 4 39,iT 41 .leq 40 64 39,y 42 39 41,m 43 42,fF 44 1 0 43,lF 45 44 43,mF 46 3 43,aF 47 45 46 3 43,fF 48 47 0 43,lF 49 48 43,nF 50 49 43,iF 51 .gtr 50 6 43,Y 52 43 51]
@[simp]def abK:=g [79] [m 74 6,i 75 .gtr 74 8,m 76 75,mT 77 6 76,iT 78 .leq 77 64 76,y 79 76 78]
def BH:=S (A [61] [m 53 5,f 54 1 0,l 55 54,m 56 3,a 57 55 56 3,f 58 57 0,l 59 58,n 60 59,z 61 .lss 53 60] 61 W (X 2)) (S (T 3 (S (g [6] [f 64 1 0,l 65 64,m 66 3,a 67 65 66 3,f 68 67 0,l 69 68,m 70 5,a 71 69 70 2,f 72 71 1,l 73 72,m 6 73]) (S abK (I 79 (F [2] [Z 2]) W)))) (t 5 62 63))
def zP:=S (A [27] [m 23 3,f 24 1 0,l 25 24,n 26 25,z 27 .lss 23 26] 27 W (X 0)) (S (T 1 (S (S (g [4] [f 30 1 0,l 31 30,m 32 3,a 33 31 32 3,f 34 33 1,f 35 34 1,l 36 35,m 4 36]) (S abJ (I 52 (F [2] [Z 2]) W))) (S (g [5] [K 5 0]) (T 2 (M BH))))) (t 3 28 29))
def b9:=S (g [1,2] [b 1 0,Z 2]) (S (S abI (I 22 (F [2] [Z 2]) W)) (S (S (g [3] [K 3 0]) (T 0 (M zP))) (F [2] [O 2])))
def f9:=h 80 1 [0,1,2,3,4,5,6,22,27,52,61,79] [.tmp 2] b9
@[simp]def Ws:=g [22] [f 5 1 0,L 6 5 4,c 7 9 6,N 8 7,m 9 8,fF 10 1 4 9,fF 11 10 0 9,lF 12 11 9,nF 13 12 9,iF 14 .gtr 13 24 9,Y 15 9 14,m 16 15,fF 17 1 4 16,fF 18 17 1 16,lF 19 18 16,nF 20 19 16,iF 21 .gtr 20 26 16,Y 22 16 21]
def GJ:=S (A [28] [m 23 4,f 24 1 4,f 25 24 0,l 26 25,n 27 26,z 28 .lss 23 27] 28 W (X 0)) (S (T 1 (g [3] [m 31 3,f 32 1 4,f 33 32 0,l 34 33,m 35 4,a 36 34 35 1,l 37 36,n 38 37,z 39 .add 31 38,m 3 39])) (t 4 29 30))
def GF:=S (g [1,2] [b 1 0,Z 2]) (S (S Ws (I 22 (F [2] [Z 2]) W)) (S (g [3] [K 3 0]) (S (S (g [4] [K 4 0]) (T 0 (M GJ))) (F [2] [m 40 3,i 41 .leq 40 120,m 2 41]))))
def f10:=h 42 1 [0,1,2,3,4,22,28] [.tmp 2] GF
def uM:=S (g [44] [z 44 .lss 43 42]) (S (I 44 W (X 0)) (S (T 1 (S (g [13] [a 45 41 43 1,l 46 45,m 13 46]) (S (d [14,15] [r 1 (m 49 13),r 2 (m 50 1),u 3 (C 51 49 49 50),w 0 (L 48 10 2) 0 1,u 4 (C 52 48 48 51),r 5 (m 47 52),r 6 (x 53 47 0),r 7 (x 54 47 1),r 8 (m 14 53)] [m 15 54]) (S (d [70] [r 0 (m 55 14),r 1 (i 56 .eql 55 (-1)),r 2 (m 57 56),r 3 (fT 58 11 0 57),w 4 (lT 59 58 57) 0 0,r 5 (iT 60 .lss 59 0 57),r 6 (mT 61 60 57),r 7 (mF 62 13 61),r 8 (mF 63 15 61),r 9 (aF 64 62 63 1 61),w 10 (lF 65 64 61) 0 0,r 11 (fF 66 11 0 61),w 12 (lF 67 66 61) 0 0] [zF 68 .lss 65 67 61,YT 69 61 68 57,y 70 57 69]) (I 70 (d [] [r 4 (m 75 1),r 5 (m 76 13),r 6 (m 77 15),r 7 (a 78 76 77 1),w 8 (l 79 78) 0 0,r 9 (a 80 75 79 4),w 10 (L 81 80 4) 0 0,u 11 (c 82 50 81),r 0 (m 71 13),r 1 (m 72 15),r 2 (a 73 71 72 1),w 3 (l 74 73) 0 1] [o 83 (.build [.x (.t 74) 1,.x (.t 82) 1]),s 2 11 83]) W))))) (g [43] [i 84 .add 43 1,m 43 84])))
def Wt:=S (g [2,4,5,6] [b 2 0,K 4 0,Z 5,K 6 0]) (S (S (g [7] [L 16 2 11,c 17 44 16,m 7 17]) (A [19] [m 18 7,i 19 .neq 18 0] 19 (F [4,5,6] [m 20 7,K 4 0,Z 5,m 6 20]) W)) (S (S (g [9] [f 22 2 0,L 23 22 4,m 24 1,C 25 45 23 24,m 21 25,x 26 21 0,x 27 21 1,m 8 26,m 9 27]) (A [29] [m 28 9,i 29 .neq 28 0] 29 (F [4,5,6] [m 30 9,K 4 0,Z 5,m 6 30]) W)) (S (d [10,11] [u 4 (j 35 46),r 0 (f 31 2 5),r 1 (f 32 31 4),w 2 (L 33 32 2) 0 3,r 3 (o 34 (.build [.x (.t 33) 2])),v 5 (o 10 (.alloc [.ai,.ai])),v 6 (o 11 (.alloc [.int .i64 0,.bool false]))] [s 2 10 34,s 2 11 35]) (S (S (g [41,42,43] [f 36 2 0,L 37 36 4,f 38 2 4,l 39 38,m 40 1,J 41 47 37 39 40,n 42 41,K 43 0]) (T 0 (M uM))) (S (d [4,5,6] [r 0 (f 85 11 0),w 1 (l 86 85) 0 0,r 2 (f 87 11 1),w 3 (l 88 87) 0 0,r 4 (m 4 86)] [m 5 88,K 6 0]) R)))))
def f13:=h 89 2 [0,1,2,4,5,6,7,9,10,11,13,14,15,19,29,41,42,43,44,70] [.tmp 4,.tmp 5,.tmp 6] Wt
def OE:=S (g [1,2] [b 1 0,o 2 (.alloc [.ai,.bool false,.int .i64 0,.bool false,.int .i64 0,.ai,.bool false,.int .i64 0,.bool false,.ai,.ai])]) (S (d [] [r 0 (f 3 1 0),w 1 (L 4 3 4) 0 0,u 2 (c 5 18 4),r 5 (f 8 1 5),w 6 (L 9 8 6) 0 1,u 7 (c 10 32 9),r 3 (f 6 1 4),w 4 (l 7 6) 0 2] [o 11 (.build [.x (.t 5) 4,.x (.t 7) 1,.x (.t 10) 6]),s 11 2 11]) R)
def f14:=h 12 1 [0,1,2] [.cell 2 (some 11)] OE
def b15:=S (g [2] [Q 2]) (F [2] [o 3 (.bsl 4 []),m 4 0,p 5 4 4398046511104 3 4,m 2 5])
def f15:=h 6 1 [0,2] [.tmp 2] b15
def GK:=S (g [24] [z 24 .lss 23 22]) (S (I 24 W (X 0)) (S (T 1 (S (g [10] [a 25 21 23 1,l 26 25,m 10 26]) (g [6] [m 27 6,m 28 10,q 29 1 28,p 30 1 5864062014805 27 29,m 6 30]))) (g [23] [i 31 .add 23 1,m 23 31])))
def Va:=S (g [3,6,7] [b 3 0,Q 6,K 7 0]) (S (S (g [8] [L 11 3 4,m 12 1,m 13 2,J 14 56 11 12 13,m 8 14]) (A [16] [m 15 8,i 16 .neq 15 0] 16 (F [6,7] [m 17 8,Q 6,m 7 17]) W)) (S (S (g [21,22,23] [L 18 3 4,m 19 1,m 20 2,J 21 47 18 19 20,n 22 21,K 23 0]) (T 0 (M GK))) (F [6,7] [m 32 6,m 6 32,K 7 0])))
def f17:=h 33 3 [0,1,2,3,6,7,8,10,16,21,22,23,24] [.tmp 6,.tmp 7] Va
def GL:=S (A [14] [m 10 4,f 11 1 0,l 12 11,n 13 12,z 14 .lss 10 13] 14 W (X 0)) (S (T 1 (d [] [r 2 (f 19 1 0),w 3 (l 20 19) 0 0,r 4 (m 21 4),r 5 (a 22 20 21 3),w 6 (L 23 22 3) 0 0,u 7 (c 24 57 23),r 0 (f 17 3 0),w 1 (l 18 17) 0 1,r 8 (q 25 3 24)] [p 26 3 3518437208883 18 25,f 27 3 0,s 1 27 26])) (t 4 15 16))
def b18:=S (g [1,2] [b 1 0,o 2 (.alloc [.ai,.bool false,.int .i64 0,.bool false])]) (S (g [3] [f 5 1 1,L 6 5 2,f 7 1 3,l 8 7,o 9 (.build [.z [.ai],.x (.t 6) 2,.x (.t 8) 1]),o 3 (.alloc [.ai,.bool false,.int .i64 0,.bool false]),s 4 3 9]) (S (S (g [4] [K 4 0]) (T 0 (M GL))) (F [] [L 28 3 4,s 4 2 28])))
def f18:=h 29 1 [0,1,2,3,4,14] [.cell 2 (some 4)] b18
def GM:=S (g [24] [z 24 .lss 23 22]) (S (I 24 W (X 0)) (S (T 1 (S (g [10] [a 25 21 23 1,l 26 25,m 10 26]) (g [6] [m 27 6,m 28 10,m 29 2,C 30 49 28 29,q 31 1 30,p 32 1 5864062014805 27 31,m 6 32]))) (g [23] [i 33 .add 23 1,m 23 33])))
def b19:=S (g [3,6,7] [b 3 0,Q 6,K 7 0]) (S (S (g [8] [L 11 3 4,m 12 1,m 13 2,J 14 56 11 12 13,m 8 14]) (A [16] [m 15 8,i 16 .neq 15 0] 16 (F [6,7] [m 17 8,Q 6,m 7 17]) W)) (S (S (g [21,22,23] [L 18 3 4,m 19 1,m 20 2,J 21 47 18 19 20,n 22 21,K 23 0]) (T 0 (M GM))) (F [6,7] [m 34 6,m 6 34,K 7 0])))
def f19:=h 35 3 [0,1,2,3,6,7,8,10,16,21,22,23,24] [.tmp 6,.tmp 7] b19
def Dq:=S (A [14] [m 11 5,m 12 0,n 13 12,z 14 .lss 11 13] 14 W (X 0)) (S (T 1 (S (d [25] [r 0 (m 17 0),r 1 (m 18 5),r 2 (a 19 17 18 4),w 3 (L 20 19 4) 0 0,r 4 (m 21 1),r 5 (m 22 5),r 6 (a 23 21 22 4),w 7 (L 24 23 4) 0 0] [o 25 (.eqs ⟨true,[0,0,0,0]⟩ true (.t 20) (.t 24))]) (I 25 (F [4] [Z 4]) W))) (t 5 15 16))
def b23:=S (g [4] [Z 4]) (S (A [10] [m 6 0,n 7 6,m 8 1,n 9 8,z 10 .neq 7 9] 10 (F [4] [Z 4]) W) (S (S (g [5] [K 5 0]) (T 0 (M Dq))) (F [4] [O 4])))
def f23:=h 26 2 [0,1,4,5,10,14,25] [.tmp 4] b23
def Dr:=S (A [13] [m 9 3,f 10 1 0,l 11 10,n 12 11,z 13 .lss 9 12] 13 W (X 0)) (S (T 1 (A [23] [f 16 1 0,l 17 16,m 18 3,a 19 17 18 3,f 20 19 0,l 21 20,n 22 21,i 23 .gtr 22 5] 23 (F [2] [K 2 5]) W)) (t 3 14 15))
def Ds:=S (A [28] [m 24 4,f 25 1 0,l 26 25,n 27 26,z 28 .lss 24 27] 28 W (X 2)) (S (T 3 (A [37] [f 31 1 0,l 32 31,m 33 4,a 34 32 33 3,L 35 34 3,c 36 59 35,N 37 36] 37 (F [2] [K 2 4]) W)) (t 4 29 30))
def b24:=S (g [1,2] [b 1 0,K 2 0]) (S (A [8] [f 5 1 0,l 6 5,n 7 6,i 8 .gtr 7 8] 8 (F [2] [K 2 5]) W) (S (S (g [3] [K 3 0]) (T 0 (M Dr))) (S (S (g [4] [K 4 0]) (T 2 (M Ds))) (S (A [41] [f 38 1 1,L 39 38 2,c 40 60 39,N 41 40] 41 (F [2] [K 2 4]) W) (F [2] [K 2 0])))))
def f24:=h 42 1 [0,1,2,3,4,8,13,23,28,37,41] [.tmp 2] b24
def b25:=S (g [2,4] [b 2 0,Z 4]) (S (A [9] [m 7 1,n 8 7,i 9 .gtr 8 40] 9 (F [4] [Z 4]) W) (S (g [6] [L 11 2 4,m 12 1,C 13 61 11 12,m 10 13,x 14 10 0,x 15 10 1,m 5 14,m 6 15]) (F [4] [m 16 6,i 17 .eql 16 0,m 4 17])))
def f25:=h 18 2 [0,1,2,4,6,9] [.tmp 4] b25
@[simp]def JU:=g [8] [f 29 7 1,L 30 29 2,f 31 2 3,l 32 31,m 33 32,fF 34 7 0 33,lF 35 34 33,nF 36 35 33,iF 37 .gtr 36 0 33,Y 38 33 37,o 39 (.build [.z [.ai],.x (.t 30) 2,.x (.t 38) 1]),o 8 (.alloc [.ai,.bool false,.int .i64 0,.bool false]),s 4 8 39]
def GN:=S (A [44] [m 40 9,f 41 7 0,l 42 41,n 43 42,z 44 .lss 40 43] 44 W (X 0)) (S (T 1 (d [] [r 0 (f 47 8 0),w 1 (l 48 47) 0 0,r 2 (f 49 7 0),w 3 (l 50 49) 0 0,r 4 (m 51 9),r 5 (a 52 50 51 2),w 6 (L 53 52 2) 0 0,r 7 (o 54 (.build [.z [.ai],.x (.t 53) 2])),r 8 (q 55 3 54)] [p 56 3 3518437208883 48 55,f 57 8 0,s 1 57 56])) (t 9 45 46))
def b26:=S (g [2,4,5] [b 2 0,o 4 (.alloc [.ai,.bool false,.int .i64 0,.bool false]),K 5 0]) (S (S (g [6] [L 10 2 4,c 11 24 10,m 6 11]) (A [13] [m 12 6,i 13 .neq 12 0] 13 (F [5] [o 14 (.build [.z [.ai],.z [.bool false,.int .i64 0],.z [.bool false]]),m 15 6,s 4 4 14,m 5 15]) W)) (S (A [21] [m 16 1,f 17 2 0,l 18 17,n 19 18,o 20 (.call 62 [.t 16,.k (.int .i64 1),.t 19]),N 21 20] 21 (F [5] [o 22 (.build [.z [.ai],.z [.bool false,.int .i64 0],.z [.bool false]]),s 4 4 22,K 5 7]) W) (S (g [7] [f 23 2 0,l 24 23,m 25 1,i 26 .sub 25 1,a 27 24 26 3,L 28 27 3,o 7 (.alloc [.ai,.bool false,.int .i64 0]),s 3 7 28]) (S JU (S (S (g [9] [K 9 0]) (T 0 (M GN))) (F [5] [L 58 8 4,s 4 4 58,K 5 0]))))))
def f26:=h 59 2 [0,1,2,4,5,6,7,8,9,13,21,44] [.cell 4 (some 4),.tmp 5] b26
@[simp]def Wu:=g [2] [f 3 1 2,l 4 3,o 5 (.bin false .eql (.t 4) (.k (.int .u8 3))),m 6 5,fT 7 1 3 6,lT 8 7 6,iT 9 .eql 8 (-1) 6,y 10 6 9,m 2 10]
def b28:=S (g [1,2] [b 1 0,Z 2]) (S Wu R)
def f28:=h 11 1 [0,1,2] [.tmp 2] b28
@[simp]def Wv:=g [2] [L 3 1 6,c 4 10 3,m 5 4,LT 6 1 6 5,cT 7 66 6 5,iT 8 .eql 7 0 5,y 9 5 8,m 2 9]
def OF:=S (g [1,2] [b 1 0,Z 2]) (S Wv R)
def f29:=h 10 1 [0,1,2] [.tmp 2] OF
@[simp]def Ww:=g [26] [f 6 2 0,l 7 6,n 8 7,f 9 3 0,l 10 9,n 11 10,z 12 .neq 8 11,m 13 12,fF 14 2 1 13,LF 15 14 2 13,fF 16 3 1 13,LF 17 16 2 13,G 18 (.eqs ⟨true,[1,0]⟩ true (.t 15) (.t 17)) 13 false,Y 19 13 18,m 20 19,fF 21 2 3 20,lF 22 21 20,fF 23 3 3 20,lF 24 23 20,G 25 (.bin true .neq (.t 22) (.t 24)) 20 false,Y 26 20 25]
def Dt:=S (A [31] [m 27 5,f 28 2 0,l 29 28,n 30 29,z 31 .lss 27 30] 31 W (X 0)) (S (T 1 (S (d [45] [r 0 (f 34 2 0),w 1 (l 35 34) 0 0,r 2 (m 36 5),r 3 (a 37 35 36 3),w 4 (L 38 37 3) 0 0,r 5 (f 39 3 0),w 6 (l 40 39) 0 0,r 7 (m 41 5),r 8 (a 42 40 41 3),w 9 (L 43 42 3) 0 0] [C 44 67 38 43,N 45 44]) (I 45 (F [4] [Z 4]) W))) (t 5 32 33))
def Wx:=S (g [2,3,4] [b 2 0,b 3 1,Z 4]) (S (S Ww (I 26 (F [4] [Z 4]) W)) (S (S (g [5] [K 5 0]) (T 0 (M Dt))) (F [4] [O 4])))
def f30:=h 46 2 [0,1,2,3,4,5,26,31,45] [.tmp 4] Wx
def b31:=S (g [2,4,5,6] [b 2 0,K 4 0,Z 5,K 6 0]) (S (g [7,6] [L 12 2 6,m 13 1,C 14 68 12 13,m 11 14,x 15 11 0,x 16 11 1,o 7 (.alloc [.ai,.ai]),s 2 7 15,m 6 16]) (S (A [18] [m 17 6,i 18 .neq 17 0] 18 (F [4,5,6] [m 19 6,K 4 0,Z 5,m 6 19]) W) (S (g [8] [j 20 46,o 8 (.alloc [.int .i64 0,.bool false]),s 2 8 20]) (S (S (g [9,10] [L 22 7 2,m 23 1,C 24 48 22 23,m 21 24,x 25 21 0,x 26 21 1,m 9 25,m 10 26]) (A [28] [m 27 9,i 28 .eql 27 (-1)] 28 (g [] [m 29 10,m 30 1,m 31 10,a 32 30 31 4,L 33 32 4,c 34 50 33,o 35 (.build [.x (.t 29) 1,.x (.t 34) 1]),s 2 8 35]) W)) (S (d [4,5,6] [r 0 (f 36 8 0),w 1 (l 37 36) 0 0,r 2 (f 38 8 1),w 3 (l 39 38) 0 0,r 4 (m 4 37)] [m 5 39,K 6 0]) R)))))
def f31:=h 40 2 [0,1,2,4,5,6,7,8,9,10,18,28] [.tmp 4,.tmp 5,.tmp 6] b31
def b32:=S (g [1,2] [b 1 0,o 2 (.alloc [.ai,.bool false,.int .i64 0,.bool false,.ai,.ai])]) (S (d [] [r 0 (f 3 1 0),w 1 (L 4 3 4) 0 0,u 2 (c 5 18 4),r 3 (f 6 1 4),w 4 (L 7 6 2) 0 1] [c 8 69 7,o 9 (.build [.x (.t 5) 4,.x (.t 8) 2]),s 6 2 9]) R)
def f32:=h 10 1 [0,1,2] [.cell 2 (some 6)] b32
def b44:=S (g [1,2] [b 1 0,K 2 0]) (S (S (g [3] [f 6 1 0,L 7 6 4,c 8 82 7,m 3 8]) (A [10] [m 9 3,i 10 .neq 9 0] 10 (F [2] [m 11 3,m 2 11]) W)) (S (g [4,5] [f 13 1 0,L 14 13 4,f 15 1 4,l 16 15,C 17 83 14 16,m 12 17,x 18 12 0,x 19 12 1,o 4 (.alloc [.ai,.bool false,.int .i64 0,.bool false]),s 4 4 18,m 5 19]) (S (A [21] [m 20 5,i 21 .eql 20 0] 21 (g [5] [f 22 1 5,L 23 22 6,c 24 84 23,m 5 24]) W) (S (T 0 (A [25] [m 26 5,i 27 .neq 26 0,m 25 27] 25 (F [2] [m 28 5,m 2 28]) (A [29] [L 30 4 4,f 31 1 5,f 32 31 0,L 33 32 4,C 34 85 30 33,N 35 34,m 29 35] 29 (F [2] [K 2 11]) W))) (F [2] [K 2 0])))))
def f44:=h 36 1 [0,1,2,3,4,5,10,21,25,29] [.tmp 2] b44
def Wy:=S (g [2,4,5] [b 2 0,K 4 0,K 5 0]) (S (g [6,5] [L 8 2 4,m 9 1,C 10 86 8 9,m 7 10,x 11 7 0,x 12 7 1,m 6 11,m 5 12]) (S (T 0 (A [13] [m 14 5,i 15 .neq 14 0,m 13 15] 13 (F [4,5] [m 16 5,K 4 0,m 5 16]) (A [17] [m 18 6,k 19 18,f 20 19 4,l 21 20,n 22 21,m 23 1,n 24 23,z 25 .lss 22 24,m 17 25] 17 (F [4,5] [m 26 6,k 27 26,f 28 27 4,l 29 28,n 30 29,m 4 30,K 5 13]) W))) (F [4,5] [K 4 0,K 5 0])))
def f45:=h 31 2 [0,1,2,4,5,6,13,17] [.tmp 4,.tmp 5] Wy
def b46:=S (g [0] [o 0 (.alloc [.int .i64 0,.bool false])]) (F [] [o 1 (.build [.x (.k (.int .i64 (-1))) 1,.z [.bool false]]),s 2 0 1])
def f46:=h 2 0 [0] [.cell 0 (some 2)] b46
@[simp]def Wz:=g [3,6] [b 3 0,Q 6]
@[simp]def WA:=g [7] [L 14 3 4,m 15 2,C 16 87 14 15,m 13 16,x 17 13 0,x 18 13 1,m 7 17,m 8 18]
@[simp]def WB:=g [9] [o 19 .mkm,m 9 19]
@[simp]def WC:=g [20,21,22] [m 20 2,n 21 20,K 22 0]
@[simp]def WD:=g [23] [z 23 .lss 22 21]
@[simp]def WE:=g [11,10] [m 24 22,a 25 20 22 4,L 26 25 4,o 11 (.alloc [.int .i64 0,.int .i64 0,.int .u8 0,.int .i64 0]),m 10 24,s 4 11 26]
@[simp]def WG:=g [30] [f 27 11 0,l 28 27,m 29 1,z 30 .neq 28 29]
@[simp]def WH:=g [12] [f 31 11 2,l 32 31,o 33 (.bin false .neq (.t 32) (.k (.int .u8 3))),m 12 33]
@[simp]def WJ:=g [34] [m 35 12,m 36 35,fT 37 11 1 36,lT 38 37 36,iT 39 .eql 38 0 36,y 40 36 39,m 34 40]
@[simp]def WK:=g [] [m 41 9,m 42 10,m 43 6,n 44 43,e (.mup ⟨false,[0]⟩ (.t 41) (.t 42) (.t 44))]
@[simp]def Qn:=g [6] [m 45 6,m 46 10,o 47 (.bsl 1 [.t 46]),q 48 1 47,p 49 1 5864062014805 45 48,m 6 49]
@[simp]def Qo:=g [50] [f 51 11 1,l 52 51,i 53 .eql 52 0,m 54 53,LT 55 11 4 54,cT 56 88 55 54,y 57 54 56,m 58 57,mT 59 2 58,mT 60 10 58,CT 61 89 59 60 58,NT 62 61 58,y 63 58 62,m 50 63]
def uN:=T 2 (S WJ (I 34 (S WK (S Qn (X 1))) (S Qo (I 50 (X 1) W))))
@[simp]def Qp:=g [] [m 64 9,m 65 10,m 66 9,m 67 7,m 68 10,a 69 67 68 1,l 70 69,o 71 (.lkp ⟨false,[0]⟩ (.t 66) (.t 70) (.int .i64 0) false),e (.mup ⟨false,[0]⟩ (.t 64) (.t 65) (.t 71))]
@[simp]def tC:=d [] [r 4 (m 76 6),r 5 (m 77 9),r 6 (m 78 10),w 7 (o 79 (.lkp ⟨false,[0]⟩ (.t 77) (.t 78) (.int .i64 0) false)) 0 0,r 8 (a 80 76 79 1),w 9 (l 81 80) 0 0,r 10 (m 82 10),r 11 (q 83 1 82),u 12 (p 84 1 17592186044416 81 83),r 0 (m 72 6),r 1 (m 73 9),r 2 (m 74 10),w 3 (o 75 (.lkp ⟨false,[0]⟩ (.t 73) (.t 74) (.int .i64 0) false)) 0 1] [a 85 72 75 1,s 1 85 84]
def uO:=T 1 (S WE (S (S WG (I 30 (X 1) W)) (S WH (S uN (S Qp tC)))))
@[simp]def Qq:=g [22] [i 86 .add 22 1,m 22 86]
def pH:=S WD (S (I 23 W (X 0)) (S uO Qq))
def OG:=T 0 (M pH)
@[simp]def Qr:=g [6] [m 87 6,m 6 87]
def b47:=S Wz (S WA (S WB (S (S WC OG) (S Qr R))))
def f47:=h 88 3 [0,1,2,3,6,7,9,10,11,12,20,21,22,23,30,34,50] [.tmp 6] b47
def Du:=S (g [11] [z 11 .lss 10 9]) (S (I 11 W (X 0)) (S (T 1 (S (g [7,6] [m 12 10,a 13 8 10 4,L 14 13 4,o 7 (.alloc [.int .i64 0,.int .i64 0,.int .u8 0,.int .i64 0]),m 6 12,s 4 7 14]) (S (g [4] [L 15 2 2,m 16 4,L 17 7 4,J 18 90 15 16 17,m 4 18]) (A [20] [m 19 4,i 20 .eql 19 (-1)] 20 (F [4,5] [m 21 6,K 4 (-1),m 5 21]) W)))) (g [10] [i 22 .add 10 1,m 10 22])))
def b48:=S (g [2,4,5] [b 2 0,K 4 0,K 5 0]) (S (S (g [8,9,10] [m 8 1,n 9 8,K 10 0]) (T 0 (M Du))) (F [4,5] [m 23 4,m 24 1,n 25 24,m 4 23,m 5 25]))
def f48:=h 26 2 [0,1,2,4,5,6,7,8,9,10,11,20] [.tmp 4,.tmp 5] b48
def GO:=S (g [10] [z 10 .lss 9 8]) (S (I 10 W (X 0)) (S (T 1 (S (g [6] [a 11 7 9 1,l 12 11,m 6 12]) (g [4] [m 13 4,m 14 1,m 15 6,a 16 14 15 4,L 17 16 4,c 18 91 17,q 19 4 18,p 20 4 4398046511104 13 19,m 4 20]))) (g [9] [i 21 .add 9 1,m 9 21])))
def b49:=S (g [4] [Q 4]) (S (S (g [7,8,9] [m 7 0,n 8 7,K 9 0]) (T 0 (M GO))) (F [4] [m 22 4,m 4 22]))
def f49:=h 23 2 [0,1,4,6,7,8,9,10] [.tmp 4] b49
@[simp]def WL:=g [2] [f 3 1 2,l 4 3,o 5 (.bin false .eql (.t 4) (.k (.int .u8 3))),f 6 1 0,l 7 6,i 8 .gtr 7 0,m 9 8,fT 10 1 1 9,lT 11 10 9,iT 12 .eql 11 0 9,y 13 9 12,o 14 (.bin true .eql (.t 5) (.t 13)),m 2 14]
def b50:=S (g [1,2] [b 1 0,Z 2]) (S WL R)
def f50:=h 15 1 [0,1,2] [.tmp 2] b50
@[simp]def WM:=g [26] [m 18 1,i 19 .lss 18 1,m 20 19,mF 21 1 20,fF 22 3 0 20,lF 23 22 20,nF 24 23 20,zF 25 .gtr 21 24 20,Y 26 20 25]
def b56:=S (g [3,6] [b 3 0,K 6 0]) (S (S (g [8] [L 10 3 4,m 11 2,C 12 45 10 11,m 9 12,x 13 9 0,x 14 9 1,m 7 13,m 8 14]) (A [16] [m 15 8,i 16 .neq 15 0] 16 (F [6] [m 17 8,m 6 17]) W)) (S (S WM (I 26 (F [6] [K 6 7]) W)) (F [6] [K 6 0])))
def f56:=h 27 3 [0,1,2,3,6,8,16,26] [.tmp 6] b56
def b57:=S (g [1,2] [b 1 0,o 2 (.alloc [.ai,.bool false,.int .i64 0])]) (S (d [] [v 0 (o 3 (.bsl 2 [])),r 1 (f 4 1 0),w 2 (l 5 4) 0 1,u 3 (p 6 2 8796093022208 3 5),r 4 (f 7 1 1),w 5 (L 8 7 2) 0 2] [o 9 (.build [.x (.t 6) 1,.x (.t 8) 2]),s 3 2 9]) R)
def f57:=h 10 1 [0,1,2] [.cell 2 (some 3)] b57
def Dv:=S (A [8] [m 4 3,f 5 1 0,l 6 5,n 7 6,z 8 .lss 4 7] 8 W (X 0)) (S (T 1 (A [17] [f 11 1 0,l 12 11,m 13 3,a 14 12 13 2,L 15 14 2,c 16 60 15,N 17 16] 17 (F [2] [Z 2]) W)) (t 3 9 10))
@[simp]def WN:=g [2] [f 18 1 1,L 19 18 2,c 20 60 19,m 21 20,fT 22 1 0 21,lT 23 22 21,nT 24 23 21,iT 25 .eql 24 0 21,mT 26 25 21,fF 27 1 1 26,fF 28 27 0 26,lF 29 28 26,NF 30 29 26,YT 31 26 30 21,y 32 21 31,m 2 32]
def b59:=S (g [1,2] [b 1 0,Z 2]) (S (S (g [3] [K 3 0]) (T 0 (M Dv))) (S WN R))
def f59:=h 33 1 [0,1,2,3,8,17] [.tmp 2] b59
def b60:=S (g [1,2] [b 1 0,Z 2]) (F [2] [f 3 1 1,l 4 3,o 5 (.call 62 [.t 4,.k (.int .i64 1),.k (.int .i64 64)]),m 2 5])
def f60:=h 6 1 [0,1,2] [.tmp 2] b60
def b61:=S (g [2,4,5] [b 2 0,K 4 0,K 5 0]) (S (g [7,8] [L 10 2 4,m 11 1,C 12 63 10 11,m 9 12,x 13 9 0,x 14 9 1,x 15 9 2,m 6 13,m 7 14,m 8 15]) (F [4,5] [m 16 7,m 17 8,m 4 16,m 5 17]))
def f61:=h 18 2 [0,1,2,4,5,7,8] [.tmp 4,.tmp 5] b61
@[simp]def WQ:=g [6] [m 7 0,m 8 1,z 9 .geq 7 8,m 10 9,mT 11 0 10,mT 12 2 10,zT 13 .leq 11 12 10,y 14 10 13,m 6 14]
def b62:=S (g [6] [Z 6]) (S WQ R)
def f62:=h 15 3 [0,1,2,6] [.tmp 6] b62
def WR:=S (g [2,4,5,6] [b 2 0,V 4,K 5 0,K 6 0]) (S (S (g [7] [L 10 2 4,c 11 24 10,m 7 11]) (A [13] [m 12 7,i 13 .neq 12 0] 13 (F [4,5,6] [m 14 7,V 4,K 5 0,m 6 14]) W)) (S (A [17] [m 15 1,n 16 15,i 17 .gtr 16 400] 17 (F [4,5,6] [V 4,K 5 0,K 6 5]) W) (S (g [8,9] [L 19 2 4,m 20 1,C 21 94 19 20,m 18 21,x 22 18 0,x 23 18 1,m 8 22,m 9 23]) (S (A [27] [m 24 9,m 25 1,n 26 25,z 27 .lss 24 26] 27 (F [4,5,6] [m 28 9,V 4,m 5 28,K 6 13]) W) (F [4,5,6] [m 29 8,m 4 29,K 5 0,K 6 0])))))
def f63:=h 30 2 [0,1,2,4,5,6,7,8,9,13,17,27] [.tmp 4,.tmp 5,.tmp 6] WR
@[simp]def WS:=g [2] [m 9 3,i 10 .gtr 9 0,m 11 10,mT 12 0 11,G 13 (.nck (.t 12)) 11 true,fT 14 13 4 11,lT 15 14 11,mT 16 3 11,iT 17 .sub 16 1 11,aT 18 15 17 4 11,LT 19 18 4 11,cT 20 28 19 11,y 21 11 20,m 22 21,mT 23 0 22,G 24 (.nck (.t 23)) 22 true,fT 25 24 4 22,lT 26 25 22,mT 27 3 22,iT 28 .sub 27 1 22,aT 29 26 28 4 22,fT 30 29 1 22,lT 31 30 22,iT 32 .gtr 31 0 22,y 33 22 32,m 2 33]
def b65:=S (g [2] [Z 2]) (S (g [3] [m 4 0,k 5 4,f 6 5 4,l 7 6,n 8 7,m 3 8]) (S WS R))
def f65:=h 34 1 [0,2,3] [.tmp 2] b65
def b66:=S (g [1,2] [b 1 0,K 2 0]) (S (S (g [3] [f 7 1 0,L 8 7 4,c 9 24 8,m 3 9]) (A [11] [m 10 3,i 11 .neq 10 0] 11 (F [2] [m 12 3,m 2 12]) W)) (S (S (g [4] [f 13 1 4,L 14 13 2,c 15 76 14,m 4 15]) (A [17] [m 16 4,i 17 .neq 16 0] 17 (F [2] [m 18 4,m 2 18]) W)) (S (S (g [6] [f 20 1 0,L 21 20 4,f 22 1 4,L 23 22 2,C 24 96 21 23,m 19 24,x 25 19 0,x 26 19 1,m 5 25,m 6 26]) (A [28] [m 27 6,N 28 27] 28 (F [2] [K 2 13]) W)) (F [2] [K 2 0]))))
def f66:=h 29 1 [0,1,2,3,4,6,11,17,28] [.tmp 2] b66
@[simp]def WT:=g [19] [f 6 2 0,l 7 6,n 8 7,f 9 3 0,l 10 9,n 11 10,z 12 .neq 8 11,m 13 12,fF 14 2 1 13,LF 15 14 2 13,fF 16 3 1 13,LF 17 16 2 13,G 18 (.eqs ⟨true,[1,0]⟩ true (.t 15) (.t 17)) 13 false,Y 19 13 18]
def Dw:=S (A [24] [m 20 5,f 21 2 0,l 22 21,n 23 22,z 24 .lss 20 23] 24 W (X 0)) (S (T 1 (S (d [37] [r 0 (f 27 2 0),w 1 (l 28 27) 0 0,r 2 (m 29 5),r 3 (a 30 28 29 2),w 4 (L 31 30 2) 0 0,r 5 (f 32 3 0),w 6 (l 33 32) 0 0,r 7 (m 34 5),r 8 (a 35 33 34 2),w 9 (L 36 35 2) 0 0] [o 37 (.eqs ⟨true,[1,0]⟩ true (.t 31) (.t 36))]) (I 37 (F [4] [Z 4]) W))) (t 5 25 26))
def b67:=S (g [2,3,4] [b 2 0,b 3 1,Z 4]) (S (S WT (I 19 (F [4] [Z 4]) W)) (S (S (g [5] [K 5 0]) (T 0 (M Dw))) (F [4] [O 4])))
def f67:=h 38 2 [0,1,2,3,4,5,19,24,37] [.tmp 4] b67
def b68:=S (g [2,4,5] [b 2 0,o 4 (.alloc [.ai,.ai]),K 5 0]) (S (g [6] [L 7 2 6,c 8 84 7,m 6 8]) (S (A [10] [m 9 6,i 10 .eql 9 0] 10 (g [6] [f 12 2 0,L 13 12 4,m 14 1,C 15 45 13 14,m 11 15,x 16 11 0,x 17 11 1,m 6 17]) W) (F [5] [f 18 2 4,L 19 18 2,o 20 (.build [.x (.t 19) 2]),m 21 6,s 2 4 20,m 5 21])))
def f68:=h 22 2 [0,1,2,4,5,6,10] [.cell 4 (some 2),.tmp 5] b68
def Dx:=S (A [14] [m 10 4,f 11 1 0,l 12 11,n 13 12,z 14 .lss 10 13] 14 W (X 0)) (S (T 1 (d [] [v 2 (o 19 (.bsl 5 [])),r 3 (f 20 1 0),w 4 (l 21 20) 0 1,r 5 (m 22 4),r 6 (a 23 21 22 1),w 7 (l 24 23) 0 1,u 8 (p 25 5 3518437208883 19 24),r 0 (f 17 3 0),w 1 (l 18 17) 0 2,r 9 (q 26 1 25)] [p 27 1 5864062014805 18 26,f 28 3 0,s 1 28 27])) (t 4 15 16))
def b69:=S (g [1,2] [b 1 0,o 2 (.alloc [.ai,.ai])]) (S (g [3] [o 5 (.bsl 1 []),f 6 1 1,l 7 6,p 8 1 140737488355328 5 7,o 9 (.build [.z [.ai],.x (.t 8) 1]),o 3 (.alloc [.ai,.ai]),s 2 3 9]) (S (S (g [4] [K 4 0]) (T 0 (M Dx))) (F [] [L 29 3 2,s 2 2 29])))
def f69:=h 30 1 [0,1,2,3,4,14] [.cell 2 (some 2)] b69
@[simp]def WU:=g [2] [f 3 1 2,l 4 3,o 5 (.bin false .eql (.t 4) (.k (.int .u8 1))),m 6 5,fF 7 1 2 6,lF 8 7 6,G 9 (.bin false .eql (.t 8) (.k (.int .u8 2))) 6 false,Y 10 6 9,m 2 10]
def b75:=S (g [1,2] [b 1 0,Z 2]) (S WU R)
def f75:=h 11 1 [0,1,2] [.tmp 2] b75
def WV:=S (g [1,2] [b 1 0,K 2 0]) (S (A [4] [L 3 1 2,c 4 104 3] 4 (F [2] [K 2 5]) W) (S (S (d [19] [w 0 (L 5 1 2) 0 0,u 1 (c 6 105 5),r 2 (N 7 6),r 3 (m 8 7),w 4 (LF 9 1 2 8) 1 1,u 5 (cF 10 106 9 8),r 6 (NF 11 10 8),r 7 (Y 12 8 11),r 8 (m 13 12),w 9 (LF 14 1 2 13) 2 2,u 10 (cF 15 108 14 13),w 11 (LF 16 1 2 13) 2 3] [CF 17 107 15 16 13,NF 18 17 13,Y 19 13 18]) (I 19 (F [2] [K 2 4]) W)) (F [2] [K 2 0])))
def f76:=h 20 1 [0,1,2,4,19] [.tmp 2] WV
@[simp]def WW:=g [5] [f 6 1 0,l 7 6,n 8 7,i 9 .gtr 8 8,m 10 9,fF 11 1 0 10,lF 12 11 10,mF 13 3 10,CF 14 115 12 13 10,Y 15 10 14,m 5 15]
@[simp]def WX:=g [16] [f 17 1 1,L 18 17 2,c 19 116 18,N 20 19,m 21 20,fF 22 1 0 21,lF 23 22 21,mF 24 4 21,CF 25 115 23 24 21,Y 26 21 25,m 16 26]
def WY:=S (g [1,2] [b 1 0,K 2 0]) (S (g [3] [o 3 (.mv (.k (.fn 112 [] [])))]) (S (g [4] [o 4 (.mv (.k (.fn 113 [] [])))]) (S (T 0 (S WW (I 5 (F [2] [K 2 5]) (S WX (I 16 (F [2] [K 2 4]) W))))) (F [2] [K 2 0]))))
def f82:=h 27 1 [0,1,2,3,4,5,16] [.tmp 2] WY
@[simp]def WZ:=g [30] [m 25 9,N 26 25,m 27 26,mF 28 1 27,iF 29 .eql 28 0 27,Y 30 27 29]
def b83:=S (g [2,4,5] [b 2 0,o 4 (.alloc [.ai,.bool false,.int .i64 0,.bool false]),K 5 0]) (S (g [6,7] [L 11 2 4,c 12 117 11,m 10 12,x 13 10 0,x 14 10 1,o 6 (.alloc [.ai,.bool false,.int .i64 0,.bool false]),s 4 6 13,m 7 14]) (S (A [16] [m 15 7,i 16 .neq 15 0] 16 (F [5] [o 17 (.build [.z [.ai],.z [.bool false,.int .i64 0],.z [.bool false]]),m 18 7,s 4 4 17,m 5 18]) W) (S (g [8,9] [L 20 6 4,m 21 1,o 22 (.call 118 [.t 20,.t 21,.k (.int .i64 0)]),m 19 22,x 23 19 0,x 24 19 1,o 8 (.alloc [.int .i64 0,.int .i64 0,.bool false,.int .i64 0,.bool false]),s 5 8 23,m 9 24]) (S (S WZ (I 30 (F [5] [o 31 (.build [.z [.ai],.z [.bool false,.int .i64 0],.z [.bool false]]),s 4 4 31,K 5 7]) W)) (S (d [5] [r 0 (f 32 6 0),r 1 (f 33 32 0),w 2 (l 34 33) 0 0,r 3 (m 35 1),r 4 (i 36 .sub 35 1),r 5 (a 37 34 36 3),r 6 (f 38 37 0),w 7 (l 39 38) 0 0,u 8 (o 40 (.call 119 [.t 39,.k (.fn 120 [] [])])),r 9 (f 41 8 2),w 10 (L 42 41 2) 0 1,r 11 (f 43 8 4),w 12 (l 44 43) 0 1] [o 45 (.build [.x (.t 40) 1,.x (.t 42) 2,.x (.t 44) 1]),s 4 4 45,K 5 0]) R)))))
def f83:=h 46 2 [0,1,2,4,5,6,7,8,9,16,30] [.cell 4 (some 4),.tmp 5] b83
def b84:=S (g [1,2] [b 1 0,K 2 0]) (S (g [4] [L 6 1 6,c 7 121 6,m 5 7,x 8 5 0,x 9 5 1,m 3 8,m 4 9]) (F [2] [m 10 4,m 2 10]))
def f84:=h 11 1 [0,1,2,4] [.tmp 2] b84
@[simp]def W0:=g [4] [f 6 2 1,L 7 6 2,f 8 3 1,L 9 8 2,o 10 (.eqs ⟨true,[1,0]⟩ false (.t 7) (.t 9)),m 11 10,fT 12 2 3 11,lT 13 12 11,fT 14 3 3 11,lT 15 14 11,G 16 (.bin true .eql (.t 13) (.t 15)) 11 true,y 17 11 16,m 18 17,fT 19 2 0 18,lT 20 19 18,fT 21 3 0 18,lT 22 21 18,mT 23 5 18,G 24 (.call 124 [.t 20,.t 22,.t 23]) 18 true,y 25 18 24,m 4 25]
def b85:=S (g [2,3,4] [b 2 0,b 3 1,Z 4]) (S (g [5] [o 5 (.mv (.k (.fn 122 [] [])))]) (S W0 R))
def f85:=h 26 2 [0,1,2,3,4,5] [.tmp 4] b85
def b86:=S (g [2,4,5] [b 2 0,V 4,K 5 0]) (S (S (g [6] [L 7 2 4,c 8 82 7,m 6 8]) (A [10] [m 9 6,i 10 .neq 9 0] 10 (F [4,5] [m 11 6,V 4,m 5 11]) W)) (S (A [14] [m 12 1,n 13 12,i 14 .gtr 13 400] 14 (F [4,5] [V 4,K 5 5]) W) (F [4,5] [L 15 2 4,m 16 1,C 17 125 15 16,m 4 17,K 5 0])))
def f86:=h 18 2 [0,1,2,4,5,6,10,14] [.tmp 4,.tmp 5] b86
def b87:=S (g [2,4,5] [b 2 0,Q 4,K 5 0]) (F [4,5] [L 6 2 4,m 7 1,o 8 (.call 126 [.t 6,.t 7,.k (.fn 127 [] [])]),x 9 8 0,x 10 8 1,m 4 9,m 5 10])
def f87:=h 11 2 [0,1,2,4,5] [.tmp 4,.tmp 5] b87
@[simp]def W1:=g [2] [f 3 1 2,l 4 3,o 5 (.bin false .eql (.t 4) (.k (.int .u8 3))),m 6 5,fT 7 1 3 6,lT 8 7 6,iT 9 .eql 8 (-1) 6,y 10 6 9,m 2 10]
def b88:=S (g [1,2] [b 1 0,Z 2]) (S W1 R)
def f88:=h 11 1 [0,1,2] [.tmp 2] b88
@[simp]def W2:=g [4] [m 5 1,i 6 .gtr 5 0,m 7 6,mT 8 0 7,mT 9 1 7,iT 10 .sub 9 1 7,aT 11 8 10 4 7,LT 12 11 4 7,cT 13 88 12 7,y 14 7 13,m 15 14,mT 16 0 15,mT 17 1 15,iT 18 .sub 17 1 15,aT 19 16 18 4 15,fT 20 19 1 15,lT 21 20 15,iT 22 .gtr 21 0 15,y 23 15 22,m 4 23]
def b89:=S (g [4] [Z 4]) (S W2 R)
def f89:=h 24 2 [0,1,4] [.tmp 4] b89
def Dy:=S (g [17] [z 17 .lss 16 15]) (S (I 17 W (X 0)) (S (T 1 (S (g [8] [a 18 14 16 5,L 19 18 5,o 8 (.alloc [.int .i64 0,.int .i64 0,.int .u8 0,.int .i64 0,.int .i64 0]),s 5 8 19]) (A [23] [f 20 8 0,L 21 20 4,L 22 5 4,o 23 (.eqs ⟨true,[0,0,0,0]⟩ false (.t 21) (.t 22))] 23 (F [6] [f 24 8 4,l 25 24,m 6 25]) W))) (g [16] [i 26 .add 16 1,m 16 26])))
def b90:=S (g [3,5,6] [b 3 0,b 5 2,K 6 0]) (S (S (g [14,15,16] [f 9 3 0,f 10 9 0,l 11 10,m 12 1,a 13 11 12 1,l 14 13,n 15 14,K 16 0]) (T 0 (M Dy))) (F [6] [K 6 (-1)]))
def f90:=h 27 3 [0,1,2,3,5,6,8,14,15,16,17,23] [.tmp 6] b90
def b91:=S (g [1,2] [o 1 (.box (.t 0)),o 2 (.alloc [.int .i64 0,.int .i64 0,.int .u8 0,.int .i64 0])]) (S (g [] [f 3 1 1,l 4 3,f 5 1 0,s 1 5 4,f 6 1 1,e (.st 1 (.t 6) (.k (.int .i64 0)))]) (F [] [L 7 1 4,s 4 2 7]))
def f91:=h 8 1 [0,1,2] [.cell 2 (some 4)] b91
def Dz:=S (A [14] [m 11 7,m 12 1,n 13 12,z 14 .lss 11 13] 14 W (X 0)) (S (T 1 (S (A [23] [m 17 6,m 18 1,m 19 7,a 20 18 19 4,L 21 20 4,C 22 128 17 21,N 23 22] 23 (F [4,5] [m 24 6,m 25 7,m 4 24,m 5 25]) W) (g [] [m 26 6,m 27 1,m 28 7,a 29 27 28 4,L 30 29 4,C 31 129 26 30]))) (t 7 15 16))
def b94:=S (g [2,4,5] [b 2 0,V 4,K 5 0]) (S (g [6] [L 8 2 4,o 9 (.build [.x (.t 8) 4,.z [.ai],.z [.ai],.z [.ai],.z [.ai],.z [.bool false],.z [.int .i64 0]]),o 10 (.box (.t 9)),m 6 10]) (S (S (g [7] [K 7 0]) (T 0 (M Dz))) (F [4,5] [m 32 6,m 33 1,n 34 33,m 4 32,m 5 34])))
def f94:=h 35 2 [0,1,2,4,5,6,7,14,23] [.tmp 4,.tmp 5] b94
def b95:=S (g [2,3] [o 2 (.alloc [.int .i64 0,.int .i64 0,.int .u8 0,.int .i64 0]),Z 3]) (S (A [9] [m 4 0,k 5 4,f 6 5 5,l 7 6,n 8 7,i 9 .eql 8 0] 9 (F [3] [o 10 (.build [.z [.int .i64 0],.z [.int .i64 0],.z [.int .u8 0],.z [.int .i64 0]]),s 4 2 10,Z 3]) W) (S (d [3] [r 0 (m 11 0),r 1 (k 12 11),r 2 (f 13 12 4),w 3 (l 14 13) 0 0,r 4 (m 15 0),r 5 (k 16 15),r 6 (f 17 16 5),w 7 (l 18 17) 0 0,r 8 (m 19 0),r 9 (k 20 19),r 10 (f 21 20 5),w 11 (l 22 21) 0 0,w 12 (n 23 22) 0 0,r 13 (i 24 .sub 23 1),r 14 (a 25 18 24 1),w 15 (l 26 25) 0 0] [a 27 14 26 4,L 28 27 4,s 4 2 28,O 3]) R))
def f95:=h 29 1 [0,2,3,9] [.cell 2 (some 4),.tmp 3] b95
def AE:=S (A [128] [m 125 15,m 126 8,n 127 126,z 128 .lss 125 127] 128 W (X 4)) (S (T 5 (d [14] [r 0 (m 131 14),r 1 (m 132 131),r 2 (mF 133 8 132),r 3 (mF 134 15 132),r 4 (aF 135 133 134 5 132),w 5 (LF 136 135 5 132) 0 0,w 6 (LF 137 13 5 132) 0 0] [CF 138 134 136 137 132,Y 139 132 138,m 14 139])) (t 15 129 130))
def AF:=S (A [98] [m 90 11,f 91 3 0,l 92 91,f 93 10 0,l 94 93,a 95 92 94 1,l 96 95,n 97 96,z 98 .lss 90 97] 98 W (X 2)) (S (T 3 (S (g [12] [f 101 3 0,l 102 101,f 103 10 0,l 104 103,a 105 102 104 1,l 106 105,m 107 11,a 108 106 107 5,L 109 108 5,o 12 (.alloc [.int .i64 0,.int .i64 0,.int .u8 0,.int .i64 0,.int .i64 0]),s 5 12 109]) (S (A [116] [f 110 10 1,L 111 110 4,L 112 2 4,f 113 12 0,L 114 113 4,J 115 132 111 112 114,N 116 115] 116 (F [4,5] [Q 4,Z 5]) W) (S (d [13] [r 2 (f 119 10 1),w 3 (L 120 119 4) 0 0,r 4 (f 121 12 0),w 5 (L 122 121 4) 0 0,u 6 (C 123 133 120 122),r 0 (f 117 12 4),w 1 (l 118 117) 0 2,r 7 (o 124 (.build [.x (.t 118) 1,.x (.t 123) 4])),v 8 (o 13 (.alloc [.int .i64 0,.ai,.bool false,.bool false,.bool false]))] [s 5 13 124]) (S (g [14] [Z 14]) (S (S (g [15] [K 15 0]) (T 4 (M AE))) (A [141] [m 140 14,N 141 140] 141 (g [8] [m 142 8,L 143 13 5,q 144 5 143,p 145 5 3518437208883 142 144,m 8 145]) W))))))) (t 11 99 100))
def lX:=S (A [29] [m 26 9,m 27 8,n 28 27,z 29 .lss 26 28] 29 W (X 0)) (S (T 1 (S (g [10] [m 32 8,m 33 9,a 34 32 33 5,L 35 34 5,o 10 (.alloc [.int .i64 0,.ai,.bool false,.bool false,.bool false]),s 5 10 35]) (S (S (d [78] [r 0 (m 36 7),r 1 (f 37 10 0),w 2 (l 38 37) 0 0,r 3 (a 39 36 38 1),w 4 (l 40 39) 0 0,r 5 (m 41 40),r 6 (mT 42 6 41),r 7 (fT 43 10 0 41),w 8 (lT 44 43 41) 0 0,r 9 (aT 45 42 44 1 41),w 10 (lT 46 45 41) 0 0,r 11 (fT 47 10 1 41),r 12 (fT 48 47 0 41),w 13 (lT 49 48 41) 0 0,u 14 (CT 50 130 46 49 41),r 15 (NT 51 50 41),r 16 (y 52 41 51),r 17 (m 53 52),r 24 (fF 60 10 1 53),w 25 (LF 61 60 4 53) 1 1,u 26 (cF 62 131 61 53),r 18 (fF 54 3 1 53),w 19 (lF 55 54 53) 1 2,r 20 (fF 56 10 0 53),w 21 (lF 57 56 53) 1 2,r 22 (aF 58 55 57 1 53),w 23 (lF 59 58 53) 1 2] [G 63 (.bin true .neq (.t 59) (.t 62)) 53 false,mF 64 63 53,fT 65 3 0 64,lT 66 65 64,nT 67 66 64,iT 68 .eql 67 1 64,mT 69 68 64,fT 70 3 1 69,lT 71 70 69,G 72 (.ia (.t 71) (.k (.int .i64 0)) 1) 69 true,lT 73 72 69,NT 74 73 69,yT 75 69 74 64,NT 76 75 64,yF 77 64 76 53,Y 78 53 77]) (I 78 (F [4,5] [Q 4,Z 5]) W)) (S (d [] [r 0 (m 79 6),r 1 (f 80 10 0),w 2 (l 81 80) 0 0,r 6 (f 85 10 1),r 7 (f 86 85 0),w 8 (l 87 86) 0 0,r 9 (a 88 79 81 1),u 10 (s 1 88 87),r 3 (m 82 7),r 4 (f 83 10 0),w 5 (l 84 83) 0 1] [a 89 82 84 1,e (.st 1 (.t 89) (.k (.bool true)))]) (S (g [11] [K 11 0]) (T 2 (M AF))))))) (t 9 30 31))
def b96:=S (g [2,3,4,5] [b 2 0,b 3 1,Q 4,Z 5]) (S (g [6] [f 16 3 0,l 17 16,n 18 17,o 19 (.mks 1 5864062014805 [.ai] (.t 18) (.t 18)),m 6 19]) (S (g [7] [f 20 3 0,l 21 20,n 22 21,o 23 (.mks 1 140737488355328 [.bool false] (.t 22) (.t 22)),m 7 23]) (S (g [8] [o 24 (.build [.z [.int .i64 0],.z [.ai,.bool false,.bool false,.bool false]]),o 25 (.bsl 5 [.t 24]),m 8 25]) (S (S (g [9] [K 9 0]) (T 0 (M lX))) (F [4,5] [m 146 6,m 4 146,O 5])))))
def f96:=h 147 2 [0,1,2,3,4,5,6,7,8,9,10,11,12,13,14,15,29,78,98,116,128,141] [.tmp 4,.tmp 5] b96
@[simp]def Qs:=g [2] [f 3 1 0,l 4 3,n 5 4,i 6 .gtr 5 400,m 7 6,fF 8 1 1 7,lF 9 8 7,nF 10 9 7,iF 11 .gtr 10 400 7,Y 12 7 11,m 13 12,fF 14 1 0 13,lF 15 14 13,cF 16 139 15 13,iF 17 .gtr 16 6000 13,Y 18 13 17,m 2 18]
def W3:=S (g [1,2] [b 1 0,Z 2]) (S Qs R)
def abL:=h 19 1 [0,1,2] [.tmp 2] W3
@[simp]def Qt:=g [17] [f 5 1 0,l 6 5,n 7 6,i 8 .eql 7 0,m 9 8,fF 10 1 0 9,lF 11 10 9,nF 12 11 9,fF 13 1 1 9,lF 14 13 9,nF 15 14 9,zF 16 .neq 12 15 9,Y 17 9 16]
def xD:=S (A [32] [m 25 4,f 26 1 0,l 27 26,m 28 3,a 29 27 28 1,l 30 29,n 31 30,z 32 .lss 25 31] 32 W (X 2)) (S (T 3 (S (d [49] [r 0 (f 35 1 0),w 1 (l 36 35) 0 0,r 2 (m 37 3),r 3 (a 38 36 37 1),w 4 (l 39 38) 0 0,r 5 (m 40 4),r 6 (a 41 39 40 5),r 7 (f 42 41 4),w 8 (l 43 42) 0 0,r 9 (f 44 1 0),w 10 (l 45 44) 0 0,w 11 (n 46 45) 0 0,r 12 (i 47 .sub 46 1)] [o 48 (.call 62 [.t 43,.k (.int .i64 0),.t 47]),N 49 48]) (I 49 (F [2] [Z 2]) W))) (t 4 33 34))
def BI:=S (A [22] [m 18 3,f 19 1 0,l 20 19,n 21 20,z 22 .lss 18 21] 22 W (X 0)) (S (T 1 (S (g [4] [K 4 0]) (T 2 (M xD)))) (t 3 23 24))
def Mq:=S (g [1,2] [b 1 0,Z 2]) (S (S Qt (I 17 (F [2] [Z 2]) W)) (S (S (g [3] [K 3 0]) (T 0 (M BI))) (F [2] [O 2])))
def abM:=h 50 1 [0,1,2,3,4,17,22,32,49] [.tmp 2] Mq
def xE:=S (A [19] [m 12 4,f 13 1 0,l 14 13,m 15 3,a 16 14 15 1,l 17 16,n 18 17,z 19 .lss 12 18] 19 W (X 2)) (S (T 3 (S (d [42] [r 0 (f 22 1 0),w 1 (l 23 22) 0 0,r 2 (m 24 3),r 3 (a 25 23 24 1),w 4 (l 26 25) 0 0,r 5 (m 27 4),r 6 (i 28 .sub 27 1),r 7 (a 29 26 28 5),r 8 (f 30 29 0),w 9 (L 31 30 4) 0 0,r 10 (f 32 1 0),w 11 (l 33 32) 0 0,r 12 (m 34 3),r 13 (a 35 33 34 1),w 14 (l 36 35) 0 0,r 15 (m 37 4),r 16 (a 38 36 37 5),r 17 (f 39 38 0),w 18 (L 40 39 4) 0 0] [C 41 138 31 40,N 42 41]) (I 42 (F [2] [Z 2]) W))) (t 4 20 21))
def BJ:=S (A [9] [m 5 3,f 6 1 0,l 7 6,n 8 7,z 9 .lss 5 8] 9 W (X 0)) (S (T 1 (S (g [4] [K 4 1]) (T 2 (M xE)))) (t 3 10 11))
def W4:=S (g [1,2] [b 1 0,Z 2]) (S (S (g [3] [K 3 0]) (T 0 (M BJ))) (F [2] [O 2]))
def abN:=h 43 1 [0,1,2,3,4,9,19,42] [.tmp 2] W4
@[simp]def Qu:=g [23] [f 8 2 0,l 9 8,n 10 9,f 11 3 0,l 12 11,n 13 12,z 14 .neq 10 13,m 15 14,fF 16 2 1 15,lF 17 16 15,nF 18 17 15,fF 19 3 1 15,lF 20 19 15,nF 21 20 15,zF 22 .neq 18 21 15,Y 23 15 22]
def xF:=S (A [28] [m 24 5,f 25 2 1,l 26 25,n 27 26,z 28 .lss 24 27] 28 W (X 0)) (S (T 1 (S (d [41] [r 0 (f 31 2 1),w 1 (l 32 31) 0 0,r 2 (m 33 5),r 3 (a 34 32 33 1),w 4 (l 35 34) 0 0,r 5 (f 36 3 1),w 6 (l 37 36) 0 0,r 7 (m 38 5),r 8 (a 39 37 38 1),w 9 (l 40 39) 0 0] [o 41 (.bin true .neq (.t 35) (.t 40))]) (I 41 (F [4] [Z 4]) W))) (t 5 29 30))
def xG:=S (A [69] [m 62 7,f 63 2 0,l 64 63,m 65 6,a 66 64 65 1,l 67 66,n 68 67,z 69 .lss 62 68] 69 W (X 4)) (S (T 5 (S (d [88] [r 0 (f 72 2 0),w 1 (l 73 72) 0 0,r 2 (m 74 6),r 3 (a 75 73 74 1),w 4 (l 76 75) 0 0,r 5 (m 77 7),r 6 (a 78 76 77 5),w 7 (L 79 78 5) 0 0,r 8 (f 80 3 0),w 9 (l 81 80) 0 0,r 10 (m 82 6),r 11 (a 83 81 82 1),w 12 (l 84 83) 0 0,r 13 (m 85 7),r 14 (a 86 84 85 5),w 15 (L 87 86 5) 0 0] [o 88 (.eqs ⟨true,[0,0,0,0,0]⟩ true (.t 79) (.t 87))]) (I 88 (F [4] [Z 4]) W))) (t 7 70 71))
def xH:=S (A [46] [m 42 6,f 43 2 0,l 44 43,n 45 44,z 46 .lss 42 45] 46 W (X 2)) (S (T 3 (S (S (d [61] [r 0 (f 49 2 0),w 1 (l 50 49) 0 0,r 2 (m 51 6),r 3 (a 52 50 51 1),w 4 (l 53 52) 0 0,w 5 (n 54 53) 0 0,r 6 (f 55 3 0),w 7 (l 56 55) 0 0,r 8 (m 57 6),r 9 (a 58 56 57 1),w 10 (l 59 58) 0 0,w 11 (n 60 59) 0 0] [z 61 .neq 54 60]) (I 61 (F [4] [Z 4]) W)) (S (g [7] [K 7 0]) (T 4 (M xG))))) (t 6 47 48))
def Mr:=S (g [2,3,4] [b 2 0,b 3 1,Z 4]) (S (S Qu (I 23 (F [4] [Z 4]) W)) (S (S (g [5] [K 5 0]) (T 0 (M xF))) (S (S (g [6] [K 6 0]) (T 2 (M xH))) (F [4] [O 4]))))
def abO:=h 89 2 [0,1,2,3,4,5,6,7,23,28,41,46,61,69,88] [.tmp 4] Mr
def rj:=S (S (d [61] [r 0 (m 51 12),r 1 (f 52 1 0),w 2 (l 53 52) 0 0,r 3 (m 54 6),r 4 (m 55 7),r 5 (a 56 54 55 1),w 6 (l 57 56) 0 0,r 7 (a 58 53 57 1),w 8 (l 59 58) 0 0,w 9 (n 60 59) 0 0] [z 61 .lss 51 60]) (I 61 W (X 4))) (S (T 5 (S (d [13] [r 0 (f 64 1 0),w 1 (l 65 64) 0 1,r 2 (m 66 6),r 3 (m 67 7),r 4 (a 68 66 67 1),w 5 (l 69 68) 0 1,r 6 (a 70 65 69 1),w 7 (l 71 70) 0 1,r 8 (m 72 12),r 9 (a 73 71 72 5),w 10 (L 74 73 5) 0 1,v 11 (o 13 (.alloc [.int .i64 0,.int .i64 0,.int .u8 0,.int .i64 0,.int .i64 0]))] [s 5 13 74]) (S (d [88] [r 0 (f 75 13 0),w 1 (L 76 75 4) 0 0,r 2 (m 77 9),r 3 (m 78 10),r 4 (a 79 77 78 4),w 5 (L 80 79 4) 0 0,r 6 (o 81 (.eqs ⟨true,[0,0,0,0]⟩ false (.t 76) (.t 80))),r 7 (m 82 81),r 8 (mT 83 3 82),r 9 (fT 84 13 4 82),w 10 (lT 85 84 82) 0 0] [aT 86 83 85 1 82,lT 87 86 82,y 88 82 87]) (I 88 (g [11] [f 89 13 4,l 90 89,m 11 90]) W)))) (t 12 62 63))
def tD:=S (S (d [110] [r 0 (m 93 14),r 1 (m 94 6),w 2 (n 95 94) 0 0,r 3 (z 96 .lss 93 95),r 4 (m 97 96),r 5 (mT 98 4 97),r 6 (mT 99 6 97),r 7 (mT 100 14 97),r 8 (aT 101 99 100 1 97),w 9 (lT 102 101 97) 0 0,r 10 (aT 103 98 102 1 97),w 11 (lT 104 103 97) 0 0,r 12 (mT 105 4 97),r 13 (mT 106 11 97),r 14 (aT 107 105 106 1 97),w 15 (lT 108 107 97) 0 0] [zT 109 .neq 104 108 97,y 110 97 109]) (I 110 W (X 6))) (T 7 (t 14 111 112))
def xI:=S (A [48] [m 45 10,m 46 9,n 47 46,z 48 .lss 45 47] 48 W (X 2)) (S (T 3 (S (g [11] [K 11 (-1)]) (S (S (g [12] [K 12 0]) (T 4 (M rj))) (S (A [92] [m 91 11,i 92 .lss 91 0] 92 (X 3) W) (S (g [14] [K 14 0]) (S (T 6 (M tD)) (S (A [116] [m 113 14,m 114 6,n 115 114,z 116 .eql 113 115] 116 (g [6] [m 117 6,m 118 11,q 119 1 118,p 120 1 17592186044416 117 119,m 6 120]) W) (g [8] [m 121 8,m 122 9,m 123 10,a 124 122 123 4,L 125 124 4,m 126 14,o 127 (.build [.x (.t 125) 4,.x (.t 126) 1]),q 128 5 127,p 129 5 3518437208883 121 128,m 8 129])))))))) (t 10 49 50))
def tE:=S (A [33] [m 30 7,m 31 6,n 32 31,z 33 .lss 30 32] 33 W (X 0)) (S (T 1 (S (g [8] [Q 8]) (S (d [9] [r 0 (f 36 1 0),w 1 (l 37 36) 0 0,r 2 (o 38 (.build [.x (.t 37) 1,.z [.ai],.z [.ai]])),r 3 (m 39 6),r 4 (m 40 7),r 5 (a 41 39 40 1),w 6 (l 42 41) 0 0,r 7 (q 43 1 42)] [C 44 142 38 43,m 9 44]) (S (S (g [10] [K 10 0]) (T 2 (M xI))) (d [] [r 0 (f 130 5 0),w 1 (l 131 130) 0 0,r 2 (m 132 8),r 3 (q 133 1 132),u 4 (p 134 1 5864062014805 131 133),r 5 (f 135 5 1),w 6 (l 136 135) 0 1,r 7 (f 137 1 1),w 8 (l 138 137) 0 1,r 9 (m 139 6),r 10 (m 140 7),r 11 (a 141 139 140 1),w 12 (l 142 141) 0 1,r 13 (a 143 138 142 1),w 14 (l 144 143) 0 1,r 15 (q 145 1 144),u 16 (p 146 1 140737488355328 136 145),r 17 (f 147 5 0)] [s 1 147 134,f 148 5 1,s 1 148 146]))))) (t 7 34 35))
def Qv:=S (g [1,2] [b 1 0,o 2 (.alloc [.ai,.ai])]) (S (g [3] [L 15 1 2,c 16 140 15,m 3 16]) (S (A [20] [m 17 3,o 18 (.ia (.t 17) (.k (.int .i64 0)) 1),l 19 18,N 20 19] 20 (F [] [j 21 111,s 2 2 21]) W) (S (g [4] [L 22 1 2,m 23 3,C 24 141 22 23,m 4 24]) (S (A [26] [m 25 4,o 26 (.niq 0 false (.t 25))] 26 (F [] [o 27 (.mks 1 5864062014805 [.ai] (.k (.int .i64 401)) (.k (.int .i64 401))),o 28 (.build [.x (.t 27) 1,.z [.ai]]),s 2 2 28]) W) (S (g [5] [o 5 (.alloc [.ai,.ai])]) (S (g [6] [o 29 (.bsl 1 [.k (.int .i64 0)]),m 6 29]) (S (S (g [7] [K 7 0]) (T 0 (M tE))) (F [] [L 149 5 2,s 2 2 149]))))))))
def abP:=h 150 1 [0,1,2,3,4,5,6,7,8,9,10,11,12,13,14,20,26,33,48,61,88,92,110,116] [.cell 2 (some 2)] Qv
def W5:=S (g [0] [o 0 (.alloc [.ai,.ai])]) (F [] [o 1 (.bsl 1 [.k .ai]),o 2 (.bsl 1 [.k (.bool false)]),o 3 (.build [.x (.t 1) 1,.x (.t 2) 1]),s 2 0 3])
def abQ:=h 4 0 [0] [.cell 0 (some 2)] W5
def W6:=S (g [1,2] [b 1 0,Z 2]) (F [2] [f 3 1 0,l 4 3,n 5 4,i 6 .gtr 5 5,m 2 6])
def abR:=h 7 1 [0,1,2] [.tmp 2] W6
def W8:=S (g [1,2] [b 1 0,Z 2]) (F [2] [L 3 1 3,c 4 114 3,N 5 4,m 2 5])
def abS:=h 6 1 [0,1,2] [.tmp 2] W8
@[simp]def Qw:=g [2] [f 4 1 1,L 5 4 2,c 6 116 5,m 7 6,fT 8 1 0 7,lT 9 8 7,mT 10 3 7,CT 11 146 9 10 7,NT 12 11 7,y 13 7 12,m 14 13,fT 15 1 0 14,lT 16 15 14,nT 17 16 14,iT 18 .eql 17 0 14,mT 19 18 14,fF 20 1 1 19,fF 21 20 0 19,lF 22 21 19,NF 23 22 19,YT 24 19 23 14,y 25 14 24,m 2 25]
def JV:=S (g [1,2] [b 1 0,Z 2]) (S (g [3] [o 3 (.mv (.k (.fn 145 [] [])))]) (S Qw R))
def abT:=h 26 1 [0,1,2,3] [.tmp 2] JV
def W9:=S (g [4] [Z 4]) (F [4] [m 5 0,m 6 1,C 7 147 5 6,i 8 .geq 7 0,m 4 8])
def abU:=h 9 2 [0,1,4] [.tmp 4] W9
@[simp]def Qx:=g [2] [f 3 1 1,l 4 3,i 5 .geq 4 1,m 6 5,fT 7 1 1 6,lT 8 7 6,iT 9 .leq 8 64 6,y 10 6 9,m 2 10]
def Xa:=S (g [1,2] [b 1 0,Z 2]) (S Qx R)
def abV:=h 11 1 [0,1,2] [.tmp 2] Xa
def Xb:=S (g [1,2,3] [b 1 0,o 2 (.alloc [.ai,.bool false,.int .i64 0,.bool false]),K 3 0]) (S (d [3] [w 2 (L 6 1 4) 0 0,u 3 (c 7 82 6),w 0 (L 4 1 4) 0 1,r 1 (o 5 (.build [.x (.t 4) 4]))] [s 4 2 5,m 3 7]) R)
def abW:=h 8 1 [0,1,2,3] [.cell 2 (some 4),.tmp 3] Xb
@[simp]def Qy:=g [3,4,5,6,7] [b 3 0,b 4 1,b 5 2,o 6 (.alloc [.int .i64 0,.int .i64 0,.bool false,.int .i64 0,.bool false]),o 7 (.alloc [.bool false])]
@[simp]def Qz:=g [10] [L 9 3 4,o 10 (.mkf 148 [.t 9] [])]
@[simp]def ez:=g [8] [o 8 (.alloc [.int .i64 0,.int .i64 0,.bool false,.int .i64 0,.bool false]),s 5 8 11]
@[simp]def QA:=g [21] [f 12 8 0,l 13 12,l 14 4,z 15 .eql 13 14,m 16 15,fT 17 8 1 16,lT 18 17 16,lT 19 5 16,zT 20 .eql 18 19 16,y 21 16 20]
@[simp]def QB:=g [] [L 22 8 5,s 5 6 22,e (.st 1 (.t 7) (.k (.bool true)))]
def ec:=T 1 (S QA (I 21 (S QB R) W))
def JW:=T 0 (.rf (.t 10) [11] ez ec)
@[simp]def QC:=g [] [o 23 (.build [.z [.int .i64 0],.z [.int .i64 0],.z [.bool false,.int .i64 0],.z [.bool false]]),s 5 6 23,e (.st 1 (.t 7) (.k (.bool false)))]
def Xc:=S Qy (S (S Qz JW) (S QC R))
def abX:=h 24 3 [0,1,2,3,4,5,6,7,8,10,11,21] [.cell 6 (some 5),.cell 7 none] Xc
def BK:=S (g [10] [z 10 .lss 9 8]) (S (I 10 W (X 0)) (S (T 1 (S (g [6] [a 11 7 9 2,L 12 11 2,o 6 (.alloc [.bool false,.int .i64 0]),s 2 6 12]) (g [4] [m 13 4,m 14 1,L 15 6 2,o 16 (.dyn (.t 14) [.t 15]),q 17 3 16,p 18 3 3518437208883 13 17,m 4 18]))) (g [9] [i 19 .add 9 1,m 9 19])))
def Xd:=S (g [4] [Q 4]) (S (S (g [7,8,9] [m 7 0,n 8 7,K 9 0]) (T 0 (M BK))) (F [4] [m 20 4,m 4 20]))
def abY:=h 21 2 [0,1,4,6,7,8,9,10] [.tmp 4] Xd
def Xe:=S (g [1,2] [b 1 0,o 2 (.alloc [.ai,.bool false,.int .i64 0])]) (F [] [L 3 1 2,o 4 (.build [.z [.ai],.x (.t 3) 2]),s 3 2 4])
def abZ:=h 5 1 [0,1,2] [.cell 2 (some 3)] Xe
def Ms:=S (g [1,2,3] [b 1 0,V 2,K 3 0]) (S (S (g [4] [f 8 1 0,L 9 8 4,c 10 82 9,m 4 10]) (A [12] [m 11 4,i 12 .neq 11 0] 12 (F [2,3] [m 13 4,V 2,m 3 13]) W)) (S (S (g [5] [f 14 1 4,L 15 14 2,c 16 149 15,m 5 16]) (A [18] [m 17 5,i 18 .neq 17 0] 18 (F [2,3] [m 19 5,V 2,m 3 19]) W)) (S (g [6,7] [L 21 1 6,c 22 150 21,m 20 22,x 23 20 0,x 24 20 1,m 6 23,m 7 24]) (S (A [26] [m 25 7,N 26 25] 26 (F [2,3] [V 2,K 3 13]) W) (F [2,3] [m 27 6,m 2 27,K 3 0])))))
def ab0:=h0 28 1 [0,1,2,3,4,5,6,7,12,18,26] [.tmp 2,.tmp 3] Ms
@[simp]def QD:=g [4] [f 5 2 1,L 6 5 2,f 7 3 1,L 8 7 2,o 9 (.eqs ⟨true,[1,0]⟩ false (.t 6) (.t 8)),m 10 9,fT 11 2 0 10,lT 12 11 10,fT 13 3 0 10,lT 14 13 10,CT 15 123 12 14 10,y 16 10 15,m 4 16]
def QE:=S (g [2,3,4] [b 2 0,b 3 1,Z 4]) (S QD R)
def ab1:=h 17 2 [0,1,2,3,4] [.tmp 4] QE
def xJ:=S (g [14] [z 14 .lss 13 12]) (S (I 14 W (X 0)) (S (T 1 (S (g [5] [m 15 13,m 5 15]) (S (d [24] [r 0 (m 16 0),r 1 (m 17 5),r 2 (a 18 16 17 2),w 3 (L 19 18 2) 0 0,r 4 (m 20 1),r 5 (m 21 5),r 6 (a 22 20 21 2),w 7 (L 23 22 2) 0 0] [o 24 (.eqs ⟨true,[1,0]⟩ true (.t 19) (.t 23))]) (I 24 (F [4] [Z 4]) W)))) (g [13] [i 25 .add 13 1,m 13 25])))
def QF:=S (g [4] [Z 4]) (S (A [10] [m 6 0,n 7 6,m 8 1,n 9 8,z 10 .neq 7 9] 10 (F [4] [Z 4]) W) (S (S (g [12,13] [m 11 0,n 12 11,K 13 0]) (T 0 (M xJ))) (F [4] [O 4])))
def ab2:=h 26 2 [0,1,4,5,10,12,13,14,24] [.tmp 4] QF
def xK:=S (g [18] [z 18 .lss 17 16]) (S (I 18 W (X 0)) (S (T 1 (S (g [8,7] [m 19 17,a 20 15 17 3,L 21 20 3,o 8 (.alloc [.ai,.bool false,.int .i64 0]),m 7 19,s 3 8 21]) (S (g [9] [m 22 1,m 23 7,a 24 22 23 3,L 25 24 3,o 9 (.alloc [.ai,.bool false,.int .i64 0]),s 3 9 25]) (A [30] [m 26 2,L 27 8 3,L 28 9 3,o 29 (.dyn (.t 26) [.t 27,.t 28]),N 30 29] 30 (F [6] [Z 6]) W)))) (g [17] [i 31 .add 17 1,m 17 31])))
def QG:=S (g [6] [Z 6]) (S (A [14] [m 10 0,n 11 10,m 12 1,n 13 12,z 14 .neq 11 13] 14 (F [6] [Z 6]) W) (S (S (g [15,16,17] [m 15 0,n 16 15,K 17 0]) (T 0 (M xK))) (F [6] [O 6])))
def ab3:=h 32 3 [0,1,2,6,7,8,9,14,15,16,17,18,30] [.tmp 6] QG
@[simp]def QH:=g [36] [m 25 9,i 26 .neq 25 0,m 27 26,mF 28 8 27,NF 29 28 27,Y 30 27 29,m 31 30,mF 32 5 31,LF 33 7 4 31,CF 34 152 32 33 31,NF 35 34 31,Y 36 31 35]
def tF:=S (g [16] [z 16 .lss 15 14]) (S (I 16 W (X 0)) (S (T 1 (S (g [7] [a 17 13 15 4,L 18 17 4,o 7 (.alloc [.int .i64 0,.int .i64 0,.int .u8 0,.int .i64 0]),s 4 7 18]) (S (S (g [8,9] [L 20 2 4,L 21 7 4,C 22 151 20 21,m 19 22,x 23 19 0,x 24 19 1,m 8 23,m 9 24]) (S QH (I 36 (X 0) W))) (g [] [m 37 5,L 38 7 4,C 39 153 37 38])))) (g [15] [i 40 .add 15 1,m 15 40])))
def Xf:=S (g [2,4] [b 2 0,V 4]) (S (g [5] [L 10 2 4,o 11 (.build [.x (.t 10) 4,.z [.ai],.z [.ai],.z [.ai],.z [.ai],.z [.ai],.z [.bool false],.z [.bool false],.z [.int .i64 0]]),o 12 (.box (.t 11)),m 5 12]) (S (S (g [13,14,15] [m 13 1,n 14 13,K 15 0]) (T 0 (M tF))) (F [4] [m 41 5,m 4 41])))
def ab4:=h 42 2 [0,1,2,4,5,7,8,9,13,14,15,16,36] [.tmp 4] Xf
def Xg:=S (g [3,6,7] [b 3 0,Q 6,K 7 0]) (S (g [8,7] [L 11 3 4,m 12 1,C 13 86 11 12,m 10 13,x 14 10 0,x 15 10 1,m 8 14,m 7 15]) (S (T 0 (A [16] [m 17 7,i 18 .neq 17 0,m 16 18] 16 (F [6,7] [m 19 6,m 20 7,m 6 19,m 7 20]) (A [21] [m 22 8,k 23 22,f 24 23 4,l 25 24,n 26 25,m 27 1,n 28 27,z 29 .lss 26 28,m 21 29] 21 (F [6,7] [m 30 6,m 6 30,K 7 13]) W))) (S (S (g [6,7] [m 32 2,m 33 8,o 34 (.dyn (.t 32) [.t 33]),m 31 34,x 35 31 0,x 36 31 1,m 6 35,m 7 36]) (A [38] [m 37 7,i 38 .neq 37 0] 38 (S (g [9] [Q 9]) (F [6,7] [m 39 9,m 40 7,m 6 39,m 7 40])) W)) (F [6,7] [m 41 6,m 6 41,K 7 0]))))
def ab5:=h 42 3 [0,1,2,3,6,7,8,9,16,21,38] [.tmp 6,.tmp 7] Xg
def Xh:=S (g [2,3] [Q 2,K 3 0]) (F [2,3] [m 4 0,k 5 4,f 6 5 6,l 7 6,m 2 7,K 3 0])
def ab6:=h 8 1 [0,2,3] [.tmp 2,.tmp 3] Xh
@[simp]def QI:=g [4] [f 21 3 0,l 22 21,i 23 .eql 22 0,m 24 23,LT 25 3 4 24,cT 26 75 25 24,y 27 24 26,m 4 27]
@[simp]def jd:=g [7] [f 35 3 0,l 36 35,f 37 5 0,l 38 37,z 39 .eql 36 38,m 40 39,fT 41 3 1 40,lT 42 41 40,fT 43 5 1 40,lT 44 43 40,zT 45 .eql 42 44 40,y 46 40 45,m 47 46,fT 48 3 2 47,lT 49 48 47,G 50 (.bin false .eql (.t 49) (.k (.int .u8 3))) 47 true,y 51 47 50,m 52 51,fT 53 5 2 52,lT 54 53 52,G 55 (.bin false .eql (.t 54) (.k (.int .u8 1))) 52 true,mT 56 55 52,fF 57 3 3 56,lF 58 57 56,iF 59 .leq 58 0 56,YT 60 56 59 52,y 61 52 60,m 7 61]
@[simp]def je:=g [69] [m 62 0,k 63 62,f 64 63 8,l 65 64,m 66 65,mF 67 0 66,cF 68 65 67 66,Y 69 66 68]
@[simp]def QJ:=g [4] [m 70 7,m 71 70,LT 72 3 4 71,cT 73 28 72 71,y 74 71 73,m 4 74]
@[simp]def QK:=g [84] [f 77 5 0,l 78 77,i 79 .gtr 78 0,m 80 79,fT 81 5 1 80,lT 82 81 80,iT 83 .eql 82 0 80,y 84 80 83]
@[simp]def QL:=g [4] [f 85 3 0,l 86 85,f 87 5 0,l 88 87,z 89 .eql 86 88,m 90 89,fT 91 3 1 90,lT 92 91 90,iT 93 .gtr 92 0 90,y 94 90 93,m 4 94]
@[simp]def QM:=g [4] [f 95 3 0,l 96 95,i 97 .gtr 96 0,m 98 97,fT 99 3 1 98,lT 100 99 98,iT 101 .eql 100 0 98,y 102 98 101,m 4 102]
@[simp]def QN:=g [109] [L 103 3 4,c 104 28 103,m 105 104,fT 106 5 1 105,lT 107 106 105,iT 108 .eql 107 0 105,y 109 105 108]
@[simp]def QO:=g [4] [m 110 7,m 111 110,fT 112 5 0 111,lT 113 112 111,iT 114 .gtr 113 0 111,y 115 111 114,m 116 115,mT 117 0 116,G 118 (.nck (.t 117)) 116 true,fT 119 118 0 116,fT 120 119 3 116,lT 121 120 116,y 122 116 121,m 4 122]
def pI:=S (g [3,4] [b 3 1,Z 4]) (S (S (d [14] [r 0 (m 8 0),r 1 (k 9 8),r 2 (f 10 9 0),w 3 (L 11 10 4) 0 0,w 4 (L 12 3 4) 0 0] [C 13 154 11 12,N 14 13]) (I 14 (F [4] [Z 4]) W)) (S (A [20] [m 15 0,k 16 15,f 17 16 4,l 18 17,n 19 18,i 20 .eql 19 0] 20 (S QI R) W) (S (g [5,6] [m 29 0,c 30 95 29,m 28 30,x 31 28 0,x 32 28 1,o 5 (.alloc [.int .i64 0,.int .i64 0,.int .u8 0,.int .i64 0]),s 4 5 31,m 6 32]) (S (A [34] [m 33 6,N 34 33] 34 (F [4] [Z 4]) W) (S jd (S (S je (I 69 (S QJ R) W)) (S (A [76] [L 75 3 4,c 76 75 75] 76 (S (S QK (I 84 (S QL R) W)) (S QM R)) W) (S (S QN (I 109 (S QO R) W)) (F [4] [m 123 7,m 4 123])))))))))
def ab7:=h 124 2 [0,1,3,4,5,6,7,14,20,34,69,76,84,109] [.tmp 4] pI
@[simp]def QP:=g [3] [b 3 1]
@[simp]def QQ:=g [4] [m 8 0,k 9 8,f 10 9 4,l 11 10,n 12 11,m 4 12]
@[simp]def QR:=g [5] [m 13 0,c 14 65 13,m 5 14]
@[simp]def QS:=d [] [r 1 (m 16 0),r 2 (k 17 16),r 3 (f 18 17 4),w 4 (l 19 18) 0 0,w 5 (L 20 3 4) 0 0,r 6 (q 21 4 20),u 7 (p 22 4 4398046511104 19 21),r 0 (m 15 0)] [k 23 15,f 24 23 4,s 1 24 22]
@[simp]def QT:=g [26] [L 25 3 4,c 26 75 25]
@[simp]def QU:=g [6] [K 6 (-1)]
@[simp]def QV:=g [27] [f 28 3 1,l 29 28,i 30 .gtr 29 0,m 27 30]
@[simp]def QW:=d [6] [r 0 (m 31 0),r 1 (k 32 31),r 2 (f 33 32 5),w 3 (l 34 33) 0 0,r 4 (m 35 0),r 5 (k 36 35),r 6 (f 37 36 5),w 7 (l 38 37) 0 0,w 8 (n 39 38) 0 0,r 9 (i 40 .sub 39 1)] [a 41 34 40 1,l 42 41,m 6 42]
@[simp]def QX:=g [43] [f 44 3 0,l 45 44,i 46 .gtr 45 0,m 43 46]
@[simp]def QY:=g [6] [K 6 0]
def tG:=T 0 (S QV (I 27 QW (S QX (I 43 QY W))))
@[simp]def Mt:=d [] [r 3 (m 50 0),r 4 (k 51 50),r 5 (f 52 51 5),w 6 (l 53 52) 0 0,r 7 (m 54 4),r 8 (q 55 1 54),u 9 (p 56 1 17592186044416 53 55),r 10 (m 57 0),r 11 (k 58 57),r 12 (f 59 58 6),w 13 (l 60 59) 0 1,r 14 (o 61 (.fbl 1 [.k (.int .i64 (-1))])),u 15 (p 62 1 17592186044416 60 61),r 16 (m 63 0),r 17 (k 64 63),r 18 (f 65 64 7),w 19 (l 66 65) 0 2,r 20 (m 67 6),r 21 (q 68 1 67),u 22 (p 69 1 17592186044416 66 68),r 0 (m 47 0),r 23 (k 70 47),r 24 (f 71 70 5),u 25 (s 1 71 56),r 1 (m 48 0),r 26 (k 72 48),r 27 (f 73 72 6),u 28 (s 1 73 62),r 2 (m 49 0)] [k 74 49,f 75 74 7,s 1 75 69]
@[simp]def Mu:=d [] [r 0 (m 76 0),r 1 (m 77 0),r 2 (k 78 77),r 3 (f 79 78 9),w 4 (l 80 79) 0 0,r 5 (m 81 0),r 6 (k 82 81),r 7 (f 83 82 5),w 8 (l 84 83) 0 0,w 9 (n 85 84) 0 0,r 10 (o 86 (.mm true (.t 80) (.t 85)))] [k 87 76,f 88 87 9,s 1 88 86]
@[simp]def Mw:=d [7] [r 0 (m 89 0),r 1 (k 90 89),r 2 (f 91 90 5),w 3 (l 92 91) 0 0,r 4 (m 93 0),r 5 (k 94 93),r 6 (f 95 94 5),w 7 (l 96 95) 0 0,w 8 (n 97 96) 0 0,r 9 (i 98 .sub 97 1)] [a 99 92 98 1,l 100 99,m 7 100]
@[simp]def Mx:=d [] [r 0 (m 101 0),r 1 (m 102 0),r 2 (k 103 102),r 3 (f 104 103 5),w 4 (l 105 104) 0 0,r 5 (m 106 0),r 6 (k 107 106),r 7 (f 108 107 5),w 8 (l 109 108) 0 0,w 9 (n 110 109) 0 0,r 10 (i 111 .sub 110 1),r 11 (o 112 (.slc (.t 105) none (some (.t 111)) none 1))] [k 113 101,f 114 113 5,s 1 114 112]
@[simp]def My:=g [] [m 115 0,k 116 115,f 117 116 6,l 118 117,m 119 7,m 120 4,a 121 118 119 1,s 1 121 120]
@[simp]def Mz:=d [] [r 2 (m 124 0),r 3 (k 125 124),r 4 (f 126 125 6),w 5 (l 127 126) 0 0,r 6 (m 128 7),r 7 (q 129 1 128),u 8 (p 130 1 17592186044416 127 129),r 9 (m 131 0),r 10 (k 132 131),r 11 (f 133 132 7),w 12 (l 134 133) 0 1,r 13 (m 135 7),r 14 (q 136 1 135),u 15 (p 137 1 17592186044416 134 136),r 0 (m 122 0),r 16 (k 138 122),r 17 (f 139 138 6),u 18 (s 1 139 130),r 1 (m 123 0)] [k 140 123,f 141 140 7,s 1 141 137]
@[simp]def BL:=g [157] [L 142 3 4,c 143 28 142,m 144 143,fT 145 3 0 144,lT 146 145 144,iT 147 .gtr 146 0 144,y 148 144 147,m 149 148,fT 150 3 1 149,lT 151 150 149,iT 152 .eql 151 0 149,y 153 149 152,m 154 153,mT 155 5 154,NT 156 155 154,y 157 154 156]
@[simp]def BM:=g [] [m 158 0,k 159 158,f 160 159 8,e (.st 1 (.t 160) (.k (.bool true)))]
def Fh:=S QP (S QQ (S QR (S QS (S (S QT (I 26 (S QU (S tG (S Mt (S Mu R)))) W)) (S Mw (S Mx (S My (S Mz (S BL (I 157 BM W))))))))))
def f129:=h0 161 2 [0,1,3,4,5,6,7,26,27,43,157] [] Fh
def tH:=S (A [14] [m 11 5,m 12 0,n 13 12,z 14 .lss 11 13] 14 W (X 0)) (S (T 1 (S (d [40] [r 0 (m 17 0),r 1 (m 18 5),r 2 (a 19 17 18 4),r 3 (f 20 19 0),w 4 (l 21 20) 0 0,r 5 (m 22 1),r 6 (m 23 5),r 7 (a 24 22 23 4),r 8 (f 25 24 0),w 9 (l 26 25) 0 0,r 10 (z 27 .neq 21 26),r 11 (m 28 27),r 12 (mF 29 0 28),r 13 (mF 30 5 28),r 14 (aF 31 29 30 4 28),r 15 (fF 32 31 1 28),w 16 (lF 33 32 28) 0 0,r 17 (mF 34 1 28),r 18 (mF 35 5 28),r 19 (aF 36 34 35 4 28),r 20 (fF 37 36 1 28),w 21 (lF 38 37 28) 0 0] [zF 39 .neq 33 38 28,Y 40 28 39]) (I 40 (F [4] [Z 4]) W))) (t 5 15 16))
def QZ:=S (g [4] [Z 4]) (S (A [10] [m 6 0,n 7 6,m 8 1,n 9 8,z 10 .neq 7 9] 10 (F [4] [Z 4]) W) (S (S (g [5] [K 5 0]) (T 0 (M tH))) (F [4] [O 4])))
def f130:=h 41 2 [0,1,4,5,10,14,40] [.tmp 4] QZ
@[simp]def Q0:=g [2] [f 3 1 3,l 4 3,m 5 4,fT 6 1 0 5,lT 7 6 5,nT 8 7 5,iT 9 .eql 8 0 5,y 10 5 9,m 2 10]
def MA:=S (g [1,2] [b 1 0,Z 2]) (S Q0 R)
def f131:=h 11 1 [0,1,2] [.tmp 2] MA
@[simp]def Q1:=g [6] [f 16 5 0,l 17 16,i 18 .eql 17 0,m 19 18,LT 20 5 4 19,cT 21 75 20 19,y 22 19 21,m 6 22]
@[simp]def fS:=g [8] [f 35 5 0,l 36 35,f 37 7 0,l 38 37,z 39 .eql 36 38,m 40 39,fT 41 5 1 40,lT 42 41 40,fT 43 7 1 40,lT 44 43 40,zT 45 .eql 42 44 40,y 46 40 45,m 47 46,fT 48 5 2 47,lT 49 48 47,G 50 (.bin false .eql (.t 49) (.k (.int .u8 3))) 47 true,y 51 47 50,m 52 51,fT 53 7 2 52,lT 54 53 52,G 55 (.bin false .eql (.t 54) (.k (.int .u8 1))) 52 true,mT 56 55 52,fF 57 5 3 56,lF 58 57 56,iF 59 .leq 58 0 56,YT 60 56 59 52,y 61 52 60,m 8 61]
@[simp]def Q2:=g [67] [f 62 3 1,l 63 62,m 64 63,fF 65 3 2 64,lF 66 65 64,Y 67 64 66]
@[simp]def Q3:=g [6] [m 68 8,m 69 68,LT 70 5 4 69,cT 71 28 70 69,y 72 69 71,m 6 72]
@[simp]def Q4:=g [82] [f 75 7 0,l 76 75,i 77 .gtr 76 0,m 78 77,fT 79 7 1 78,lT 80 79 78,iT 81 .eql 80 0 78,y 82 78 81]
@[simp]def Q5:=g [6] [f 83 5 0,l 84 83,f 85 7 0,l 86 85,z 87 .eql 84 86,m 88 87,fT 89 5 1 88,lT 90 89 88,iT 91 .gtr 90 0 88,y 92 88 91,m 6 92]
@[simp]def Q6:=g [6] [f 93 5 0,l 94 93,i 95 .gtr 94 0,m 96 95,fT 97 5 1 96,lT 98 97 96,iT 99 .eql 98 0 96,y 100 96 99,m 6 100]
@[simp]def Q7:=g [107] [L 101 5 4,c 102 28 101,m 103 102,fT 104 7 1 103,lT 105 104 103,iT 106 .eql 105 0 103,y 107 103 106]
@[simp]def Q8:=g [6] [m 108 8,m 109 108,fT 110 7 0 109,lT 111 110 109,iT 112 .gtr 111 0 109,y 113 109 112,m 114 113,fT 115 4 3 114,lT 116 115 114,y 117 114 116,m 6 117]
def Iu:=S (g [3,4,5,6] [b 3 0,b 4 1,b 5 2,Z 6]) (S (A [12] [L 9 4 4,L 10 5 4,C 11 154 9 10,N 12 11] 12 (F [6] [Z 6]) W) (S (A [15] [f 13 3 3,l 14 13,N 15 14] 15 (S Q1 R) W) (S (A [26] [f 23 3 0,l 24 23,n 25 24,i 26 .eql 25 0] 26 (F [6] [Z 6]) W) (S (g [7] [f 27 3 0,l 28 27,f 29 3 0,l 30 29,n 31 30,i 32 .sub 31 1,a 33 28 32 4,L 34 33 4,o 7 (.alloc [.int .i64 0,.int .i64 0,.int .u8 0,.int .i64 0]),s 4 7 34]) (S fS (S (S Q2 (I 67 (S Q3 R) W)) (S (A [74] [L 73 5 4,c 74 75 73] 74 (S (S Q4 (I 82 (S Q5 R) W)) (S Q6 R)) W) (S (S Q7 (I 107 (S Q8 R) W)) (F [6] [m 118 8,m 6 118])))))))))
def f132:=h 119 3 [0,1,2,3,4,5,6,7,8,12,15,26,67,74,82,107] [.tmp 6] Iu
@[simp]def Fi:=g [] [L 30 3 4,c 31 28 30,m 32 31,fT 33 3 1 32,lT 34 33 32,iT 35 .gtr 34 0 32,y 36 32 35,f 37 5 2,s 1 37 36]
@[simp]def Fj:=g [] [f 38 2 1,l 39 38,m 40 39,LF 41 3 4 40,cF 42 28 41 40,mF 43 42 40,fT 44 3 0 43,lT 45 44 43,iT 46 .gtr 45 0 43,yF 47 43 46 40,mF 48 47 40,fT 49 3 1 48,lT 50 49 48,iT 51 .eql 50 0 48,yF 52 48 51 40,mF 53 52 40,fT 54 2 2 53,lT 55 54 53,NT 56 55 53,yF 57 53 56 40,Y 58 40 57,f 59 5 1,s 1 59 58]
def Q9:=S (g [2,3,4] [b 2 0,b 3 1,o 4 (.alloc [.ai,.bool false,.bool false,.bool false])]) (S (g [5] [f 6 2 1,l 7 6,o 8 (.build [.z [.ai],.x (.t 7) 1,.z [.bool false],.x (.k (.bool true)) 1]),o 5 (.alloc [.ai,.bool false,.bool false,.bool false]),s 4 5 8]) (S (A [10] [L 9 3 4,c 10 75 9] 10 (S (d [] [v 0 (o 11 (.bsl 4 [])),r 1 (f 12 2 0),w 2 (l 13 12) 0 1,u 3 (p 14 4 4398046511104 11 13),w 4 (L 15 3 4) 0 2,r 5 (q 16 4 15)] [p 17 4 4398046511104 14 16,f 18 5 0,s 1 18 17]) (F [] [L 19 5 4,s 4 4 19])) W) (S (g [] [o 20 (.bsl 4 []),f 21 2 0,l 22 21,f 23 2 0,l 24 23,n 25 24,i 26 .sub 25 1,o 27 (.slc (.t 22) none (some (.t 26)) none 4),p 28 4 4398046511104 20 27,f 29 5 0,s 1 29 28]) (S Fi (S Fj (F [] [L 60 5 4,s 4 4 60]))))))
def f133:=h 61 2 [0,1,2,3,4,5,10] [.cell 4 (some 4)] Q9
@[simp]def Ra:=g [4] [f 5 2 0,l 6 5,f 7 3 0,l 8 7,z 9 .eql 6 8,m 10 9,fT 11 2 1 10,fT 12 11 1 10,lT 13 12 10,fT 14 3 1 10,fT 15 14 1 10,lT 16 15 10,G 17 (.bin true .eql (.t 13) (.t 16)) 10 true,y 18 10 17,m 19 18,fT 20 2 1 19,fT 21 20 2 19,lT 22 21 19,fT 23 3 1 19,fT 24 23 2 19,lT 25 24 19,G 26 (.bin true .eql (.t 22) (.t 25)) 19 true,y 27 19 26,m 28 27,fT 29 2 1 28,fT 30 29 3 28,lT 31 30 28,fT 32 3 1 28,fT 33 32 3 28,lT 34 33 28,G 35 (.bin true .eql (.t 31) (.t 34)) 28 true,y 36 28 35,m 37 36,fT 38 2 1 37,fT 39 38 0 37,lT 40 39 37,fT 41 3 1 37,fT 42 41 0 37,lT 43 42 37,CT 44 23 40 43 37,y 45 37 44,m 4 45]
def Rb:=S (g [2,3,4] [b 2 0,b 3 1,Z 4]) (S Ra R)
def f134:=h 46 2 [0,1,2,3,4] [.tmp 4] Rb
def MB:=S (g [4] [o 4 (.mv (.k .gj))]) (S (g [] [m 5 0,c 6 155 5]) (S (g [] [m 7 0,m 8 0,k 9 8,f 10 9 1,l 11 10,m 12 1,q 13 1 12,o 14 (.app 1 140737488355328 (some 5) (.t 11) (.t 13)),k 15 7,f 16 15 1,s 1 16 14]) (F [4] [o 4 (.mv (.k .gj))])))
def ab8:=h0 17 2 [0,1,4] [.tmp 4] MB
def MC:=S (g [2,3,4] [b 2 0,b 3 1,Z 4]) (S (A [9] [f 5 2 0,l 6 5,f 7 3 0,l 8 7,z 9 .neq 6 8] 9 (F [4] [f 10 2 0,l 11 10,f 12 3 0,l 13 12,z 14 .lss 11 13,m 4 14]) W) (S (A [19] [f 15 2 1,l 16 15,f 17 3 1,l 18 17,z 19 .neq 16 18] 19 (F [4] [f 20 2 1,l 21 20,f 22 3 1,l 23 22,z 24 .lss 21 23,m 4 24]) W) (S (A [29] [f 25 2 2,l 26 25,f 27 3 2,l 28 27,z 29 .neq 26 28] 29 (F [4] [f 30 2 2,l 31 30,f 32 3 2,l 33 32,z 34 .lss 31 33,m 4 34]) W) (F [4] [f 35 2 3,l 36 35,f 37 3 3,l 38 37,z 39 .lss 36 38,m 4 39]))))
def ab9:=h 40 2 [0,1,2,3,4,9,19,29] [.tmp 4] MC
def BN:=S (A [8] [m 5 4,m 6 0,n 7 6,z 8 .lss 5 7] 8 W (X 0)) (S (T 1 (g [3] [m 11 3,m 12 0,m 13 4,a 14 12 13 1,l 15 14,n 16 15,z 17 .add 11 16,m 3 17])) (t 4 9 10))
def Xi:=S (g [2] [K 2 0]) (S (g [3] [K 3 0]) (S (S (g [4] [K 4 0]) (T 0 (M BN))) (F [2] [m 18 3,m 2 18])))
def aca:=h 19 1 [0,2,3,4,8] [.tmp 2] Xi
@[simp]def Rc:=g [47] [m 29 3,m 30 5,a 31 29 30 1,l 32 31,N 33 32,m 34 33,mT 35 3 34,fT 36 1 0 34,lT 37 36 34,mT 38 5 34,aT 39 37 38 1 34,lT 40 39 34,mT 41 6 34,aT 42 40 41 5 34,fT 43 42 4 34,lT 44 43 34,aT 45 35 44 1 34,lT 46 45 34,y 47 34 46]
def rk:=S (A [26] [m 19 6,f 20 1 0,l 21 20,m 22 5,a 23 21 22 1,l 24 23,n 25 24,z 26 .lss 19 25] 26 W (X 4)) (S (T 5 (S Rc (I 47 (g [4] [m 48 3,m 49 5,a 50 48 49 1,e (.st 1 (.t 50) (.k (.bool true))),O 4]) W))) (t 6 27 28))
def xL:=S (A [16] [m 12 5,f 13 1 0,l 14 13,n 15 14,z 16 .lss 12 15] 16 W (X 2)) (S (T 3 (S (g [6] [K 6 0]) (T 4 (M rk)))) (t 5 17 18))
def BO:=S (A [11] [m 11 4] 11 W (X 0)) (T 1 (S (g [4] [Z 4]) (S (g [5] [K 5 0]) (T 2 (M xL)))))
def Re:=S (g [1,2] [b 1 0,Q 2]) (S (g [3] [o 7 (.bsl 1 []),f 8 1 1,l 9 8,p 10 1 140737488355328 7 9,m 3 10]) (S (S (g [4] [O 4]) (T 0 (M BO))) (F [2] [m 51 3,m 2 51])))
def acb:=h 52 1 [0,1,2,3,4,5,6,11,16,26,47] [.tmp 2] Re
def pJ:=S (A [19] [m 16 6,m 17 5,n 18 17,z 19 .lss 16 18] 19 W (X 0)) (S (T 1 (S (A [25] [m 22 1,m 23 6,a 24 22 23 1,l 25 24] 25 (g [] [m 26 5,m 27 6,a 28 26 27 1,e (.st 1 (.t 28) (.k (.int .i64 1)))]) W) (A [33] [f 29 2 1,l 30 29,m 31 6,a 32 30 31 1,l 33 32] 33 (g [] [m 34 5,m 35 6,a 36 34 35 1,e (.st 1 (.t 36) (.k (.int .i64 2)))]) W))) (t 6 20 21))
def tI:=S (S (d [61] [r 0 (m 46 11),r 1 (m 47 9),w 2 (n 48 47) 0 0,r 3 (z 49 .lss 46 48),r 4 (m 50 49),w 5 (LT 51 2 2 50) 0 0,r 6 (mT 52 5 50),r 7 (mT 53 1 50),r 8 (mT 54 9 50),r 9 (mT 55 11 50),r 10 (aT 56 54 55 1 50),w 11 (lT 57 56 50) 0 0,r 12 (mT 58 10 50)] [G 59 (.call 156 [.t 51,.t 52,.t 53,.t 57,.t 58]) 50 true,NT 60 59 50,y 61 50 60]) (I 61 W (X 6))) (T 7 (t 11 62 63))
def xM:=S (A [43] [m 40 10,m 41 5,n 42 41,z 43 .lss 40 42] 43 W (X 4)) (S (T 5 (S (g [11] [K 11 0]) (S (T 6 (M tI)) (S (A [67] [m 64 11,m 65 9,n 66 65,z 67 .eql 64 66] 67 (g [9] [m 68 9,m 69 10,q 70 1 69,p 71 1 17592186044416 68 70,m 9 71]) W) (S (A [74] [m 72 9,n 73 72,i 74 .gtr 73 401] 74 (F [4] [Q 4]) W) (g [] [m 75 8,m 76 10,m 77 11,a 78 75 76 1,s 1 78 77])))))) (t 10 44 45))
def Fk:=T 3 (S (g [8] [m 37 5,n 38 37,o 39 (.mks 1 17592186044416 [.int .i64 0] (.t 38) (.t 38)),m 8 39]) (S (g [9] [Q 9]) (S (S (g [10] [K 10 0]) (T 4 (M xM))) (S (A [82] [m 79 9,n 80 79,m 81 7,z 82 .eql 80 81] 82 (F [4] [m 83 8,m 4 83]) W) (g [5,7] [m 84 8,m 85 9,n 86 85,m 5 84,m 7 86])))))
def Rf:=S (g [2,4] [b 2 0,Q 4]) (S (g [5] [f 12 2 0,l 13 12,n 14 13,o 15 (.mks 1 17592186044416 [.int .i64 0] (.t 14) (.t 14)),m 5 15]) (S (S (g [6] [K 6 0]) (T 0 (M pJ))) (S (g [7] [K 7 0]) (T 2 (M Fk)))))
def acd:=h 87 2 [0,1,2,4,5,6,7,8,9,10,11,19,25,33,43,61,67,74,82] [.tmp 4] Rf
def BP:=S (S (d [24] [r 0 (m 14 7),r 1 (f 15 2 0),w 2 (l 16 15) 0 0,r 3 (m 17 1),r 4 (m 18 6),r 5 (a 19 17 18 1),w 6 (l 20 19) 0 0,r 7 (a 21 16 20 1),w 8 (l 22 21) 0 0,w 9 (n 23 22) 0 0] [z 24 .lss 14 23]) (I 24 W (X 2))) (S (T 3 (d [5] [r 0 (m 27 5),r 1 (f 28 2 0),w 2 (l 29 28) 0 0,r 3 (m 30 1),r 4 (m 31 6),r 5 (a 32 30 31 1),w 6 (l 33 32) 0 0,r 7 (a 34 29 33 1),w 8 (l 35 34) 0 0,r 9 (m 36 7),r 10 (a 37 35 36 5),r 11 (f 38 37 0),w 12 (L 39 38 4) 0 0] [C 40 157 27 39,m 5 40])) (t 7 25 26))
def BQ:=S (A [11] [m 8 6,m 9 1,n 10 9,z 11 .lss 8 10] 11 W (X 0)) (S (T 1 (S (g [7] [K 7 0]) (T 2 (M BP)))) (t 6 12 13))
def Xj:=S (g [2,4] [b 2 0,Q 4]) (S (g [5] [Q 5]) (S (S (g [6] [K 6 0]) (T 0 (M BQ))) (F [4] [m 41 5,m 4 41])))
def f142:=h 42 2 [0,1,2,4,5,6,7,11,24] [.tmp 4] Xj
def Xk:=S (g [1,2] [b 1 0,Z 2]) (F [2] [L 3 1 2,c 4 116 3,N 5 4,m 2 5])
def ace:=h 6 1 [0,1,2] [.tmp 2] Xk
def Xl:=S (g [4] [Z 4]) (F [4] [m 5 0,m 6 1,C 7 159 5 6,i 8 .geq 7 0,m 4 8])
def acf:=h 9 2 [0,1,4] [.tmp 4] Xl
def xN:=S (g [9] [z 9 .lss 8 7]) (S (I 9 W (X 0)) (S (T 1 (S (g [5] [m 10 8,m 5 10]) (A [16] [m 11 1,m 12 0,m 13 5,a 14 12 13 3,L 15 14 3,o 16 (.dyn (.t 11) [.t 15])] 16 (F [4] [m 17 5,m 4 17]) W))) (g [8] [i 18 .add 8 1,m 8 18])))
def Xm:=S (g [4] [K 4 0]) (S (S (g [7,8] [m 6 0,n 7 6,K 8 0]) (T 0 (M xN))) (F [4] [K 4 (-1)]))
def acg:=h 19 2 [0,1,4,5,7,8,9,16] [.tmp 4] Xm
@[simp]def Rg:=g [43] [m 27 1,m 28 4,i 29 .add 28 1,f 30 5 1,L 31 30 2,f 32 2 0,f 33 32 3,l 34 33,m 35 34,fF 36 5 0 35,lF 37 36 35,nF 38 37 35,iF 39 .gtr 38 0 35,Y 40 35 39,o 41 (.build [.x (.t 29) 1,.x (.k (.int .i64 0)) 1,.x (.t 31) 2,.x (.t 40) 1]),o 42 (.dyn (.t 27) [.t 41]),N 43 42]
def pK:=S (g [48] [z 48 .lss 47 46]) (S (I 48 W (X 2)) (S (T 3 (S (g [7,6] [m 49 47,a 50 45 47 2,L 51 50 2,o 7 (.alloc [.bool false,.int .i64 0]),m 6 49,s 2 7 51]) (A [60] [m 52 1,m 53 4,i 54 .add 53 1,m 55 6,i 56 .add 55 1,L 57 7 2,o 58 (.build [.x (.t 54) 1,.x (.t 56) 1,.x (.t 57) 2,.x (.k (.bool true)) 1]),o 59 (.dyn (.t 52) [.t 58]),N 60 59] 60 R W))) (g [47] [i 61 .add 47 1,m 47 61])))
def pL:=S (g [23] [z 23 .lss 22 21]) (S (I 23 W (X 0)) (S (T 1 (S (g [5,4] [m 24 22,a 25 20 22 3,L 26 25 3,o 5 (.alloc [.ai,.bool false,.int .i64 0]),m 4 24,s 3 5 26]) (S (S Rg (I 43 R W)) (S (g [45,46,47] [f 44 5 0,l 45 44,n 46 45,K 47 0]) (T 2 (M pK)))))) (g [22] [i 62 .add 22 1,m 22 62])))
def MD:=S (g [2] [b 2 0]) (S (A [17] [m 8 1,f 9 2 0,f 10 9 1,L 11 10 2,f 12 2 0,f 13 12 3,l 14 13,o 15 (.build [.x (.k (.int .i64 0)) 1,.x (.k (.int .i64 0)) 1,.x (.t 11) 2,.x (.t 14) 1]),o 16 (.dyn (.t 8) [.t 15]),N 17 16] 17 R W) (S (g [20,21,22] [f 18 2 0,f 19 18 0,l 20 19,n 21 20,K 22 0]) (T 0 (M pL))))
def ach:=h0 63 2 [0,1,2,4,5,6,7,17,20,21,22,23,43,45,46,47,48,60] [] MD
def Xn:=S (g [1,2] [b 1 0,K 2 0]) (S (g [3] [o 3 (.mv (.k (.fn 160 [] [])))]) (S (T 0 (A [4] [L 5 1 2,c 6 162 5,m 4 6] 4 (F [2] [K 2 5]) (S (d [7] [w 0 (L 8 1 2) 0 0,u 1 (c 9 163 8),r 2 (N 10 9),r 3 (m 11 10),r 4 (fF 12 1 0 11),w 5 (lF 13 12 11) 1 1,r 6 (mF 14 3 11),u 7 (CF 15 164 13 14 11),r 8 (Y 16 11 15),r 9 (m 17 16),w 11 (LF 19 1 2 17) 2 2,u 12 (cF 20 167 19 17),u 13 (cF 21 166 20 17),w 10 (LF 18 1 2 17) 2 4] [CF 22 165 18 21 17,NF 23 22 17,Y 24 17 23,m 7 24]) (I 7 (F [2] [K 2 4]) W)))) (F [2] [K 2 0])))
def aci:=h 25 1 [0,1,2,3,4,7] [.tmp 2] Xn
@[simp]def Rh:=g [1,2,3] [b 1 0,V 2,Z 3]
@[simp]def Ri:=g [4] [o 21 (.build [.z [.int .i64 0],.z [.str []]]),o 4 (.alloc [.int .i64 0,.str []]),s 2 4 21]
@[simp]def Rj:=g [5] [o 22 .mkm,L 23 4 2,o 24 (.build [.z [.ai],.z [.bool false],.z [.bool false]]),e (.mup ⟨true,[0,2]⟩ (.t 22) (.t 23) (.t 24)),m 25 22,o 26 .mkm,o 27 (.build [.x (.t 25) 1,.x (.t 26) 1,.z [.int .i64 0]]),o 28 (.box (.t 27)),m 5 28]
@[simp]def Rk:=g [6] [o 29 .mkm,e (.mup ⟨false,[0]⟩ (.t 29) (.k (.int .i64 0)) (.k (.str []))),m 30 29,m 6 30]
@[simp]def Rl:=g [7] [L 31 4 2,o 32 (.bsl 2 [.t 31]),m 7 32]
@[simp]def Fl:=g [35] [m 33 7,n 34 33,i 35 .gtr 34 0]
@[simp]def Fm:=g [8] [m 36 7,o 37 (.ia (.t 36) (.k (.int .i64 0)) 2),L 38 37 2,o 8 (.alloc [.int .i64 0,.str []]),s 2 8 38]
@[simp]def Fo:=g [7] [m 39 7,o 40 (.slc (.t 39) (some (.k (.int .i64 1))) none none 2),m 7 40]
@[simp]def Fp:=d [9] [r 0 (m 41 5),r 1 (k 42 41),r 2 (f 43 42 0),w 3 (l 44 43) 0 1,w 4 (L 45 8 2) 0 1,w 5 (o 46 (.lkp ⟨true,[0,2]⟩ (.t 44) (.t 45) (.agg [.ai,.bool false,.bool false]) false)) 0 1,v 6 (o 9 (.alloc [.ai,.bool false,.bool false]))] [s 3 9 46]
@[simp]def Fq:=d [] [r 0 (m 47 5),r 1 (m 48 5),r 2 (k 49 48),r 3 (f 50 49 2),w 4 (l 51 50) 0 0,r 5 (f 52 9 0),w 6 (l 53 52) 0 0,w 7 (n 54 53) 0 0,r 8 (o 55 (.mm true (.t 51) (.t 54)))] [k 56 47,f 57 56 2,s 1 57 55]
@[simp]def vO:=g [75] [f 58 1 4,f 59 58 1,l 60 59,f 61 8 0,l 62 61,a 63 60 62 1,l 64 63,m 65 64,fT 66 9 0 65,lT 67 66 65,nT 68 67 65,iT 69 .gtr 68 0 65,mT 70 69 65,LF 71 8 2 70,LF 72 4 2 70,G 73 (.eqs ⟨true,[0,2]⟩ false (.t 71) (.t 72)) 70 false,YT 74 70 73 65,y 75 65 74]
@[simp]def GP:=g [2,3] [V 2,Z 3]
@[simp]def BR:=g [82,83,84] [f 76 1 4,f 77 76 0,l 78 77,f 79 8 0,l 80 79,a 81 78 80 1,l 82 81,n 83 82,K 84 0]
@[simp]def BS:=g [85] [z 85 .lss 84 83]
@[simp]def BT:=g [11] [a 86 82 84 5,L 87 86 5,o 11 (.alloc [.int .i64 0,.int .i64 0,.int .u8 0,.int .i64 0,.int .i64 0]),s 5 11 87]
@[simp]def BU:=d [12,13] [w 0 (L 89 9 3) 0 0,r 1 (f 90 1 0),w 2 (L 91 90 4) 0 0,r 3 (f 92 11 0),w 4 (L 93 92 4) 0 0,w 5 (L 94 8 2) 0 0,w 6 (L 95 4 2) 0 0,r 7 (o 96 (.eqs ⟨true,[0,2]⟩ false (.t 94) (.t 95))),u 8 (o 97 (.call 168 [.t 89,.t 91,.t 93,.t 96])),r 9 (m 88 97),r 10 (x 98 88 0),v 12 (o 12 (.alloc [.ai,.bool false,.bool false])),u 13 (s 3 12 98),r 11 (x 99 88 1)] [m 13 99]
@[simp]def BV:=g [14,15] [L 101 12 3,c 102 169 101,m 100 102,x 103 100 0,x 104 100 1,m 14 103,m 15 104]
@[simp]def vP:=g [16,17] [m 106 6,f 107 11 4,l 108 107,o 109 (.lkp ⟨false,[0]⟩ (.t 106) (.t 108) (.str []) true),m 105 109,x 110 105 0,x 111 105 1,m 16 110,m 17 111]
@[simp]def vQ:=g [132] [m 112 13,N 113 112,m 114 113,mF 115 17 114,mF 116 115 114,mT 117 16 116,mT 118 14 116,zT 119 .neq 117 118 116,yF 120 116 119 114,Y 121 114 120,m 122 121,fF 123 12 0 122,lF 124 123 122,nF 125 124 122,fF 126 1 4 122,fF 127 126 0 122,lF 128 127 122,nF 129 128 122,G 130 (.mm true (.k (.int .i64 2)) (.t 129)) 122 false,zF 131 .geq 125 130 122,Y 132 122 131]
@[simp]def GQ:=g [2,3] [V 2,Z 3]
@[simp]def BW:=g [] [m 133 6,f 134 11 4,l 135 134,m 136 14,e (.mup ⟨false,[0]⟩ (.t 133) (.t 135) (.t 136))]
@[simp]def BX:=g [18] [f 137 11 4,l 138 137,m 139 15,o 140 (.build [.x (.t 138) 1,.x (.t 139) 1]),o 18 (.alloc [.int .i64 0,.str []]),s 2 18 140]
@[simp]def vR:=d [20] [r 0 (m 142 5),r 1 (k 143 142),r 2 (f 144 143 0),w 3 (l 145 144) 0 1,w 4 (L 146 18 2) 0 1,w 5 (o 147 (.lkp ⟨true,[0,2]⟩ (.t 145) (.t 146) (.agg [.ai,.bool false,.bool false]) true)) 0 1,r 6 (m 141 147),r 7 (x 148 141 0),v 9 (o 19 (.alloc [.ai,.bool false,.bool false])),u 10 (s 3 19 148),r 8 (x 149 141 1)] [m 20 149]
@[simp]def vS:=g [151] [m 150 20,N 151 150]
@[simp]def vT:=d [] [r 0 (m 152 5),r 1 (k 153 152),r 2 (f 154 153 0),w 3 (l 155 154) 0 0,w 4 (L 156 18 2) 0 0,w 5 (L 157 12 3) 0 0] [e (.mup ⟨true,[0,2]⟩ (.t 155) (.t 156) (.t 157))]
@[simp]def vU:=g [7] [m 158 7,L 159 18 2,q 160 2 159,p 161 2 5864062014805 158 160,m 7 161]
@[simp]def qi:=d [] [r 0 (m 162 5),r 1 (k 163 162),r 2 (f 164 163 1),w 3 (l 165 164) 0 0,w 4 (L 166 8 2) 0 0,r 5 (f 168 11 0),w 6 (L 169 168 4) 0 0,w 7 (L 170 18 2) 0 0,r 8 (o 171 (.build [.x (.t 169) 4,.x (.t 170) 2])),r 9 (q 172 6 171),u 10 (o 173 (.men ⟨true,[0,2]⟩ (.t 165) (.t 166) .ai)),r 11 (x 167 173 0),u 12 (p 174 6 2513169434916 167 172),r 13 (x 175 173 1)] [e (.mes (.t 165) (.t 175) (.t 174))]
def JX:=T 3 (S BT (S BU (S BV (S (S vP (S vQ (I 132 (S GQ R) W))) (S BW (S BX (S (S vR (S vS (I 151 (S vT vU) W))) qi)))))))
@[simp]def BY:=g [84] [i 176 .add 84 1,m 84 176]
def tJ:=S BS (S (I 85 W (X 2)) (S JX BY))
def JY:=T 2 (M tJ)
def BZ:=T 1 (S Fm (S Fo (S Fp (S Fq (S (S vO (I 75 (S GP R) W)) (S BR JY))))))
def rl:=S (S Fl (I 35 W (X 0))) BZ
def JZ:=T 0 (M rl)
@[simp]def ME:=g [2,3] [m 177 5,m 2 177,O 3]
def MF:=S Rh (S Ri (S Rj (S Rk (S Rl (S JZ (S ME R))))))
def acj:=h0 178 1 [0,1,2,3,4,5,6,7,8,9,11,12,13,14,15,16,17,18,20,35,75,82,83,84,85,132,151] [.tmp 2,.tmp 3] MF
def MG:=S (g [2,3,4,5] [b 2 0,b 3 1,Z 4,K 5 0]) (S (g [6,7] [L 11 2 4,c 12 117 11,m 10 12,x 13 10 0,x 14 10 1,o 6 (.alloc [.ai,.bool false,.int .i64 0,.bool false]),s 4 6 13,m 7 14]) (S (A [16] [m 15 7,i 16 .neq 15 0] 16 (F [4,5] [m 17 7,Z 4,m 5 17]) W) (S (g [9] [L 19 6 4,L 20 3 4,C 21 170 19 20,m 18 21,x 22 18 0,x 23 18 1,o 8 (.alloc [.int .i64 0,.int .i64 0,.bool false,.int .i64 0,.bool false]),s 5 8 22,m 9 23]) (F [4,5] [m 24 9,m 4 24,K 5 0]))))
def ack:=h 25 2 [0,1,2,3,4,5,6,7,9,16] [.tmp 4,.tmp 5] MG
@[simp]def Rm:=g [4] [m 18 0,k 19 18,f 20 19 4,l 21 20,n 22 21,i 23 .eql 22 0,m 24 23,LT 25 3 4 24,cT 26 172 25 24,y 27 24 26,m 28 27,LT 29 3 4 28,cT 30 173 29 28,NT 31 30 28,y 32 28 31,m 4 32]
@[simp]def Rn:=g [4] [L 42 3 4,f 43 7 0,l 44 43,f 45 7 1,l 46 45,J 47 174 42 44 46,m 48 47,mT 49 0 48,LT 50 7 4 48,LT 51 3 4 48,G 52 (.call 175 [.t 49,.t 50,.t 51]) 48 true,y 53 48 52,m 4 53]
@[simp]def Ro:=g [63] [m 54 0,k 55 54,f 56 55 9,l 57 56,m 58 57,mF 59 0 58,G 60 (.nck (.t 59)) 58 false,fF 61 60 10 58,lF 62 61 58,Y 63 58 62]
@[simp]def Rp:=g [4] [L 69 3 4,c 70 178 69,m 71 70,fT 72 3 0 71,lT 73 72 71,fT 74 7 0 71,lT 75 74 71,zT 76 .eql 73 75 71,y 77 71 76,m 4 77]
def B0:=S (g [3,4] [b 3 1,Z 4]) (S (g [5,6] [m 9 0,k 10 9,f 11 10 8,L 12 11 1,c 13 171 12,m 8 13,x 14 8 0,x 15 8 1,m 5 14,m 6 15]) (S (A [17] [m 16 6,N 17 16] 17 (S Rm R) W) (S (g [7] [m 33 0,k 34 33,f 35 34 4,l 36 35,m 37 5,a 38 36 37 4,L 39 38 4,o 7 (.alloc [.int .i64 0,.int .i64 0,.int .u8 0,.int .i64 0]),s 4 7 39]) (S (A [41] [L 40 3 4,c 41 173 40] 41 (S Rn R) W) (S (S Ro (I 63 (F [4] [Z 4]) W)) (S (A [66] [m 64 0,c 65 176 64,o 66 (.bin false .eql (.t 65) (.k (.int .u8 2)))] 66 (F [4] [L 67 3 4,c 68 177 67,m 4 68]) W) (S Rp R)))))))
def acm:=h 78 2 [0,1,3,4,5,6,7,17,41,63,66] [.tmp 4] B0
@[simp]def Rq:=g [3] [b 3 1]
@[simp]def Rr:=g [4] [m 10 0,k 11 10,f 12 11 8,L 13 12 1,c 14 171 13,m 9 14,x 15 9 0,x 16 9 1,m 4 15,m 5 16]
@[simp]def Ru:=g [6] [m 17 0,k 18 17,f 19 18 4,l 20 19,n 21 20,m 6 21]
@[simp]def Rv:=g [7,8] [K 7 (-1),K 8 (-1)]
@[simp]def Rw:=g [22] [L 23 3 4,c 24 173 23,m 22 24]
@[simp]def Rx:=g [7,8] [m 25 4,m 26 4,m 7 25,m 8 26]
@[simp]def Ry:=g [] [m 27 0,k 28 27,f 29 28 5,l 30 29,m 31 4,m 32 6,a 33 30 31 1,s 1 33 32]
@[simp]def Rz:=d [] [r 0 (m 34 0),r 1 (m 35 0),r 2 (k 36 35),r 3 (f 37 36 8),r 4 (f 38 37 0),w 5 (l 39 38) 0 0,r 6 (m 40 0),r 7 (k 41 40),r 8 (f 42 41 8),r 9 (f 43 42 0),w 10 (l 44 43) 0 0,w 11 (n 45 44) 0 0,r 12 (i 46 .sub 45 1),r 13 (o 47 (.slc (.t 39) none (some (.t 46)) none 1))] [k 48 34,f 49 48 8,f 50 49 0,s 1 50 47]
@[simp]def RA:=g [51] [L 52 3 4,c 53 177 52,m 51 53]
@[simp]def RB:=g [8] [K 8 0]
@[simp]def MH:=g [54] [L 55 3 4,c 56 178 55,m 54 56]
@[simp]def MI:=g [8] [m 57 4,m 8 57]
def rm:=T 0 (S Rw (I 22 (S Rx (S Ry Rz)) (S RA (I 51 RB (S MH (I 54 MI W))))))
@[simp]def MJ:=d [] [r 1 (m 59 0),r 2 (k 60 59),r 3 (f 61 60 7),w 4 (l 62 61) 0 0,r 5 (m 63 0),r 6 (k 64 63),r 7 (f 65 64 9),w 8 (l 66 65) 0 0,r 9 (q 67 1 66),u 10 (p 68 1 140737488355328 62 67),r 0 (m 58 0)] [k 69 58,f 70 69 7,s 1 70 68]
@[simp]def vV:=g [83] [L 71 3 4,c 72 179 71,m 73 72,LT 74 3 4 73,cT 75 177 74 73,y 76 73 75,m 77 76,mT 78 0 77,G 79 (.nck (.t 78)) 77 true,fT 80 79 9 77,lT 81 80 77,NT 82 81 77,y 83 77 82]
@[simp]def B1:=g [] [m 84 0,k 85 84,f 86 85 10,e (.st 1 (.t 86) (.k (.bool true)))]
@[simp]def MK:=g [] [m 87 0,L 88 3 4,c 89 179 88,m 90 89,LT 91 3 4 90,cT 92 178 91 90,y 93 90 92,k 94 87,f 95 94 9,s 1 95 93]
@[simp]def ML:=d [] [r 1 (m 97 0),r 2 (k 98 97),r 3 (f 99 98 4),w 4 (l 100 99) 0 0,w 5 (L 101 3 4) 0 0,r 6 (q 102 4 101),u 7 (p 103 4 4398046511104 100 102),r 0 (m 96 0)] [k 104 96,f 105 104 4,s 1 105 103]
@[simp]def MM:=d [] [r 2 (m 108 0),r 3 (k 109 108),r 4 (f 110 109 5),w 5 (l 111 110) 0 0,r 6 (m 112 7),r 7 (q 113 1 112),u 8 (p 114 1 17592186044416 111 113),r 9 (m 115 0),r 10 (k 116 115),r 11 (f 117 116 6),w 12 (l 118 117) 0 1,r 13 (m 119 8),r 14 (q 120 1 119),u 15 (p 121 1 17592186044416 118 120),r 0 (m 106 0),r 16 (k 122 106),r 17 (f 123 122 5),u 18 (s 1 123 114),r 1 (m 107 0)] [k 124 107,f 125 124 6,s 1 125 121]
@[simp]def MN:=g [128] [L 126 3 4,c 127 173 126,N 128 127]
@[simp]def MO:=g [] [m 129 0,m 130 0,k 131 130,f 132 131 8,f 133 132 0,l 134 133,m 135 6,q 136 1 135,p 137 1 17592186044416 134 136,k 138 129,f 139 138 8,f 140 139 0,s 1 140 137]
@[simp]def MQ:=d [] [r 0 (m 141 0),r 1 (m 142 0),r 2 (k 143 142),r 3 (f 144 143 11),w 4 (l 145 144) 0 0,r 5 (m 146 0),r 6 (k 147 146),r 7 (f 148 147 8),r 8 (f 149 148 0),w 9 (l 150 149) 0 0,w 10 (n 151 150) 0 0,r 11 (o 152 (.mm true (.t 145) (.t 151)))] [k 153 141,f 154 153 11,s 1 154 152]
def Fs:=S Rq (S Rr (S Ru (S Rv (S rm (S MJ (S (S vV (I 83 B1 W)) (S MK (S ML (S MM (S (S MN (I 128 MO W)) MQ))))))))))
def acn:=h0 155 2 [0,1,3,4,6,7,8,22,51,54,83,128] [] Fs
def MR:=S (g [2,3,4] [b 2 0,b 3 1,Z 4]) (S (d [4] [w 0 (L 5 2 4) 0 0,r 1 (f 6 3 0),w 2 (l 7 6) 0 0,r 3 (f 8 3 1),w 4 (l 9 8) 0 0,u 5 (J 10 181 5 7 9),w 6 (L 11 3 4) 0 1,u 7 (C 12 180 10 11),r 8 (i 13 .geq 12 0),r 9 (m 14 13),w 10 (LF 15 2 4 14) 2 2,r 11 (fF 16 3 0 14),w 12 (lF 17 16 14) 2 2,r 13 (fF 18 3 1 14),w 14 (lF 19 18 14) 2 2,u 15 (G 20 (.call 182 [.t 15,.t 17,.t 19,.k (.int .u8 1)]) 14 false),w 16 (LF 21 3 4 14) 2 3] [CF 22 180 20 21 14,iF 23 .geq 22 0 14,Y 24 14 23,m 4 24]) R)
def aco:=h 25 2 [0,1,2,3,4] [.tmp 4] MR
def xO:=S (A [32] [m 29 12,m 30 11,n 31 30,z 32 .lss 29 31] 32 W (X 0)) (S (T 1 (S (d [53] [w 0 (L 35 5 2) 0 0,r 1 (m 36 1),r 2 (m 37 2),r 3 (m 38 3),r 4 (m 39 11),r 5 (m 40 12),r 6 (a 41 39 40 4),w 7 (L 42 41 4) 0 0,u 8 (o 43 (.call 184 [.t 35,.t 36,.t 37,.t 38,.t 42])),w 9 (L 44 5 2) 0 1,r 10 (m 45 1),r 11 (m 46 2),r 12 (m 47 4),r 13 (m 48 11),r 14 (m 49 12),r 15 (a 50 48 49 4),w 16 (L 51 50 4) 0 1] [o 52 (.call 184 [.t 44,.t 45,.t 46,.t 47,.t 51]),z 53 .neq 43 52]) (I 53 (F [10] [Z 10]) W))) (t 12 33 34))
def RC:=S (g [5,10] [b 5 0,Z 10]) (S (S (d [21] [r 0 (m 13 1),r 1 (m 14 3),r 2 (a 15 13 14 1),w 3 (l 16 15) 0 0,r 4 (m 17 1),r 5 (m 18 4),r 6 (a 19 17 18 1),w 7 (l 20 19) 0 0] [z 21 .neq 16 20]) (I 21 (F [10] [Z 10]) W)) (S (g [11] [f 22 5 0,l 23 22,o 24 (.build [.x (.t 23) 1,.z [.ai],.z [.ai]]),m 25 3,m 26 4,o 27 (.fbl 1 [.t 25,.t 26]),C 28 142 24 27,m 11 28]) (S (S (g [12] [K 12 0]) (T 0 (M xO))) (F [10] [O 10]))))
def acp:=h 54 5 [0,1,2,3,4,5,10,11,12,21,32,53] [.tmp 10] RC
def xP:=S (S (d [18] [r 0 (m 7 5),r 1 (m 8 0),w 2 (n 9 8) 0 0,r 3 (z 10 .lss 7 9),r 4 (m 11 10),r 5 (mT 12 0 11),r 6 (mT 13 5 11),r 7 (aT 14 12 13 4 11),w 8 (LT 15 14 4 11) 0 0,w 9 (LT 16 3 4 11) 0 0] [CT 17 138 15 16 11,y 18 11 17]) (I 18 W (X 0))) (T 1 (t 5 19 20))
def Xo:=S (g [3,4] [b 3 1,Q 4]) (S (g [5] [K 5 0]) (S (T 0 (M xP)) (S (S (d [32] [r 0 (m 21 5),r 1 (m 22 0),w 2 (n 23 22) 0 0,r 3 (z 24 .lss 21 23),r 4 (m 25 24),r 5 (mT 26 0 25),r 6 (mT 27 5 25),r 7 (aT 28 26 27 4 25),w 8 (LT 29 28 4 25) 0 0,w 9 (LT 30 3 4 25) 0 0] [G 31 (.eqs ⟨true,[0,0,0,0]⟩ false (.t 29) (.t 30)) 25 true,y 32 25 31]) (I 32 (F [4] [m 33 0,m 4 33]) W)) (S (g [6] [o 34 (.bsl 4 []),m 35 0,m 36 5,o 37 (.slc (.t 35) none (some (.t 36)) none 4),p 38 4 4398046511104 34 37,m 6 38]) (S (d [4] [r 0 (m 39 6),w 1 (L 40 3 4) 0 0,r 2 (q 41 4 40),u 3 (p 42 4 4398046511104 39 41),r 4 (m 43 0),r 5 (m 44 5),r 6 (o 45 (.slc (.t 43) (some (.t 44)) none none 4))] [p 46 4 4398046511104 42 45,m 4 46]) R)))))
def f157:=h 47 2 [0,1,3,4,5,6,18,32] [.tmp 4] Xo
def xQ:=S (g [9] [z 9 .lss 8 7]) (S (I 9 W (X 0)) (S (T 1 (S (g [5] [m 10 8,m 5 10]) (A [16] [m 11 1,m 12 0,m 13 5,a 14 12 13 2,L 15 14 2,o 16 (.dyn (.t 11) [.t 15])] 16 (F [4] [m 17 5,m 4 17]) W))) (g [8] [i 18 .add 8 1,m 8 18])))
def Xp:=S (g [4] [K 4 0]) (S (S (g [7,8] [m 6 0,n 7 6,K 8 0]) (T 0 (M xQ))) (F [4] [K 4 (-1)]))
def acq:=h 19 2 [0,1,4,5,7,8,9,16] [.tmp 4] Xp
def RD:=S (g [2] [Z 2]) (F [2] [m 3 0,c 4 161 3,N 5 4,m 2 5])
def acr:=h 6 1 [0,2] [.tmp 2] RD
def xR:=S (g [8] [z 8 .lss 7 6]) (S (I 8 W (X 0)) (S (T 1 (S (g [3] [m 9 7,m 3 9]) (S (d [22] [r 0 (m 10 0),r 1 (m 11 3),r 2 (a 12 10 11 5),r 3 (f 13 12 0),w 4 (L 14 13 4) 0 0,r 5 (m 15 0),r 6 (m 16 3),r 7 (i 17 .add 16 1),r 8 (a 18 15 17 5),r 9 (f 19 18 0),w 10 (L 20 19 4) 0 0] [C 21 186 14 20,N 22 21]) (I 22 (F [2] [Z 2]) W)))) (g [7] [i 23 .add 7 1,m 7 23])))
def Xq:=S (g [2] [Z 2]) (S (S (g [6,7] [m 4 0,n 5 4,i 6 .sub 5 1,K 7 0]) (T 0 (M xR))) (F [2] [O 2]))
def acs:=h 24 1 [0,2,3,6,7,8,22] [.tmp 2] Xq
@[simp]def RE:=g [2] [f 3 1 0,l 4 3,n 5 4,f 6 1 1,l 7 6,n 8 7,o 9 (.mm true (.t 5) (.t 8)),i 10 .gtr 9 400,m 11 10,LF 12 1 2 11,cF 13 187 12 11,iF 14 .gtr 13 6000 11,Y 15 11 14,m 2 15]
def Xr:=S (g [1,2] [b 1 0,Z 2]) (S RE R)
def acu:=h 16 1 [0,1,2] [.tmp 2] Xr
@[simp]def RG:=g [2] [f 5 1 0,l 6 5,n 7 6,i 8 .gtr 7 0,m 9 8,fT 10 1 0 9,lT 11 10 9,nT 12 11 9,fT 13 1 1 9,lT 14 13 9,nT 15 14 9,zT 16 .eql 12 15 9,y 17 9 16,m 18 17,fT 19 1 0 18,lT 20 19 18,G 21 (.mkf 189 [] [.t 3]) 18 true,CT 22 164 20 21 18,NT 23 22 18,y 24 18 23,m 2 24]
def MS:=S (g [1,2] [o 1 (.box (.t 0)),Z 2]) (S (g [3] [o 4 (.mkf 188 [] [.t 1]),o 3 (.alloc [.gU]),s 1 3 4]) (S RG R))
def acv:=h 25 1 [0,1,2,3] [.tmp 2] MS
def RH:=S (g [4] [Z 4]) (F [4] [m 5 0,m 6 1,C 7 191 5 6,i 8 .geq 7 0,m 4 8])
def acw:=h 9 2 [0,1,4] [.tmp 4] RH
@[simp]def RI:=g [4] [f 5 2 1,l 6 5,f 7 3 1,l 8 7,C 9 192 6 8,m 10 9,fT 11 2 0 10,lT 12 11 10,fT 13 3 0 10,lT 14 13 10,G 15 (.call 193 [.t 12,.t 14,.k (.fn 194 [] [])]) 10 true,y 16 10 15,m 4 16]
def RJ:=S (g [2,3,4] [b 2 0,b 3 1,Z 4]) (S RI R)
def acx:=h 17 2 [0,1,2,3,4] [.tmp 4] RJ
def B2:=S (g [18] [z 18 .lss 17 16]) (S (I 18 W (X 0)) (S (T 1 (S (g [4] [m 19 17,m 4 19]) (d [] [r 3 (f 23 1 0),w 4 (l 24 23) 0 0,r 5 (m 25 4),r 6 (a 26 24 25 1),w 7 (l 27 26) 0 0,r 8 (o 28 (.mkf 198 [] [.t 3])),u 9 (C 29 197 27 28),r 0 (f 20 1 0),w 1 (l 21 20) 0 1,r 2 (m 22 4)] [a 30 21 22 1,s 1 30 29]))) (g [17] [i 31 .add 17 1,m 17 31])))
def J0:=S (g [1,2] [b 1 0,o 2 (.alloc [.ai,.ai])]) (S (g [3] [L 7 1 2,c 8 195 7,o 3 (.alloc [.ai]),s 1 3 8]) (S (A [12] [l 9 3,o 10 (.ia (.t 9) (.k (.int .i64 0)) 1),l 11 10,N 12 11] 12 (F [] [j 13 196,s 2 2 13]) W) (S (S (g [16,17] [f 14 1 0,l 15 14,n 16 15,K 17 0]) (T 0 (M B2))) (S (g [5,6] [L 33 1 2,c 34 199 33,m 32 34,x 35 32 0,x 36 32 1,m 5 35,m 6 36]) (S (A [37] [m 37 6] 37 (g [5] [L 38 1 2,c 39 200 38,m 5 39]) W) (F [] [L 40 1 2,m 41 5,C 42 201 40 41,s 2 2 42]))))))
def acy:=h0 43 1 [0,1,2,3,4,5,6,12,16,17,18,37] [.cell 2 (some 2)] J0
def B3:=S (g [14] [z 14 .lss 13 12]) (S (I 14 W (X 0)) (S (T 1 (S (g [5] [a 15 11 13 1,l 16 15,m 5 16]) (d [] [r 2 (m 19 5),u 3 (c 20 203 19),r 0 (f 17 3 0),w 1 (l 18 17) 0 1,r 4 (q 21 1 20)] [p 22 1 5864062014805 18 21,f 23 3 0,s 1 23 22]))) (g [13] [i 24 .add 13 1,m 13 24])))
def MT:=S (g [1,2] [b 1 0,o 2 (.alloc [.ai,.ai])]) (S (g [3] [f 6 1 1,l 7 6,c 8 202 7,o 9 (.build [.z [.ai],.x (.t 8) 1]),o 3 (.alloc [.ai,.ai]),s 2 3 9]) (S (S (g [11,12,13] [f 10 1 0,l 11 10,n 12 11,K 13 0]) (T 0 (M B3))) (F [] [L 25 3 2,s 2 2 25])))
def acz:=h0 26 1 [0,1,2,3,5,11,12,13,14] [.cell 2 (some 2)] MT
@[simp]def RK:=g [4,5,6,8,9] [b 4 0,b 5 1,b 6 2,o 8 (.alloc [.ai,.bool false,.bool false]),Z 9]
@[simp]def RL:=g [10,11] [L 19 5 4,L 20 6 4,C 21 151 19 20,m 18 21,x 22 18 0,x 23 18 1,m 10 22,m 11 23]
@[simp]def RM:=g [29] [m 24 11,i 25 .neq 24 0,m 26 25,mF 27 10 26,NF 28 27 26,Y 29 26 28]
@[simp]def RN:=g [9] [o 30 (.build [.z [.ai],.z [.bool false],.z [.bool false]]),s 3 8 30,Z 9]
@[simp]def RO:=g [34] [f 31 4 0,l 32 31,n 33 32,i 34 .eql 33 0]
@[simp]def RP:=d [9] [w 0 (L 35 6 4) 0 0,u 1 (o 36 (.bsl 4 [.t 35])),r 2 (o 37 (.build [.x (.t 36) 1,.z [.bool false],.z [.bool false]])),r 3 (m 38 3),r 4 (m 39 38),r 5 (fT 40 6 0 39),w 6 (lT 41 40 39) 0 1,r 7 (iT 42 .eql 41 0 39),r 8 (y 43 39 42),r 9 (m 44 43),u 14 (s 3 8 37),r 10 (fT 45 6 2 44),w 11 (lT 46 45 44) 0 2,r 12 (G 47 (.bin false .neq (.t 46) (.k (.int .u8 3))) 44 true),r 13 (y 48 44 47)] [m 9 48]
@[simp]def RQ:=g [12] [f 49 4 0,l 50 49,n 51 50,i 52 .sub 51 1,m 12 52]
@[simp]def RR:=g [13] [f 53 4 0,l 54 53,m 55 12,a 56 54 55 4,L 57 56 4,o 13 (.alloc [.int .i64 0,.int .i64 0,.int .u8 0,.int .i64 0]),s 4 13 57]
@[simp]def RS:=g [14] [f 58 13 0,l 59 58,i 60 .gtr 59 0,m 61 60,fT 62 13 1 61,lT 63 62 61,iT 64 .eql 63 0 61,y 65 61 64,m 14 65]
@[simp]def RT:=g [68] [f 66 6 2,l 67 66,o 68 (.bin false .eql (.t 67) (.k (.int .u8 3)))]
@[simp]def MU:=g [15] [f 69 6 3,l 70 69,i 71 .neq 70 (-1),m 72 71,fT 73 13 2 72,lT 74 73 72,G 75 (.bin false .eql (.t 74) (.k (.int .u8 1))) 72 true,mT 76 75 72,fF 77 6 3 76,lF 78 77 76,iF 79 .eql 78 0 76,YT 80 76 79 72,y 81 72 80,m 82 81,fF 83 6 3 82,lF 84 83 82,iF 85 .eql 84 (-1) 82,mF 86 85 82,fT 87 13 1 86,lT 88 87 86,iT 89 .gtr 88 0 86,mT 90 89 86,mF 91 14 90,mF 92 91 90,fT 93 5 3 92,lT 94 93 92,yF 95 92 94 90,YT 96 90 95 86,yF 97 86 96 82,Y 98 82 97,m 15 98]
@[simp]def MV:=g [104] [f 99 4 1,l 100 99,m 101 100,fF 102 4 2 101,lF 103 102 101,Y 104 101 103]
@[simp]def MW:=g [15] [f 105 6 3,l 106 105,i 107 .eql 106 (-1),m 15 107]
@[simp]def MX:=d [16] [r 0 (f 108 4 0),w 1 (l 109 108) 0 0,r 2 (m 110 12),r 3 (o 111 (.slc (.t 109) none (some (.t 110)) none 4)),u 4 (c 112 204 111),w 5 (L 113 6 4) 0 1,u 6 (c 114 205 113),r 7 (m 115 114),r 12 (f 120 4 2),w 13 (l 121 120) 0 2,r 14 (m 122 121),w 15 (LF 123 6 4 122) 2 2,u 16 (cF 124 205 123 122),r 8 (fT 116 13 1 115),w 9 (lT 117 116 115) 2 4,r 10 (iT 118 .gtr 117 0 115),r 11 (y 119 115 118),r 17 (mF 125 124 122),r 18 (mT 126 14 125),r 19 (yF 127 125 126 122),r 20 (mF 128 127 122),r 21 (fT 129 4 1 128),w 22 (lT 130 129 128) 3 4,r 23 (NT 131 130 128),r 24 (yF 132 128 131 122),r 25 (Y 133 122 132),r 26 (o 134 (.build [.x (.t 112) 1,.x (.t 119) 1,.x (.t 133) 1])),v 27 (o 16 (.alloc [.ai,.bool false,.bool false]))] [s 3 16 134]
@[simp]def MY:=d [9] [w 0 (L 135 16 3) 0 0,r 1 (m 136 15),r 2 (m 137 136),r 3 (fT 138 6 0 137),w 4 (lT 139 138 137) 0 0,r 5 (fT 140 13 0 137),w 6 (lT 141 140 137) 0 0,r 7 (zT 142 .eql 139 141 137),r 8 (y 143 137 142),r 9 (m 144 143),u 16 (s 3 8 135),r 10 (fT 145 6 1 144),w 11 (lT 146 145 144) 0 1,r 12 (fT 147 13 1 144),w 13 (lT 148 147 144) 0 1,r 14 (zT 149 .eql 146 148 144),r 15 (y 150 144 149)] [m 9 150]
@[simp]def MZ:=g [17] [L 151 6 4,o 152 (.call 206 [.t 151,.k (.bool false)]),m 17 152]
@[simp]def M9:=g [153] [m 153 14]
@[simp]def Na:=g [17] [L 154 6 4,o 155 (.call 206 [.t 154,.k (.bool true)]),m 156 155,fT 157 6 0 156,lT 158 157 156,fT 159 13 0 156,lT 160 159 156,zT 161 .eql 158 160 156,y 162 156 161,m 17 162]
@[simp]def Nb:=d [9] [r 0 (f 163 4 0),w 1 (l 164 163) 0 0,u 2 (c 165 204 164),w 3 (L 166 6 4) 0 1,r 4 (q 167 4 166),u 5 (p 168 4 4398046511104 165 167),r 6 (o 169 (.build [.x (.t 168) 1,.z [.bool false],.z [.bool false]])),r 7 (m 170 17),r 8 (m 171 170),r 9 (fT 172 4 1 171),w 10 (lT 173 172 171) 2 2,r 11 (NT 174 173 171),r 12 (y 175 171 174),r 13 (m 176 175),u 18 (s 3 8 169),r 14 (fT 177 4 2 176),w 15 (lT 178 177 176) 2 3,r 16 (NT 179 178 176),r 17 (y 180 176 179)] [m 9 180]
def rn:=S RK (S (S RL (S RM (I 29 (S RN R) W))) (S (S RO (I 34 (S RP R) W)) (S RQ (S RR (S RS (S (S RT (I 68 (S MU (S (S MV (I 104 MW W)) (S MX (S MY R)))) W)) (S MZ (S (S M9 (I 153 Na W)) (S Nb R)))))))))
def f168:=h 181 4 [0,1,2,3,4,5,6,8,9,10,11,12,13,14,15,16,17,29,34,68,104,153] [.cell 8 (some 3),.tmp 9] rn
def xS:=S (g [13] [z 13 .lss 12 11]) (S (I 13 W (X 0)) (S (T 1 (S (g [7] [a 14 10 12 4,L 15 14 4,o 7 (.alloc [.int .i64 0,.int .i64 0,.int .u8 0,.int .i64 0]),s 4 7 15]) (S (g [] [f 16 7 0,l 17 16,o 18 (.bin false .mul (.k (.int .i64 64)) (.t 17)),f 19 7 1,l 20 19,z 21 .add 18 20,i 22 .add 21 1,o 23 (.cnv .i32 (.t 22)),o 24 (.cis (.t 23)),o 25 (.bin false .add (.t 24) (.k (.str [32]))),C 26 207 4 25]) (g [] [f 27 7 2,l 28 27,o 29 (.cnv .i32 (.t 28)),o 30 (.cis (.t 29)),C 31 207 5 30])))) (g [12] [i 32 .add 12 1,m 12 32])))
def Xs:=S (g [1,2,3] [b 1 0,o 2 (.mv (.k (.str []))),o 3 (.mv (.k (.str [])))]) (S (g [4,5] [o 4 (.alb 211 [.dZ,.ai]),o 5 (.alb 211 [.dZ,.ai])]) (S (S (g [10,11,12] [f 9 1 0,l 10 9,n 11 10,K 12 0]) (T 0 (M xS))) (S (g [8] [o 33 .mkm,e (.mup ⟨false,[1]⟩ (.t 33) (.k (.bool false)) (.k (.str [110]))),e (.mup ⟨false,[1]⟩ (.t 33) (.k (.bool true)) (.k (.str [121]))),m 34 33,m 8 34]) (S (d [2,3] [u 0 (c 35 136 4),u 1 (c 36 136 5),r 2 (m 37 8),r 3 (f 38 1 1),w 4 (l 39 38) 0 2,w 5 (o 40 (.lkp ⟨false,[1]⟩ (.t 37) (.t 39) (.str []) false)) 0 2,r 6 (z 41 .add 36 40),r 7 (m 42 8),r 8 (f 43 1 2),w 9 (l 44 43) 0 2,w 10 (o 45 (.lkp ⟨false,[1]⟩ (.t 42) (.t 44) (.str []) false)) 0 2,r 11 (z 46 .add 41 45),r 12 (m 2 35)] [m 3 46]) R))))
def f169:=h 47 1 [0,1,2,3,4,5,7,8,10,11,12,13] [.tmp 2,.tmp 3] Xs
@[simp]def RU:=g [2,3,4,5] [b 2 0,b 3 1,o 4 (.alloc [.int .i64 0,.int .i64 0,.bool false,.int .i64 0,.bool false]),o 5 (.alloc [.bool false])]
@[simp]def RV:=g [6,7] [L 10 2 4,f 11 3 0,l 12 11,f 13 3 1,l 14 13,J 15 118 10 12 14,m 9 15,x 16 9 0,x 17 9 1,o 6 (.alloc [.int .i64 0,.int .i64 0,.bool false,.int .i64 0,.bool false]),s 5 6 16,m 7 17]
@[simp]def RW:=g [19] [m 18 7,N 19 18]
@[simp]def RX:=g [] [L 20 6 5,s 5 4 20,e (.st 1 (.t 5) (.k (.bool false)))]
@[simp]def RY:=g [22] [L 21 6 5,o 22 (.mkf 208 [.t 21] [])]
@[simp]def eA:=g [8] [o 8 (.alloc [.int .i64 0,.int .i64 0,.int .u8 0,.int .i64 0]),s 4 8 23]
@[simp]def RZ:=g [26] [L 24 8 4,L 25 3 4,o 26 (.eqs ⟨true,[0,0,0,0]⟩ false (.t 24) (.t 25))]
@[simp]def R0:=g [] [L 27 6 5,s 5 4 27,e (.st 1 (.t 5) (.k (.bool true)))]
def eB:=T 1 (S RZ (I 26 (S R0 R) W))
def J1:=T 0 (.rf (.t 22) [23] eA eB)
@[simp]def R1:=g [] [L 28 6 5,s 5 4 28,e (.st 1 (.t 5) (.k (.bool false)))]
def R2:=S RU (S RV (S (S RW (I 19 (S RX R) W)) (S (S RY J1) (S R1 R))))
def acA:=h 29 2 [0,1,2,3,4,5,6,7,8,19,22,23,26] [.cell 4 (some 5),.cell 5 none] R2
def R3:=S (g [1,2,3] [b 1 0,K 2 0,Z 3]) (S (A [7] [f 4 1 0,l 5 4,n 6 5,i 7 .eql 6 0] 7 (F [2,3] [K 2 (-1),Z 3]) W) (F [2,3] [f 8 1 0,l 9 8,f 10 1 0,l 11 10,n 12 11,i 13 .sub 12 1,a 14 9 13 1,l 15 14,m 2 15,O 3]))
def f171:=h 16 1 [0,1,2,3,7] [.tmp 2,.tmp 3] R3
def Xt:=S (g [1,2] [b 1 0,Z 2]) (F [2] [L 3 1 4,o 4 (.call 174 [.t 3,.k (.int .i64 0),.k (.int .i64 0)]),m 2 4])
def acB:=h 5 1 [0,1,2] [.tmp 2] Xt
def Xu:=S (g [1,2] [b 1 0,Z 2]) (F [2] [f 3 1 2,l 4 3,o 5 (.bin false .eql (.t 4) (.k (.int .u8 3))),m 2 5])
def acC:=h 6 1 [0,1,2] [.tmp 2] Xu
@[simp]def R4:=g [6] [f 7 3 0,l 8 7,m 9 1,z 10 .eql 8 9,m 11 10,fT 12 3 1 11,lT 13 12 11,mT 14 2 11,zT 15 .eql 13 14 11,y 16 11 15,m 6 16]
def Xv:=S (g [3,6] [b 3 0,Z 6]) (S R4 R)
def acD:=h 17 3 [0,1,2,3,6] [.tmp 6] Xv
@[simp]def R5:=g [7] [m 8 0,k 9 8,f 10 9 9,l 11 10,m 12 11,mF 13 0 12,G 14 (.nck (.t 13)) 12 false,fF 15 14 10 12,lF 16 15 12,Y 17 12 16,m 7 17]
@[simp]def R6:=g [6] [L 23 4 4,c 24 178 23,m 25 24,LF 26 4 4 25,cF 27 177 26 25,mF 28 27 25,mT 29 0 28,G 30 (.nck (.t 29)) 28 true,fT 31 30 0 28,fT 32 31 3 28,lT 33 32 28,yF 34 28 33 25,Y 35 25 34,m 6 35]
@[simp]def R7:=g [6] [f 36 4 2,l 37 36,o 38 (.bin false .eql (.t 37) (.k (.int .u8 1))),m 39 38,fF 40 5 3 39,lF 41 40 39,iF 42 .eql 41 0 39,Y 43 39 42,m 6 43]
def Iv:=S (g [4,5,6] [b 4 1,b 5 2,Z 6]) (S (T 0 (S R5 (I 7 (F [6] [L 18 5 4,c 19 179 18,m 6 19]) (A [20] [L 21 5 4,c 22 179 21,m 20 22] 20 (S R6 R) W)))) (S R7 R))
def acE:=h 44 3 [0,1,2,4,5,6,7,20] [.tmp 6] Iv
@[simp]def R8:=g [16] [m 17 4,m 18 17,mT 19 0 18,G 20 (.nck (.t 19)) 18 true,fT 21 20 4 18,lT 22 21 18,mT 23 3 18,aT 24 22 23 4 18,LT 25 24 4 18,cT 26 177 25 18,NT 27 26 18,y 28 18 27,m 16 28]
def J2:=S (g [2] [o 2 (.mv (.k (.int .u8 0)))]) (S (g [3,4] [m 6 0,k 7 6,f 8 7 8,L 9 8 1,c 10 171 9,m 5 10,x 11 5 0,x 12 5 1,m 3 11,m 4 12]) (S (T 0 (A [13] [m 14 0,c 15 209 14,m 13 15] 13 (F [2] [o 2 (.mv (.k (.int .u8 3)))]) (S R8 (I 16 (F [2] [o 2 (.mv (.k (.int .u8 2)))]) W)))) (F [2] [o 2 (.mv (.k (.int .u8 1)))])))
def acF:=h 29 1 [0,2,3,4,13,16] [.tmp 2] J2
@[simp]def R9:=g [2] [f 3 1 0,l 4 3,i 5 .gtr 4 0,m 6 5,fT 7 1 1 6,lT 8 7 6,iT 9 .eql 8 0 6,y 10 6 9,m 2 10]
def Xw:=S (g [1,2] [b 1 0,Z 2]) (S R9 R)
def acG:=h 11 1 [0,1,2] [.tmp 2] Xw
@[simp]def Sa:=g [2] [f 3 1 0,l 4 3,i 5 .gtr 4 0,m 6 5,fT 7 1 1 6,lT 8 7 6,iT 9 .gtr 8 0 6,y 10 6 9,m 2 10]
def Xx:=S (g [1,2] [b 1 0,Z 2]) (S Sa R)
def acH:=h 11 1 [0,1,2] [.tmp 2] Xx
@[simp]def Sc:=g [2] [L 3 1 4,c 4 173 3,m 5 4,fT 6 1 3 5,lT 7 6 5,iT 8 .eql 7 (-1) 5,y 9 5 8,m 2 9]
def Sd:=S (g [1,2] [b 1 0,Z 2]) (S Sc R)
def acI:=h 10 1 [0,1,2] [.tmp 2] Sd
def xT:=S (A [9] [m 6 5,m 7 0,n 8 7,z 9 .lss 6 8] 9 W (X 0)) (S (T 1 (S (d [17] [r 0 (m 12 0),r 1 (m 13 5),r 2 (a 14 12 13 4),w 3 (L 15 14 4) 0 0,w 4 (L 16 3 4) 0 0] [o 17 (.eqs ⟨true,[0,0,0,0]⟩ false (.t 15) (.t 16))]) (I 17 (F [4] [m 18 5,m 4 18]) W))) (t 5 10 11))
def Xy:=S (g [3,4] [b 3 1,K 4 0]) (S (S (g [5] [K 5 0]) (T 0 (M xT))) (F [4] [K 4 (-1)]))
def acJ:=h 19 2 [0,1,3,4,5,9,17] [.tmp 4] Xy
@[simp]def Se:=g [31] [f 24 7 0,l 25 24,m 26 25,mT 27 10 26,fT 28 7 1 26,lT 29 28 26,zT 30 .lss 27 29 26,y 31 26 30]
def xU:=S (S Se (I 31 W (X 0))) (S (T 1 (g [9] [m 34 9,m 35 1,m 36 2,m 37 10,o 38 (.build [.x (.t 35) 1,.x (.t 36) 1,.x (.k (.int .u8 2)) 1,.x (.t 37) 1]),q 39 4 38,p 40 4 4398046511104 34 39,m 9 40])) (t 10 32 33))
def Sf:=S (g [3,6] [b 3 0,Q 6]) (S (g [7,8] [L 12 3 4,m 13 1,m 14 2,J 15 210 12 13 14,m 11 15,x 16 11 0,x 17 11 1,o 7 (.alloc [.bool false,.int .i64 0]),s 2 7 16,m 8 17]) (S (A [19] [m 18 8,N 19 18] 19 (F [6] [Q 6]) W) (S (g [9] [m 20 1,m 21 2,o 22 (.build [.x (.t 20) 1,.x (.t 21) 1,.x (.k (.int .u8 1)) 1,.z [.int .i64 0]]),o 23 (.bsl 4 [.t 22]),m 9 23]) (S (S (g [10] [K 10 0]) (T 0 (M xU))) (F [6] [m 41 9,m 6 41])))))
def acK:=h 42 3 [0,1,2,3,6,7,8,9,10,19,31] [.tmp 6] Sf
@[simp]def Sg:=g [43] [m 32 12,f 33 9 1,l 34 33,z 35 .lss 32 34,m 36 35,mT 37 12 36,iT 38 .eql 37 0 36,mT 39 38 36,mF 40 3 39,G 41 (.bin false .eql (.t 40) (.k (.int .u8 1))) 39 false,YT 42 39 41 36,y 43 36 42]
def rp:=S (S Sg (I 43 W (X 0))) (S (T 1 (g [11] [m 46 11,m 47 1,m 48 2,m 49 12,o 50 (.build [.x (.t 47) 1,.x (.t 48) 1,.x (.k (.int .u8 3)) 1,.x (.t 49) 1]),q 51 4 50,p 52 4 4398046511104 46 51,m 11 52])) (t 12 44 45))
def Nc:=S (g [4,8] [b 4 0,Q 8]) (S (g [9,10] [L 14 4 4,m 15 1,m 16 2,J 17 210 14 15 16,m 13 17,x 18 13 0,x 19 13 1,o 9 (.alloc [.bool false,.int .i64 0]),s 2 9 18,m 10 19]) (S (A [21] [m 20 10,N 21 20] 21 (F [8] [Q 8]) W) (S (g [11] [Q 11]) (S (A [25] [L 22 4 4,m 23 1,m 24 2,J 25 211 22 23 24] 25 (g [11] [m 26 11,m 27 1,m 28 2,o 29 (.build [.x (.t 27) 1,.x (.t 28) 1,.x (.k (.int .u8 3)) 1,.x (.k (.int .i64 (-1))) 1]),q 30 4 29,p 31 4 4398046511104 26 30,m 11 31]) W) (S (S (g [12] [K 12 0]) (T 0 (M rp))) (F [8] [m 53 11,m 8 53]))))))
def acL:=h 54 4 [0,1,2,3,4,8,9,10,11,12,21,25,43] [.tmp 8] Nc
@[simp]def Sh:=g [41] [f 31 12 0,L 32 31 4,L 33 9 4,o 34 (.eqs ⟨true,[0,0,0,0]⟩ false (.t 32) (.t 33)),m 35 34,mT 36 2 35,fT 37 12 4 35,lT 38 37 35,aT 39 36 38 1 35,lT 40 39 35,y 41 35 40]
def tK:=S (A [20] [m 13 11,f 14 5 0,l 15 14,m 16 3,a 17 15 16 1,l 18 17,n 19 18,z 20 .lss 13 19] 20 W (X 0)) (S (T 1 (S (g [12] [f 23 5 0,l 24 23,m 25 3,a 26 24 25 1,l 27 26,m 28 11,a 29 27 28 5,L 30 29 5,o 12 (.alloc [.int .i64 0,.int .i64 0,.int .u8 0,.int .i64 0,.int .i64 0]),s 5 12 30]) (S Sh (I 41 (F [10] [m 42 1,f 43 12 4,l 44 43,a 45 42 44 1,l 46 45,m 10 46]) W)))) (t 11 21 22))
def Xz:=S (g [5,9,10] [b 5 0,b 9 4,K 10 0]) (S (S (g [11] [K 11 0]) (T 0 (M tK))) (F [10] [K 10 (-1)]))
def acM:=h 47 5 [0,1,2,3,4,5,9,10,11,12,20,41] [.tmp 10] Xz
def XA:=S (g [2,3,4] [b 2 0,b 3 1,Z 4]) (S (d [4] [r 0 (f 5 2 0),w 1 (l 6 5) 0 0,r 2 (f 7 3 0),w 3 (l 8 7) 0 0,u 4 (C 9 213 6 8),r 5 (f 10 2 1),w 6 (l 11 10) 0 1,r 7 (f 12 3 1),w 8 (l 13 12) 0 1,u 9 (C 14 213 11 13),r 10 (f 15 2 2),w 11 (l 16 15) 0 2,r 12 (f 17 3 2),w 13 (l 18 17) 0 2,u 14 (C 19 214 16 18),r 15 (f 20 2 3),w 16 (l 21 20) 0 3,r 17 (f 22 3 3),w 18 (l 23 22) 0 3] [C 24 213 21 23,o 25 (.fbl 1 [.t 9,.t 14,.t 19,.t 24]),c 26 212 25,i 27 .lss 26 0,m 4 27]) R)
def acN:=h 28 2 [0,1,2,3,4] [.tmp 4] XA
def B4:=S (g [9] [z 9 .lss 8 7]) (S (I 9 W (X 0)) (S (T 1 (S (g [4] [a 10 6 8 1,l 11 10,m 4 11]) (g [2] [m 12 2,m 13 4,n 14 13,z 15 .add 12 14,m 2 15]))) (g [8] [i 16 .add 8 1,m 8 16])))
def XB:=S (g [1,2] [b 1 0,K 2 0]) (S (S (g [6,7,8] [f 5 1 0,l 6 5,n 7 6,K 8 0]) (T 0 (M B4))) (F [2] [m 17 2,m 2 17]))
def acO:=h 18 1 [0,1,2,4,6,7,8,9] [.tmp 2] XB
@[simp]def Si:=g [3] [f 4 2 4,l 5 4,i 6 .lss 5 0,m 7 6,fF 8 2 4 7,lF 9 8 7,fF 10 1 0 7,lF 11 10 7,nF 12 11 7,zF 13 .geq 9 12 7,Y 14 7 13,m 3 14]
def Sj:=S (g [2,3] [b 2 0,Z 3]) (S Si R)
def acP:=h 15 2 [0,1,2,3] [.tmp 3] Sj
def XC:=S (g [3] [Z 3]) (F [3] [m 4 0,l 5 1,C 6 190 4 5,m 3 6])
def acQ:=h 7 2 [0,1,3] [.tmp 3] XC
def XD:=S (g [4] [Z 4]) (F [4] [m 5 0,m 6 1,C 7 215 5 6,i 8 .geq 7 0,m 4 8])
def acR:=h 9 2 [0,1,4] [.tmp 4] XD
def n5:=S (g [9] [z 9 .lss 8 7]) (S (I 9 W (X 0)) (S (T 1 (S (g [5] [m 10 8,m 5 10]) (A [16] [m 11 1,m 12 0,m 13 5,a 14 12 13 1,l 15 14,o 16 (.dyn (.t 11) [.t 15])] 16 (F [4] [m 17 5,m 4 17]) W))) (g [8] [i 18 .add 8 1,m 8 18])))
def Sk:=S (g [4] [K 4 0]) (S (S (g [7,8] [m 6 0,n 7 6,K 8 0]) (T 0 (M n5))) (F [4] [K 4 (-1)]))
def acS:=h 19 2 [0,1,4,5,7,8,9,16] [.tmp 4] Sk
def xV:=S (g [14] [z 14 .lss 13 12]) (S (I 14 W (X 0)) (S (T 1 (S (g [5] [m 15 13,m 5 15]) (S (d [24] [r 0 (m 16 0),r 1 (m 17 5),r 2 (a 18 16 17 1),w 3 (l 19 18) 0 0,r 4 (m 20 1),r 5 (m 21 5),r 6 (a 22 20 21 1),w 7 (l 23 22) 0 0] [o 24 (.bin true .neq (.t 19) (.t 23))]) (I 24 (F [4] [Z 4]) W)))) (g [13] [i 25 .add 13 1,m 13 25])))
def Sl:=S (g [4] [Z 4]) (S (A [10] [m 6 0,n 7 6,m 8 1,n 9 8,z 10 .neq 7 9] 10 (F [4] [Z 4]) W) (S (S (g [12,13] [m 11 0,n 12 11,K 13 0]) (T 0 (M xV))) (F [4] [O 4])))
def acT:=h 26 2 [0,1,4,5,10,12,13,14,24] [.tmp 4] Sl
def xW:=S (g [18] [z 18 .lss 17 16]) (S (I 18 W (X 0)) (S (T 1 (S (g [7,8] [m 19 17,a 20 15 17 1,l 21 20,m 7 19,m 8 21]) (S (g [9] [m 22 1,m 23 7,a 24 22 23 1,l 25 24,m 9 25]) (A [30] [m 26 2,m 27 8,m 28 9,o 29 (.dyn (.t 26) [.t 27,.t 28]),N 30 29] 30 (F [6] [Z 6]) W)))) (g [17] [i 31 .add 17 1,m 17 31])))
def Sm:=S (g [6] [Z 6]) (S (A [14] [m 10 0,n 11 10,m 12 1,n 13 12,z 14 .neq 11 13] 14 (F [6] [Z 6]) W) (S (S (g [15,16,17] [m 15 0,n 16 15,K 17 0]) (T 0 (M xW))) (F [6] [O 6])))
def acU:=h 32 3 [0,1,2,6,7,8,9,14,15,16,17,18,30] [.tmp 6] Sm
def xX:=S (g [14] [z 14 .lss 13 12]) (S (I 14 W (X 0)) (S (T 1 (S (g [5] [m 15 13,m 5 15]) (S (d [24] [r 0 (m 16 0),r 1 (m 17 5),r 2 (a 18 16 17 5),w 3 (L 19 18 5) 0 0,r 4 (m 20 1),r 5 (m 21 5),r 6 (a 22 20 21 5),w 7 (L 23 22 5) 0 0] [o 24 (.eqs ⟨true,[0,0,0,0,0]⟩ true (.t 19) (.t 23))]) (I 24 (F [4] [Z 4]) W)))) (g [13] [i 25 .add 13 1,m 13 25])))
def So:=S (g [4] [Z 4]) (S (A [10] [m 6 0,n 7 6,m 8 1,n 9 8,z 10 .neq 7 9] 10 (F [4] [Z 4]) W) (S (S (g [12,13] [m 11 0,n 12 11,K 13 0]) (T 0 (M xX))) (F [4] [O 4])))
def acV:=h 26 2 [0,1,4,5,10,12,13,14,24] [.tmp 4] So
def xY:=S (g [30] [z 30 .lss 29 28]) (S (I 30 W (X 2)) (S (T 3 (S (g [7] [a 31 27 29 5,L 32 31 5,o 7 (.alloc [.int .i64 0,.int .i64 0,.int .u8 0,.int .i64 0,.int .i64 0]),s 5 7 32]) (d [] [r 3 (m 36 3),r 4 (f 37 7 4),w 5 (l 38 37) 0 0,r 6 (a 39 36 38 1),w 7 (l 40 39) 0 0,r 8 (m 41 4),r 9 (q 42 1 41),u 10 (p 43 1 17592186044416 40 42),r 0 (m 33 3),r 1 (f 34 7 4),w 2 (l 35 34) 0 1] [a 44 33 35 1,s 1 44 43]))) (g [29] [i 45 .add 29 1,m 29 45])))
def xZ:=S (g [23] [z 23 .lss 22 21]) (S (I 23 W (X 0)) (S (T 1 (S (g [4,5] [m 24 22,a 25 20 22 1,l 26 25,m 4 24,m 5 26]) (S (g [27,28,29] [m 27 5,n 28 27,K 29 0]) (T 2 (M xY))))) (g [22] [i 46 .add 22 1,m 22 46])))
def tL:=S (g [53] [z 53 .lss 52 51]) (S (I 53 W (X 4)) (S (T 5 (S (g [10,11] [m 54 52,a 55 50 52 1,l 56 55,m 10 54,m 11 56]) (A [57] [m 57 11] 57 (g [9] [m 58 9,m 59 10,q 60 1 59,p 61 1 17592186044416 58 60,m 9 61]) W))) (g [52] [i 62 .add 52 1,m 52 62])))
def tM:=S (g [83] [z 83 .lss 82 81]) (S (I 83 W (X 8)) (S (T 9 (S (g [14] [a 84 80 82 1,l 85 84,m 14 85]) (A [90] [m 86 8,m 87 14,a 88 86 87 1,l 89 88,N 90 89] 90 (S (g [] [m 91 8,m 92 14,a 93 91 92 1,e (.st 1 (.t 93) (.k (.bool true)))]) (g [9] [m 94 9,m 95 14,q 96 1 95,p 97 1 17592186044416 94 96,m 9 97])) W))) (g [82] [i 98 .add 82 1,m 82 98])))
def tN:=S (A [65] [m 63 9,n 64 63,i 65 .gtr 64 0] 65 W (X 6)) (T 7 (S (g [12] [m 66 9,m 67 9,n 68 67,i 69 .sub 68 1,a 70 66 69 1,l 71 70,m 12 71]) (S (g [9] [m 72 9,m 73 9,n 74 73,i 75 .sub 74 1,o 76 (.slc (.t 72) none (some (.t 75)) none 1),m 9 76]) (S (g [80,81,82] [m 77 3,m 78 12,a 79 77 78 1,l 80 79,n 81 80,K 82 0]) (T 8 (M tM))))))
def Sq:=S (g [1,2] [b 1 0,Q 2]) (S (g [3] [f 15 1 0,l 16 15,n 17 16,o 18 (.mks 1 5864062014805 [.ai] (.t 17) (.t 17)),m 3 18]) (S (S (g [20,21,22] [f 19 1 0,l 20 19,n 21 20,K 22 0]) (T 0 (M xZ))) (S (g [8] [f 47 1 1,l 48 47,c 49 202 48,m 8 49]) (S (g [9] [Q 9]) (S (S (g [50,51,52] [m 50 8,n 51 50,K 52 0]) (T 4 (M tL))) (S (T 6 (M tN)) (F [2] [m 99 8,m 2 99])))))))
def f195:=h 100 1 [0,1,2,3,4,5,7,8,9,10,11,12,14,20,21,22,23,27,28,29,30,50,51,52,53,57,65,80,81,82,83,90] [.tmp 2] Sq
def XE:=S (g [0] [o 0 (.alloc [.ai,.ai])]) (F [] [o 1 (.bsl 1 [.k .ai]),o 2 (.bsl 1 [.k (.bool false)]),o 3 (.build [.x (.t 1) 1,.x (.t 2) 1]),s 2 0 3])
def acW:=h 4 0 [0] [.cell 0 (some 2)] XE
def Sr:=S (A [19] [m 16 6,m 17 0,n 18 17,z 19 .lss 16 18] 19 W (X 0)) (S (T 1 (S (g [7] [m 22 0,m 23 6,a 24 22 23 5,L 25 24 5,o 7 (.alloc [.int .i64 0,.int .i64 0,.int .u8 0,.int .i64 0,.int .i64 0]),s 5 7 25]) (A [29] [m 26 1,L 27 7 5,o 28 (.dyn (.t 26) [.t 27]),N 29 28] 29 (S (g [] [m 30 0,m 31 5,L 32 7 5,a 33 30 31 5,s 5 33 32]) (t 5 34 35)) W))) (t 6 20 21))
def Nd:=S (g [4] [Q 4]) (S (g [5] [m 8 0,m 9 1,C 10 215 8 9,m 5 10]) (S (A [12] [m 11 5,i 12 .eql 11 (-1)] 12 (F [4] [m 13 0,m 4 13]) W) (S (S (g [6] [m 14 5,i 15 .add 14 1,m 6 15]) (T 0 (M Sr))) (S (g [] [m 36 0,m 37 5,o 38 (.slc (.t 36) (some (.t 37)) none none 5),e (.clr 5 [.int .i64 0,.int .i64 0,.int .u8 0,.int .i64 0,.int .i64 0] (.t 38))]) (F [4] [m 39 0,m 40 5,o 41 (.slc (.t 39) none (some (.t 40)) none 5),m 4 41])))))
def acX:=h0 42 2 [0,1,4,5,6,7,12,19,29] [.tmp 4] Nd
def XF:=S (g [2,3] [b 2 0,Z 3]) (F [3] [l 4 1,f 5 2 4,l 6 5,a 7 4 6 1,l 8 7,N 9 8,m 3 9])
def acY:=h 10 2 [0,1,2,3] [.tmp 3] XF
def Ss:=S (g [1,2,3] [o 1 (.box (.t 0)),o 2 (.alloc [.ai]),o 3 (.alloc [.bool false])]) (S (g [] [o 7 (.bsl 1 [.k (.int .i64 (-1))]),f 8 1 0,l 9 8,n 10 9,C 11 216 7 10,s 1 2 11]) (S (g [4] [f 12 1 0,l 13 12,n 14 13,o 15 (.mks 1 140737488355328 [.bool false] (.t 14) (.t 14)),o 4 (.alloc [.ai]),s 1 4 15]) (S (g [5] [o 16 .mkm,o 5 (.alloc [.fV]),s 1 5 16]) (S (g [6] [o 6 (.alloc [.gU])]) (S (g [] [o 17 (.mkf 217 [] [.t 4,.t 1,.t 3,.t 2,.t 6,.t 5]),s 1 6 17]) (S (g [] [l 18 6,o 19 (.dyn (.t 18) [.k (.int .i64 0)])]) (S (d [] [w 0 (l 20 2) 0 0,u 2 (s 1 2 20),w 1 (l 21 3) 0 1] [s 1 3 21]) R)))))))
def f199:=h 22 1 [0,1,2,3,4,5,6] [.cell 2 none,.cell 3 none] Ss
def ya:=S (g [19] [z 19 .lss 18 17]) (S (I 19 W (X 2)) (S (T 3 (S (g [7] [m 20 18,m 7 20]) (d [] [r 3 (m 24 3),r 4 (m 25 7),r 5 (a 26 24 25 1),w 6 (l 27 26) 0 0,u 7 (c 28 220 27),w 9 (L 30 1 2) 0 1,r 10 (m 31 7),r 11 (m 32 3),u 12 (J 33 219 30 31 32),r 2 (m 23 5),r 8 (o 29 (.bin false .add (.t 28) (.k (.str [32])))),r 13 (z 34 .add 29 33),u 14 (C 35 218 23 34),r 0 (m 21 6),r 1 (m 22 7)] [a 36 21 22 1,s 1 36 35]))) (g [18] [i 37 .add 18 1,m 18 37])))
def Ft:=T 1 (S (g [5] [o 12 .mkm,m 5 12]) (S (g [6] [m 13 3,n 14 13,o 15 (.mks 1 17592186044416 [.int .i64 0] (.t 14) (.t 14)),m 6 15]) (S (S (g [17,18] [m 16 3,n 17 16,K 18 0]) (T 2 (M ya))) (S (g [3] [m 38 6,m 3 38]) (S (A [42] [m 39 5,o 40 (.len 2 (.t 39)),m 41 4,z 42 .eql 40 41] 42 (F [2] [m 43 3,m 2 43]) W) (g [4] [m 44 5,o 45 (.len 2 (.t 44)),m 4 45]))))))
def St:=S (g [1,2] [b 1 0,Q 2]) (S (g [3] [f 8 1 0,l 9 8,n 10 9,o 11 (.mks 1 17592186044416 [.int .i64 0] (.t 10) (.t 10)),m 3 11]) (S (g [4] [K 4 0]) (T 0 (M Ft))))
def f200:=h 46 1 [0,1,2,3,4,5,6,7,17,18,19,42] [.tmp 2] St
def yb:=S (g [32] [z 32 .lss 31 30]) (S (I 32 W (X 2)) (S (T 3 (S (g [11] [a 33 29 31 5,L 34 33 5,o 11 (.alloc [.int .i64 0,.int .i64 0,.int .u8 0,.int .i64 0,.int .i64 0]),s 5 11 34]) (d [9] [r 3 (m 38 7),r 4 (f 39 11 4),w 5 (l 40 39) 0 0,u 6 (o 41 (.dyn (.t 38) [.t 40])),r 0 (m 35 9),r 1 (f 36 11 0),w 2 (L 37 36 4) 0 1,r 7 (o 42 (.build [.x (.t 37) 4,.x (.t 41) 1])),r 8 (q 43 5 42)] [p 44 5 3518437208883 35 43,m 9 44]))) (g [31] [i 45 .add 31 1,m 31 45])))
def yc:=S (A [19] [m 16 8,l 17 6,n 18 17,z 19 .lss 16 18] 19 W (X 0)) (S (T 1 (S (g [9] [Q 9]) (S (S (d [29,30,31] [r 0 (f 22 2 0),w 1 (l 23 22) 0 0,w 2 (l 24 6) 0 0,r 3 (m 25 8),r 4 (a 26 24 25 1),w 5 (l 27 26) 0 0,r 6 (a 28 23 27 1),w 7 (l 29 28) 0 0,w 8 (n 30 29) 0 0,r 9 (K 31 0)] []) (T 2 (M yb))) (d [] [r 0 (f 46 4 0),w 1 (l 47 46) 0 0,r 2 (m 48 9),r 3 (q 49 1 48),u 4 (p 50 1 5864062014805 47 49),r 5 (f 51 4 1),w 6 (l 52 51) 0 1,r 7 (f 53 2 1),w 8 (l 54 53) 0 1,w 9 (l 55 6) 0 1,r 10 (m 56 8),r 11 (a 57 55 56 1),w 12 (l 58 57) 0 1,r 13 (a 59 54 58 1),w 14 (l 60 59) 0 1,r 15 (q 61 1 60),u 16 (p 62 1 140737488355328 52 61),r 17 (f 63 4 0)] [s 1 63 50,f 64 4 1,s 1 64 62])))) (t 8 20 21))
def Su:=S (g [2,3,4] [b 2 0,o 3 (.box (.t 1)),o 4 (.alloc [.ai,.ai])]) (S (g [5] [o 12 .mkm,o 5 (.alloc [.fV]),s 1 5 12]) (S (g [6] [o 6 (.alloc [.ai])]) (S (g [7] [o 13 (.mkf 221 [] [.t 5,.t 3,.t 6]),m 7 13]) (S (g [] [m 14 7,o 15 (.dyn (.t 14) [.k (.int .i64 0)])]) (S (S (g [8] [K 8 0]) (T 0 (M yc))) (F [] [L 65 4 2,s 2 4 65]))))))
def f201:=h 66 2 [0,1,2,3,4,5,6,7,8,9,11,19,29,30,31,32] [.cell 4 (some 2)] Su
def J3:=S (g [2] [Q 2]) (S (A [4] [m 3 0,o 4 (.niq 0 false (.t 3))] 4 (F [2] [Q 2]) W) (F [2] [o 5 (.bsl 1 []),m 6 0,p 7 1 140737488355328 5 6,m 2 7]))
def f202:=h0 8 1 [0,2,4] [.tmp 2] J3
def Sv:=S (g [2] [Q 2]) (S (A [4] [m 3 0,o 4 (.niq 0 false (.t 3))] 4 (F [2] [Q 2]) W) (F [2] [o 5 (.bsl 5 []),m 6 0,p 7 5 3518437208883 5 6,m 2 7]))
def f203:=h 8 1 [0,2,4] [.tmp 2] Sv
def J4:=S (g [2] [Q 2]) (S (A [4] [m 3 0,o 4 (.niq 0 false (.t 3))] 4 (F [2] [Q 2]) W) (F [2] [o 5 (.bsl 4 []),m 6 0,p 7 4 4398046511104 5 6,m 2 7]))
def f204:=h0 8 1 [0,2,4] [.tmp 2] J4
@[simp]def Sw:=g [2] [f 3 1 2,l 4 3,o 5 (.bin false .eql (.t 4) (.k (.int .u8 3))),m 6 5,fT 7 1 3 6,lT 8 7 6,iT 9 .eql 8 (-1) 6,y 10 6 9,m 2 10]
def XG:=S (g [1,2] [b 1 0,Z 2]) (S Sw R)
def acZ:=h 11 1 [0,1,2] [.tmp 2] XG
@[simp]def Sy:=g [4] [f 5 2 2,l 6 5,o 7 (.bin false .neq (.t 6) (.k (.int .u8 3))),m 8 7,fT 9 2 0 8,lT 10 9 8,iT 11 .gtr 10 0 8,y 12 8 11,m 13 12,fT 14 2 1 13,lT 15 14 13,iT 16 .gtr 15 0 13,mT 17 1 13,G 18 (.bin true .eql (.t 16) (.t 17)) 13 true,y 19 13 18,m 4 19]
def SA:=S (g [2,4] [b 2 0,Z 4]) (S Sy R)
def ac0:=h 20 2 [0,1,2,4] [.tmp 4] SA
def Fu:=S (g [4,5] [K 4 0,o 5 (.mv (.k .gj))]) (S (g [] [m 6 0,c 7 155 6]) (S (g [] [m 8 0,m 9 0,k 10 9,f 11 10 1,l 12 11,m 13 1,o 14 (.aps 140737488355328 (some 5) (.t 12) (.t 13)),k 15 8,f 16 15 1,s 1 16 14]) (F [4,5] [m 17 1,o 18 (.len 1 (.t 17)),m 4 18,o 5 (.mv (.k .gj))])))
def ac1:=h0 19 2 [0,1,4,5] [.tmp 4,.tmp 5] Fu
@[simp]def SB:=g [2,3] [b 2 0,b 3 1]
@[simp]def SC:=d [14,15,16] [w 2 (L 9 2 5) 0 0,r 3 (f 10 2 2),r 4 (f 11 10 1),w 5 (l 12 11) 0 0,u 6 (C 13 223 9 12),w 0 (L 7 2 5) 0 1,r 1 (o 8 (.mkf 222 [.t 7] [])),u 7 (o 14 (.bsl 1 [.t 8,.t 13])),w 8 (n 15 14) 2 2,r 9 (K 16 0)] []
@[simp]def SD:=g [17] [z 17 .lss 16 15]
@[simp]def SE:=g [5] [a 18 14 16 1,l 19 18,m 5 19]
@[simp]def SF:=g [20] [m 20 5]
@[simp]def ee:=g [6] [o 6 (.alloc [.int .i64 0,.int .i64 0,.int .u8 0,.int .i64 0]),s 4 6 21]
@[simp]def SG:=g [25] [l 22 3,L 23 6 4,o 24 (.dyn (.t 22) [.t 23]),N 25 24]
def ep:=T 3 (S SG (I 25 R W))
def Fv:=T 2 (.rf (.t 20) [21] ee ep)
def Fw:=T 1 (S SE (S SF Fv))
@[simp]def SH:=g [16] [i 26 .add 16 1,m 16 26]
def yd:=S SD (S (I 17 W (X 0)) (S Fw SH))
def J5:=T 0 (M yd)
def SI:=S SB (S SC J5)
def ac2:=h0 27 2 [0,1,2,3,5,6,14,15,16,17,20,21,25] [] SI
@[simp]def SJ:=g [2] [m 3 0,k 4 3,f 5 4 4,l 6 5,n 7 6,i 8 .gtr 7 0,m 9 8,mT 10 0 9,G 11 (.nck (.t 10)) 9 true,fT 12 11 8 9,fT 13 12 0 9,lT 14 13 9,nT 15 14 9,iT 16 .eql 15 0 9,y 17 9 16,m 2 17]
def Nf:=S (g [2] [Z 2]) (S SJ R)
def ac3:=h 18 1 [0,2] [.tmp 2] Nf
@[simp]def SK:=g [14] [m 9 1,i 10 .eql 9 0,m 11 10,mT 12 2 11,iT 13 .eql 12 0 11,y 14 11 13]
def Fx:=S (g [3,6,7] [b 3 0,o 6 (.alloc [.bool false,.int .i64 0]),Z 7]) (S (S SK (I 14 (F [7] [f 15 3 1,L 16 15 2,s 2 6 16,O 7]) W)) (S (A [22] [m 17 1,f 18 3 0,l 19 18,n 20 19,o 21 (.call 62 [.t 17,.k (.int .i64 1),.t 20]),N 22 21] 22 (F [7] [o 23 (.build [.z [.bool false],.z [.int .i64 0]]),s 2 6 23,Z 7]) W) (S (g [8] [f 24 3 0,l 25 24,m 26 1,i 27 .sub 26 1,a 28 25 27 3,L 29 28 3,o 8 (.alloc [.ai,.bool false,.int .i64 0]),s 3 8 29]) (S (A [31] [m 30 2,i 31 .eql 30 0] 31 (F [7] [f 32 8 1,L 33 32 2,s 2 6 33,O 7]) W) (S (A [39] [m 34 2,f 35 8 0,l 36 35,n 37 36,o 38 (.call 62 [.t 34,.k (.int .i64 1),.t 37]),N 39 38] 39 (F [7] [o 40 (.build [.z [.bool false],.z [.int .i64 0]]),s 2 6 40,Z 7]) W) (F [7] [f 41 8 0,l 42 41,m 43 2,i 44 .sub 43 1,a 45 42 44 2,L 46 45 2,s 2 6 46,O 7]))))))
def ac4:=h 47 3 [0,1,2,3,6,7,8,14,22,31,39] [.cell 6 (some 2),.tmp 7] Fx
@[simp]def SL:=g [6] [m 7 2,i 8 .gtr 7 0,m 9 8,fF 10 3 3 9,lF 11 10 9,Y 12 9 11,m 13 12,mF 14 1 13,iF 15 .gtr 14 0 13,mF 16 15 13,fT 17 3 0 16,lT 18 17 16,mT 19 1 16,iT 20 .sub 19 1 16,aT 21 18 20 3 16,fT 22 21 0 16,lT 23 22 16,nT 24 23 16,iT 25 .gtr 24 0 16,yF 26 16 25 13,Y 27 13 26,m 6 27]
def Iw:=S (g [3,6] [b 3 0,Z 6]) (S SL R)
def ac5:=h 28 3 [0,1,2,3,6] [.tmp 6] Iw
def ye:=S (g [9] [z 9 .lss 8 7]) (S (I 9 W (X 0)) (S (T 1 (S (g [5] [a 10 6 8 1,l 11 10,m 5 11]) (A [14] [m 12 5,m 13 3,z 14 .neq 12 13] 14 (F [2] [m 15 5,m 2 15]) W))) (g [8] [i 16 .add 8 1,m 8 16])))
def XH:=S (g [2] [K 2 0]) (S (g [3] [K 3 0]) (S (S (g [6,7,8] [m 6 0,n 7 6,K 8 0]) (T 0 (M ye))) (F [2] [m 17 3,m 2 17])))
def ac6:=h 18 1 [0,2,3,5,6,7,8,9,14] [.tmp 2] XH
def SM:=S (g [4] [K 4 0]) (S (g [5] [m 7 0,c 8 224 7,m 5 8]) (S (g [6] [m 9 1,c 10 224 9,m 6 10]) (S (A [11] [m 11 5] 11 (S (A [12] [m 12 6] 12 (F [4] [K 4 0]) W) (F [4] [K 4 (-1)])) W) (S (A [13] [m 13 6] 13 (F [4] [K 4 1]) W) (S (A [16] [m 14 0,m 15 1,z 16 .lss 14 15] 16 (F [4] [K 4 (-1)]) W) (S (A [19] [m 17 0,m 18 1,z 19 .gtr 17 18] 19 (F [4] [K 4 1]) W) (F [4] [K 4 0])))))))
def ac7:=h 20 2 [0,1,4,5,6,11,12,13,16,19] [.tmp 4] SM
def SN:=S (g [4] [K 4 0]) (S (g [5] [m 7 0,c 8 225 7,m 5 8]) (S (g [6] [m 9 1,c 10 225 9,m 6 10]) (S (A [11] [m 11 5] 11 (S (A [12] [m 12 6] 12 (F [4] [K 4 0]) W) (F [4] [K 4 (-1)])) W) (S (A [13] [m 13 6] 13 (F [4] [K 4 1]) W) (S (A [16] [m 14 0,m 15 1,z 16 .lss 14 15] 16 (F [4] [K 4 (-1)]) W) (S (A [19] [m 17 0,m 18 1,z 19 .gtr 17 18] 19 (F [4] [K 4 1]) W) (F [4] [K 4 0])))))))
def ac8:=h 20 2 [0,1,4,5,6,11,12,13,16,19] [.tmp 4] SN
def n6:=S (g [9] [z 9 .lss 8 7]) (S (I 9 W (X 0)) (S (T 1 (S (g [5] [m 10 8,m 5 10]) (A [16] [m 11 1,m 12 0,m 13 5,a 14 12 13 5,L 15 14 5,o 16 (.dyn (.t 11) [.t 15])] 16 (F [4] [m 17 5,m 4 17]) W))) (g [8] [i 18 .add 8 1,m 8 18])))
def SO:=S (g [4] [K 4 0]) (S (S (g [7,8] [m 6 0,n 7 6,K 8 0]) (T 0 (M n6))) (F [4] [K 4 (-1)]))
def ac9:=h 19 2 [0,1,4,5,7,8,9,16] [.tmp 4] SO
@[simp]def SP:=g [26] [m 21 5,o 22 (.bin false .gtr (.t 21) (.k (.int .u64 0))),m 23 22,mF 24 6 23,G 25 (.bin false .gtr (.t 24) (.k (.int .u64 9223372036854775807))) 23 false,Y 26 23 25]
def yf:=S (A [37] [m 34 8,m 35 7,n 36 35,z 37 .lss 34 36] 37 W (X 0)) (T 1 (d [8] [r 1 (m 39 7),r 2 (m 40 8),r 3 (o 41 (.slc (.t 39) (some (.t 40)) none none 1)),r 4 (m 42 7),r 5 (m 43 8),r 6 (o 44 (.slc (.t 42) none (some (.t 43)) none 1)),u 7 (o 45 (.cpy 1 (.t 41) (.t 44))),r 0 (m 38 8)] [z 46 .add 38 45,m 8 46]))
def Ng:=S (g [4] [Q 4]) (S (A [10] [m 9 1,i 10 .lss 9 0] 10 (g [] [o 11 .bad,e .bad]) W) (S (g [5,6] [m 13 0,n 14 13,o 15 (.cnv .u64 (.t 14)),m 16 1,o 17 (.cnv .u64 (.t 16)),C 18 226 15 17,m 12 18,x 19 12 0,x 20 12 1,m 5 19,m 6 20]) (S (S SP (I 26 (g [] [o 27 .bad,e .bad]) W)) (S (g [7] [m 28 6,o 29 (.cnv .i64 (.t 28)),o 30 (.mks 1 17592186044416 [.int .i64 0] (.t 29) (.t 29)),m 7 30]) (S (g [8] [m 31 7,m 32 0,o 33 (.cpy 1 (.t 31) (.t 32)),m 8 33]) (S (T 0 (M yf)) (F [4] [m 47 7,m 4 47])))))))
def ada:=h0 48 2 [0,1,4,5,6,7,8,10,26,37] [.tmp 4] Ng
def rq:=S (g [20] [z 20 .lss 19 18]) (S (I 20 W (X 0)) (S (T 1 (S (g [9] [a 21 17 19 5,L 22 21 5,o 9 (.alloc [.int .i64 0,.int .i64 0,.int .u8 0,.int .i64 0,.int .i64 0]),s 5 9 22]) (S (A [27] [l 23 1,f 24 9 4,l 25 24,a 26 23 25 1,l 27 26] 27 (g [] [e (.st 1 (.t 3) (.k (.bool true)))]) (A [33] [l 28 4,f 29 9 4,l 30 29,a 31 28 30 1,l 32 31,i 33 .lss 32 0] 33 (g [] [l 34 5,f 35 9 4,l 36 35,o 37 (.dyn (.t 34) [.t 36])]) W)) (A [38] [l 38 3] 38 R W)))) (g [19] [i 39 .add 19 1,m 19 39])))
def SQ:=S (g [] [l 10 1,m 11 0,a 12 10 11 1,e (.st 1 (.t 12) (.k (.bool true)))]) (S (S (g [17,18,19] [f 13 2 0,l 14 13,m 15 0,a 16 14 15 1,l 17 16,n 18 17,K 19 0]) (T 0 (M rq))) (d [] [w 5 (L 45 2 2) 0 0,r 6 (m 46 0),w 7 (l 47 4) 0 0,u 8 (J 48 219 45 46 47),w 4 (l 44 6) 0 1,u 9 (C 49 218 44 48),w 0 (l 40 1) 0 2,r 1 (m 41 0),r 10 (a 50 40 41 1),u 11 (e (.st 1 (.t 50) (.k (.bool false)))),w 2 (l 42 4) 0 3,r 3 (m 43 0)] [a 51 42 43 1,s 1 51 49]))
def adb:=h0 52 7 [0,1,2,3,4,5,6,9,17,18,19,20,27,33,38] [] SQ
def J6:=S (g [4] [K 4 0]) (S (g [5,6] [m 8 0,m 9 1,o 10 (.lkp ⟨false,[2]⟩ (.t 8) (.t 9) (.int .i64 0) true),m 7 10,x 11 7 0,x 12 7 1,m 5 11,m 6 12]) (S (A [14] [m 13 6,N 14 13] 14 (S (g [5] [m 15 0,o 16 (.len 2 (.t 15)),m 5 16]) (g [] [m 17 0,m 18 1,m 19 5,e (.mup ⟨false,[2]⟩ (.t 17) (.t 18) (.t 19))])) W) (F [4] [m 20 5,m 4 20])))
def ade:=h0 21 2 [0,1,4,5,6,14] [.tmp 4] J6
def yg:=S (g [50] [z 50 .lss 49 48]) (S (I 50 W (X 2)) (S (T 3 (S (g [11] [a 51 47 49 1,l 52 51,m 11 52]) (S (g [] [o 53 (.call 135 [.t 7,.k (.int .u8 32)])]) (g [] [m 54 11,c 55 220 54,C 56 207 7 55])))) (g [49] [i 57 .add 49 1,m 49 57])))
def yh:=S (g [26] [z 26 .lss 25 24]) (S (I 26 W (X 0)) (S (T 1 (S (g [9] [a 27 23 25 5,L 28 27 5,o 9 (.alloc [.int .i64 0,.int .i64 0,.int .u8 0,.int .i64 0,.int .i64 0]),s 5 9 28]) (S (d [47,48,49] [r 0 (f 29 9 0),r 1 (f 30 29 0),w 2 (l 31 30) 0 0,r 3 (f 32 9 0),r 4 (f 33 32 1),w 5 (l 34 33) 0 0,r 6 (f 35 9 0),r 7 (f 36 35 2),w 8 (l 37 36) 0 0,r 9 (o 38 (.cnv .i64 (.t 37))),r 10 (f 39 9 0),r 11 (f 40 39 3),w 12 (l 41 40) 0 0,r 13 (m 42 2),r 14 (f 43 9 4),w 15 (l 44 43) 0 0,r 16 (a 45 42 44 1),w 17 (l 46 45) 0 0,u 18 (o 47 (.bsl 1 [.t 31,.t 34,.t 38,.t 41,.t 46])),w 19 (n 48 47) 1 1,r 20 (K 49 0)] []) (T 2 (M yg))))) (g [25] [i 58 .add 25 1,m 25 58])))
def XI:=S (g [3,6] [b 3 0,o 6 (.mv (.k (.str [])))]) (S (g [7] [o 7 (.alb 211 [.dZ,.ai])]) (S (g [] [f 12 3 1,l 13 12,m 14 1,a 15 13 14 1,l 16 15,c 17 227 16,C 18 207 7 17]) (S (S (g [23,24,25] [f 19 3 0,l 20 19,m 21 1,a 22 20 21 1,l 23 22,n 24 23,K 25 0]) (T 0 (M yh))) (F [6] [c 59 136 7,m 6 59]))))
def adf:=h 60 3 [0,1,2,3,6,7,9,11,23,24,25,26,47,48,49,50] [.tmp 6] XI
def XJ:=S (g [2] [o 2 (.mv (.k (.str [])))]) (F [2] [m 3 0,c 4 228 3,m 2 4])
def adg:=h 5 1 [0,2] [.tmp 2] XJ
def Fy:=S (g [5] [K 5 0]) (S (d [6,7] [w 0 (l 9 1) 0 0,w 1 (l 10 2) 0 0,r 2 (m 11 0),r 3 (a 12 10 11 1),w 4 (l 13 12) 0 0,w 5 (o 14 (.lkp ⟨false,[0]⟩ (.t 9) (.t 13) (.int .i64 0) true)) 0 0,r 6 (m 8 14),r 7 (x 15 8 0),r 8 (x 16 8 1),r 9 (m 6 15)] [m 7 16]) (S (A [18] [m 17 7,N 18 17] 18 (S (g [6] [l 19 3,n 20 19,m 6 20]) (S (d [] [w 0 (l 21 1) 0 0,w 1 (l 22 2) 0 0,r 2 (m 23 0),r 3 (a 24 22 23 1),w 4 (l 25 24) 0 0,r 5 (m 26 6)] [e (.mup ⟨false,[0]⟩ (.t 21) (.t 25) (.t 26))]) (g [] [l 27 3,m 28 0,q 29 1 28,p 30 1 17592186044416 27 29,s 1 3 30]))) W) (F [5] [m 31 6,m 5 31])))
def adh:=h0 32 4 [0,1,2,3,5,6,7,18] [.tmp 5] Fy
@[simp]def SR:=g [15] [m 5 1,L 6 2 5,c 7 229 6,o 8 (.dyn (.t 5) [.t 7]),N 9 8,m 10 9,fF 11 2 2 10,fF 12 11 0 10,lF 13 12 10,NF 14 13 10,Y 15 10 14]
def yi:=S (g [20] [z 20 .lss 19 18]) (S (I 20 W (X 0)) (S (T 1 (S (g [4] [m 21 19,m 4 21]) (A [27] [m 22 1,L 23 2 5,m 24 4,C 25 230 23 24,o 26 (.dyn (.t 22) [.t 25]),N 27 26] 27 R W))) (g [19] [i 28 .add 19 1,m 19 28])))
def J7:=S (g [2] [b 2 0]) (S (S SR (I 15 R W)) (S (g [18,19] [f 16 2 2,f 17 16 1,l 18 17,K 19 0]) (T 0 (M yi))))
def adi:=h0 29 2 [0,1,2,4,15,18,19,20,27] [] J7
def XK:=S (g [2,3,4] [o 2 (.box (.t 0)),o 3 (.box (.t 1)),o 4 (.mv (.k .gU))]) (F [4] [o 5 (.mkf 231 [] [.t 2,.t 3]),m 4 5])
def adj:=h 6 2 [0,1,2,3,4] [.tmp 4] XK
def XL:=S (g [2] [Z 2]) (F [2] [m 3 0,m 4 0,z 5 .neq 3 4,m 2 5])
def adk:=h 6 1 [0,2] [.tmp 2] XL
def XM:=S (g [2] [Z 2]) (F [2] [m 3 0,m 4 0,z 5 .neq 3 4,m 2 5])
def adl:=h 6 1 [0,2] [.tmp 2] XM
def adm:=S (g [4,5] [o 4 (.mv (.k (.int .u64 0))),o 5 (.mv (.k (.int .u64 0)))]) (S (.cond (.k (.bool false)) (S (g [6,7] [m 11 0,o 12 (.cnv .u32 (.t 11)),m 13 1,o 14 (.cnv .u32 (.t 13)),C 15 233 12 14,m 10 15,x 16 10 0,x 17 10 1,m 6 16,m 7 17]) (F [4,5] [m 18 6,o 19 (.cnv .u64 (.t 18)),m 20 7,o 21 (.cnv .u64 (.t 20)),m 4 19,m 5 21])) W) (S (g [8,9] [m 23 0,m 24 1,C 25 234 23 24,m 22 25,x 26 22 0,x 27 22 1,m 8 26,m 9 27]) (F [4,5] [m 28 8,m 29 9,m 4 28,m 5 29])))
def f226:=h 30 2 [0,1,4,5,6,7,8,9] [.tmp 4,.tmp 5] adm
def XN:=S (g [2] [o 2 (.mv (.k (.str [])))]) (F [2] [m 3 0,c 4 235 3,m 2 4])
def adn:=h 5 1 [0,2] [.tmp 2] XN
def XO:=S (g [2] [o 2 (.mv (.k (.str [])))]) (F [2] [m 3 0,o 4 (.call 236 [.t 3,.k (.int .i64 10)]),m 2 4])
def ado:=h 5 1 [0,2] [.tmp 2] XO
def XP:=S (g [1,2] [b 1 0,o 2 (.alloc [.int .i64 0,.int .i64 0,.int .u8 0,.int .i64 0])]) (F [] [f 3 1 0,l 4 3,f 5 1 1,l 6 5,o 7 (.build [.x (.t 4) 1,.x (.t 6) 1,.x (.k (.int .u8 1)) 1,.z [.int .i64 0]]),s 4 2 7])
def adp:=h 8 1 [0,1,2] [.cell 2 (some 4)] XP
def XQ:=S (g [2,4] [b 2 0,o 4 (.alloc [.int .i64 0,.int .i64 0,.int .u8 0,.int .i64 0])]) (F [] [f 5 2 0,l 6 5,f 7 2 1,l 8 7,m 9 1,o 10 (.build [.x (.t 6) 1,.x (.t 8) 1,.x (.k (.int .u8 2)) 1,.x (.t 9) 1]),s 4 4 10])
def adq:=h 11 2 [0,1,2,4] [.cell 4 (some 4)] XQ
@[simp]def SS:=g [13] [f 5 1 4,l 6 5,m 7 6,mT 8 0 7,LT 9 1 5 7,G 10 (.call 232 [.t 9,.k (.int .i64 (-1))]) 7 true,G 11 (.dyn (.t 8) [.t 10]) 7 true,NT 12 11 7,y 13 7 12]
def rr:=S (g [16] [z 16 .lss 15 14]) (S (I 16 W (X 0)) (S (T 1 (S (g [4] [m 17 15,m 4 17]) (A [23] [m 18 0,L 19 1 5,m 20 4,C 21 232 19 20,o 22 (.dyn (.t 18) [.t 21]),N 23 22] 23 R W))) (g [15] [i 24 .add 15 1,m 15 24])))
def J8:=S (S SS (I 13 R W)) (S (g [14,15] [l 14 2,K 15 0]) (T 0 (M rr)))
def adr:=h0 25 3 [0,1,2,4,13,14,15,16,23] [] J8
def XR:=S (g [2,4] [b 2 0,o 4 (.alloc [.int .i64 0,.int .i64 0,.int .u8 0,.int .i64 0])]) (F [] [f 5 2 0,l 6 5,f 7 2 1,l 8 7,m 9 1,o 10 (.build [.x (.t 6) 1,.x (.t 8) 1,.x (.k (.int .u8 3)) 1,.x (.t 9) 1]),s 4 4 10])
def ads:=h 11 2 [0,1,2,4] [.cell 4 (some 4)] XR
def adt:=S (g [4,5] [o 4 (.mv (.k (.int .u32 0))),o 5 (.mv (.k (.int .u32 0)))]) (S (g [6] [m 7 0,o 8 (.cnv .u64 (.t 7)),m 9 1,o 10 (.cnv .u64 (.t 9)),z 11 .mul 8 10,m 6 11]) (F [4,5] [m 12 6,o 13 (.bin false .shr (.t 12) (.k (.int .u64 32))),o 14 (.cnv .u32 (.t 13)),m 15 6,o 16 (.cnv .u32 (.t 15)),m 4 14,m 5 16]))
def adu:=h 17 2 [0,1,4,5,6] [.tmp 4,.tmp 5] adt
def adv:=S (g [4,5] [o 4 (.mv (.k (.int .u64 0))),o 5 (.mv (.k (.int .u64 0)))]) (S (g [6] [m 14 0,o 15 (.bin false .and (.t 14) (.k (.int .u64 4294967295))),m 6 15]) (S (g [7] [m 16 0,o 17 (.bin false .shr (.t 16) (.k (.int .u64 32))),m 7 17]) (S (g [8] [m 18 1,o 19 (.bin false .and (.t 18) (.k (.int .u64 4294967295))),m 8 19]) (S (g [9] [m 20 1,o 21 (.bin false .shr (.t 20) (.k (.int .u64 32))),m 9 21]) (S (g [10] [m 22 6,m 23 8,z 24 .mul 22 23,m 10 24]) (S (g [11] [m 25 7,m 26 8,z 27 .mul 25 26,m 28 10,o 29 (.bin false .shr (.t 28) (.k (.int .u64 32))),z 30 .add 27 29,m 11 30]) (S (g [12] [m 31 11,o 32 (.bin false .and (.t 31) (.k (.int .u64 4294967295))),m 12 32]) (S (g [13] [m 33 11,o 34 (.bin false .shr (.t 33) (.k (.int .u64 32))),m 13 34]) (S (g [12] [m 35 12,m 36 6,m 37 9,z 38 .mul 36 37,z 39 .add 35 38,m 12 39]) (S (g [4] [m 40 7,m 41 9,z 42 .mul 40 41,m 43 13,z 44 .add 42 43,m 45 12,o 46 (.bin false .shr (.t 45) (.k (.int .u64 32))),z 47 .add 44 46,m 4 47]) (F [5] [m 48 0,m 49 1,z 50 .mul 48 49,m 5 50])))))))))))
def adw:=h 51 2 [0,1,4,5,6,7,8,9,10,11,12,13] [.tmp 4,.tmp 5] adv
def XS:=S (g [2] [o 2 (.mv (.k (.str [])))]) (S (A [3] [m 3 0] 3 (F [2] [o 2 (.mv (.k (.str [116,114,117,101])))]) W) (F [2] [o 2 (.mv (.k (.str [102,97,108,115,101])))]))
def adx:=h 4 1 [0,2,3] [.tmp 2] XS
abbrev H:Tr HF:=.lf
abbrev D(f:HF):Tr HF:=.nd (some f) .lf .lf
abbrev E(f:HF)(l r:Tr HF):Tr HF:=.nd (some f) l r
abbrev B(l r:Tr HF):Tr HF:=.nd none l r
def DA:Tr HF:=B (B (B (B (E f15 (E f31 (E f63 (D ab6) (D acS)) (E f95 (D acq) (D adj))) (E f47 (B H (D ac1)) (E abQ (D acE) H))) (E f23 (B (B (D ab8) (D f199)) (B (D acz) (D adr))) (B (E f87 (D ack) (D ac9)) (D abY)))) (B (E f19 (B (E f67 (D f131) (D f195)) (B (D acv) (D adn))) (B (E f83 (D acg) (D ac5)) (E abU (D acI) H))) (B (B (E f75 (D aca) (D f203)) (E abO (D f171) (D adx))) (E f59 (E f91 H (D adf)) (E ab2 (D acO) H))))) (B (E f9 (E f17 (B (E f65 (D f129) (D acU)) (B (D acs) (D adl))) (E f49 (B (D ace) (D ac3)) (E abS (D acG) H))) (E f25 (B (B H (D f201)) (E abM (D f169) (D adu))) (E f57 (E f89 (D acn) (D adb)) (D ab0)))) (E f13 (B (B (E f69 (D f133) (D acX)) (B (D acx) (D adp))) (B (E f85 (D aci) (D ac7)) (E abW (D acK) H))) (E f29 (E f45 (B (D acd) (D acZ)) (B (D acC) H)) (E f61 (B (D f157) (D adh)) (E ab4 (D acQ) H)))))) (B (B (B (B (E f32 (B (D ab7) (D acT)) (E f96 (D acr) (D adk))) (E f48 (B H (D ac2)) (E abR (D acF) H))) (E f24 (B (B H (D f200)) (E abL (D f168) (D ads))) (E f56 (E f88 (D acm) (D ada)) (E abZ (D acM) H)))) (B (B (B (E f68 (D f132) (D acW)) (B (D acw) (D ado))) (B (E f84 (D ach) (D ac6)) (E abV (D acJ) H))) (E f28 (E f44 (E f76 (D acb) (D f204)) (E abP (D acB) H)) (E f60 (B (D acp) (D adg)) (E ab3 (D acP) H))))) (E f6 (E f10 (E f18 (B (E f66 (D f130) (D acV)) (B (D acu) (D f226))) (E f50 (E f82 (D acf) (D ac4)) (E abT (D acH) H))) (E f26 (B (B (D ab9) (D f202)) (E abN (D acA) (D adw))) (B (E f90 (D aco) (D ade)) (E ab1 (D acN) H)))) (E f14 (B (B (B (D f134) (D acY)) (B (D acy) (D adq))) (B (E f86 (D acj) (D ac8)) (E abX (D acL) H))) (E f30 (E f46 (B (D f142) (D ac0)) (B (D acD) H)) (E f62 (E f94 H (D adi)) (E ab5 (D acR) H))))))
def prog(k:Nat):Option HF:=fP DA k
abbrev P:=Go.Proofs.Tryz.prog
def vW:vz (λk F=>pD Go.Proofs.Tryz.prog k F=true) DA:=Mm.get _ _ (by kernel_rfl)
end Go.Proofs.YtclepinjnoiakaaGreatDoor.K.Hm.U
namespace Go.Proofs.YtclepinjnoiakaaGreatDoor.K.Hm
open Go
def oL(p:aG):Prop:=∃n,∀m,n<=m->p m
def oL.of{p:aG}(h:∀m,p m):oL p:=⟨0,λm _=>h m⟩
def oL.mono{p q:aG}(h:oL p)(a:∀m,p m->q m):oL q:=let⟨n,h⟩:=h;⟨n,λm b=>a m (h m b)⟩
def oL.and{p q:aG}(h:oL p)(k:oL q):oL λm=>p m/\q m:=let⟨a,h⟩:=h;let⟨b,k⟩:=k;⟨max a b,λm c=>⟨h m (by omega),k m (by omega)⟩⟩
def Good:Out->Prop
 |.bad _=>False
 |_=>True
def Conv(F:Nat->Task->Out)(ih:Task->Out):Prop:=∀t o,ih t=o->Good o->oL λm=>F m t=o
section conv
variable{F:Nat->Task->Out}{ih:Task->Out}
def eG(K:Nat->En->HS->Out)(k:En->HS->Out):Prop:=∀e s o,k e s=o->Good o->oL λm=>K m e s=o
def Conv.val(c:Conv F ih){t:Task}{f:Nat->HV->HS->Out}{g:HV->HS->Out}{d:Nat}{o:Out}(i:∀v s o,g v s=o->Good o->oL λm=>f m v s=o)(h:(ih t).oz g (.bad d)=o)(b:Good o):
  oL λm=>(F m t).oz (f m) (.bad d)=o:=by
 cases a:ih t with|val v s=>rw[a]at h;exact((c t _ a trivial).and (i v s o h b)).mono λm ⟨j,k⟩=>by rw[j];exact k|code x e s=>rw[a]at h;subst h;exact b.elim|bad w=>rw[a]at h;subst h;exact b.elim
def DB(i:Conv F ih){K:Nat->En->HS->Out}{k:En->HS->Out}(b:eG K k)(op:aU)(e:En)(s:HS){o:Out}(h:one ih op e s k=o)(a:Good o):oL λm=>one (F m) op e s (K m)=o:=by
 unfold one at h ⊢;cases j:kX e op.g with
 |none=>rw[j]at h;subst h;exact a.elim
 |some q=>
  rw[j]at h;cases q with
  |false=>exact b _ _ _ h a
  |true=>simp only[bU]at h ⊢;cases c:cO op.op e s with|v v s'=>rw[c]at h;exact b _ _ _ h a|bad=>rw[c]at h;subst h;exact a.elim|call f l=>rw[c]at h;exact i.val (f:=λm v s'=>K m (e.put op.d v) s') (λv s o h a=>b _ _ _ h a) h a|round f l=>rw[c]at h;exact i.val (f:=λm v s'=>K m (e.put op.d v) s') (λv s o h a=>b _ _ _ h a) h a
def sg(a:Conv F ih){K:Nat->En->HS->Out}{k:En->HS->Out}(b:eG K k):∀(l:List aU),eG (λm=>mA (F m) (K m) l) (mA ih k l)
 |[]=>b
 |op::l=>λe s o h c=>DB a (sg a b l) op e s h c
def AG(hc:Conv F ih){K:Nat->En->HS->List HS->Out}{k:En->HS->List HS->Out}(hk:∀vs,eG (λm e s=>K m e s vs) (λe s=>k e s vs)):∀(l:List dW) (vs:List HS),eG (λm e s=>kY (F m) (K m) l e s vs) (λe s=>kY ih k l e s vs)
 |[],vs=>hk vs
 |d::l,vs=>λe s o h ho=>DB hc (K:=λm e' s'=>kY (F m) (K m) l e' s' (DK.rec (motive:=λ_=>List HS) vs (λ_ _=>vs) (vs++[s']) (vs++[s']) d.k)) (k:=λe' s'=>kY ih k l e' s' (DK.rec (motive:=λ_=>List HS) vs (λ_ _=>vs) (vs++[s']) (vs++[s']) d.k))
   (λe' s' o' b a=>AG hc hk l _ e' s' o' b a) d.o e s h ho
def eG.same(k:En->HS->Out):eG (λ_=>k) k:=λ_ _ _ h _=>oL.of λ_=>h
def DC(i:Conv F ih)(outs:ay)(main:List dW)(a:List aU):eG (λm=>Ox (F m) outs main a) (Ox ih outs main a):=by
 intro f s o h g;refine AG i (K:=λm e s' c=>gP (cd e c main) (mA (F m) (λd b=>.code .normal (gX outs d f) b) a e s') (.bad 14)) (k:=λe s' c=>gP (cd e c main) (mA ih (λd b=>.code .normal (gX outs d f) b) a e s') (.bad 14)) (λc e s' o h g=>?_) main [s] f s o h g;have h:gP (cd e c main) (mA ih (λd b=>.code .normal (gX outs d f) b) a e s') (.bad 14)=o:=h;show oL λm=>gP (cd e c main) (mA (F m) (λd b=>.code .normal (gX outs d f) b) a e s') (.bad 14)=o
 cases j:cd e c main with|false=>rw[j]at h;subst h;exact g.elim|true=>rw[j]at h;exact sg i (eG.same _) a e s' o h g
def AH(d:Conv F ih)(x:X)(ps:ay)(jl body:HC):eG (λm=>lK (F m) x ps jl body) (lK ih x ps jl body):=by
 intro e s o h c;unfold lK at h
 split at h
 .rename_i f a b g
  split at h
  .rename_i v s2 i;refine(d _ _ i trivial).mono λm j=>?_
   show lK (F m) x ps jl body e s=o;unfold lK;rw[g];simp only[j];exact h
  subst h;exact c.elim
 subst h;exact c.elim
def gi{A:Nat->Out}{a:Out}{K:Nat->En->HS->Out}{k:En->HS->Out}(d:∀o,a=o->Good o->oL λm=>A m=o)(g:eG K k){o:Out}(h:a.ch k=o)(f:Good o):oL λm=>(A m).ch (K m)=o:=by
 cases b:a with
 |val v s=>rw[b]at h;subst h;exact(d _ b trivial).mono λm c=>by rw[c];rfl
 |bad w=>rw[b]at h;subst h;exact f.elim
 |code x e s=>rw[b]at h;cases x with|normal=>exact((d _ b trivial).and (g e s o h f)).mono λm ⟨j,n⟩=>by rw[j];exact n|ret=>subst h;exact(d _ b trivial).mono λm c=>by rw[c];rfl|exit i=>subst h;exact(d _ b trivial).mono λm c=>by rw[c];rfl
def AI{A B:Nat->En->HS->Out}{a b:En->HS->Out}(f:eG A a)(g:eG B b)(x:X):eG (λm e s=>bU (bq x e) (λv=>v.asBool (A m e s) (B m e s) (.bad 8)) (.bad 8)) (λe s=>bU (bq x e) (λv=>v.asBool (a e s) (b e s) (.bad 8)) (.bad 8)):=by
 intro e s o h c;have h:bU (bq x e) (λv=>v.asBool (a e s) (b e s) (.bad 8)) (.bad 8)=o:=h;show oL λm=>bU (bq x e) (λv=>v.asBool (A m e s) (B m e s) (.bad 8)) (.bad 8)=o
 cases d:bq x e with
 |none=>rw[d]at h;subst h;exact c.elim
 |some v=>
  rw[d]at h;cases v<;>first|(subst h;exact c.elim)|skip
  rename_i q;cases q with|true=>exact f e s o h c|false=>exact g e s o h c
def gz(i:Nat)(o:Out):Out:=Out.rec (motive:=λ_=>Out) (λ_ _=>.bad 9) (λx e' s'=>Ex.rec (motive:=λ_=>Out) (.code .normal e' s') (.code .ret e' s') (λj=>gP (Nat.beq i j) (.code .normal e' s') (.code (.exit j) e' s')) x) (λw=>.bad w) o
def DD{A:Nat->En->HS->Out}{a:En->HS->Out}(d:eG A a)(i:Nat):eG (λm e s=>gz i (A m e s)) (λe s=>gz i (a e s)):=by
 intro e s o h c;have h:gz i (a e s)=o:=h;show oL λm=>gz i (A m e s)=o
 cases b:a e s with|val v s1=>rw[b]at h;subst h;exact c.elim|bad w=>rw[b]at h;subst h;exact c.elim|code x e1 s1=>rw[b]at h;exact(d e s _ b trivial).mono λm f=>by rw[f];exact h
def vX(p:Conv F ih):∀(c:HC),eG (λm=>ev (F m) c) (ev ih c):=by
 intro c
 induction c with|skip=>exact eG.same _|ret=>exact eG.same _|exit i=>exact eG.same _|seq a b d f=>exact λe s o h g=>gi (d e s) f h g|cond x a b d f=>exact AI d f x|block i c j=>exact DD j i|loop c j=>exact λe s o h g=>gi (j e s) (λe s o h g=>p _ o h g) h g|rg outs l=>exact λe s o h g=>sg p (eG.same _) l e s o h g|LZ outs main k=>exact DC p outs main k|rf x ps jl body _ _=>exact AH p x ps jl body|LO r=>exact eG.same _|Pb t q n=>exact eG.same _|gh u=>exact eG.same _
def yj(p:Conv F ih):∀(c:HC),eG (λm=>bK (F m) c) (bK ih c):=by
 intro c
 induction c with|skip=>exact eG.same _|ret=>exact eG.same _|exit i=>exact eG.same _|seq a b d f=>exact λe s o h g=>gi (d e s) f h g|cond x a b d f=>exact AI d f x|block i c j=>exact DD j i|loop c j=>exact λe s o h g=>gi (j e s) (λe s o h g=>p _ o h g) h g|rg outs l=>exact λe s o h g=>sg p (eG.same _) l e s o h g|LZ outs main k=>exact DC p outs main k|rf x ps jl body _ _=>exact AH p x ps jl body|LO r=>exact eG.same _|Pb t q n=>exact eG.same _|gh u=>exact eG.same _
def AJ(f:Conv F ih)(G:HF)(args:ak){v:HV}(h:jo G ih args=some v):oL λm=>jo G (F m) args=some v:=by
 unfold jo at h ⊢;cases d:Nat.beq (aM args) G.np with
 |false=>rw[d]at h;cases h
 |true=>
  rw[d]at h;simp only[gP]at h ⊢;cases a:bK ih G.c (bn args 0) s0 with
  |val v s=>rw[a]at h;cases h
  |bad w=>rw[a]at h;cases h
  |code x e s=>
   rw[a]at h;refine(yj f G.c _ _ _ a trivial).mono λm b=>?_
   have b:bK (F m) G.c (bn args 0) s0=.code x e s:=b;rw[b];exact h
def Fz(f:Conv F ih)(G:HF)(args:ak){v:HV}(h:jo G ih args=some v):oL λm=>gq G (F m) args=gq G ih args:=by
 unfold jo at h;unfold gq;cases d:Nat.beq (aM args) G.np with
 |false=>rw[d]at h;cases h
 |true=>
  rw[d]at h;simp only[gP]at h;cases a:bK ih G.c (bn args 0) s0 with
  |val v s=>rw[a]at h;cases h
  |bad w=>rw[a]at h;cases h
  |code x e s=>
   refine(yj f G.c _ _ _ a trivial).mono λm b=>?_
   have b:bK (F m) G.c (bn args 0) s0=.code x e s:=b;rw[b]
def zQ(c:Conv F ih)(G:HF)(args:ak)(s:HS){o:Out}(h:bW G ih args s=o)(d:Good o):oL λm=>bW G (F m) args s=o:=by
 unfold bW at h ⊢;cases j:cC args with
 |true=>rw[j]at h;simp only[cond_true]at h ⊢;generalize(bif du args then args else oN args)=a at h ⊢;cases b:jo G ih a with|none=>rw[b]at h;subst h;exact d.elim|some v=>rw[b]at h;exact(AJ c G a b).mono λm f=>by rw[f];exact h
 |false=>
  rw[j]at h;simp only[cond_false]at h ⊢
  split at h
  .rename_i l t k;cases b:jo G ih l with|none=>rw[b]at h;subst h;exact d.elim|some v=>rw[b]at h;have g:=Fz c G l b;exact((AJ c G l b).and g).mono λm ⟨f,i⟩=>by rw[f,i];exact h
  subst h;exact d.elim
def zR(g:Conv F ih)(G:HF)(args:ak)(s:HS){o:Out}(h:dD G ih args s=o)(b:Good o):oL λm=>dD G (F m) args s=o:=by
 unfold dD at h ⊢;cases f:Nat.beq (aM args) G.np with
 |false=>rw[f]at h;subst h;exact b.elim
 |true=>
  rw[f]at h;simp only[gP]at h ⊢;cases a:ev ih G.c (bn args 0) s with
  |val v s=>rw[a]at h;subst h;exact b.elim
  |bad w=>rw[a]at h;subst h;exact b.elim
  |code x e s'=>
   rw[a]at h;refine(vX g G.c _ _ _ a trivial).mono λm d=>?_
   have d:ev (F m) G.c (bn args 0) s=.code x e s':=d;rw[d];exact h
def yk(q:Conv F ih)(l:Ky)(args:ak)(s:HS){o:Out}(h:gH ih l args s=o)(c:Good o):oL λm=>gH (F m) l args s=o:=by
 unfold gH at h
 split at h
 case h_2=>subst h;exact c.elim
 rename_i u y e ps jl body k;cases hlen:Nat.beq (aM args) (aM ps)with
 |false=>rw[hlen]at h;subst h;exact c.elim
 |true=>
 rw[hlen,cond_true]at h
 split at h
 case h_2=>subst h;exact c.elim
 rename_i e1 s1 f
 split at h
 case h_2=>subst h;exact c.elim
 rename_i z r t g b a i;cases d:Nat.beq z 0 with
 |false=>rw[d]at h;subst h;exact c.elim
 |true=>
 rw[d,cond_true]at h;cases j:ev ih body e1 (s1.aK l (.loop 2 r t g b a))with
 |val v s=>rw[j]at h;subst h;exact c.elim
 |bad w=>rw[j]at h;subst h;exact c.elim
 |code x e2 s2=>
  rw[j]at h;refine((vX q jl _ _ _ f trivial).and (vX q body _ _ _ j trivial)).mono λm ⟨n,p⟩=>?_
  have n:ev (F m) jl (oQ e ps args) s=.code .normal e1 s1:=n;have p:ev (F m) body e1 (s1.aK l (.loop 2 r t g b a))=.code x e2 s2:=p;unfold gH;rw[k];simp only[hlen,cond_true,n,i,d,p];exact h
def tO{L:jx}{P:Nat->Option HF}(d:Conv F ih)(t:Task){o:Out}(h:step L P ih t=o)(a:Good o):oL λm=>step L P (F m) t=o:=by
 cases t with
 |call f args s=>
  have h:sQ L f args s (bu P ih f args s)=o:=h;show oL λm=>sQ L f args s (bu P (F m) f args s)=o
  unfold sQ at h ⊢;cases i:Nat.beq f L.dx with
  |true=>rw[i]at h;exact oL.of λ_=>h
  |false=>
  cases k:Nat.beq f L.str with
  |true=>rw[i,k]at h;exact oL.of λ_=>h
  |false=>
  cases p:Nat.beq f L.fmt with
  |true=>rw[i,k,p]at h;exact oL.of λ_=>h
  |false=>
   rw[i,k,p]at h;cases b:(bU L.vI (λt=>Nat.beq f t) false)with
   |true=>
    cases j:L.vI with
    |none=>rw[j]at b;cases b
    |some t=>rw[j]at h b;simp only[bU]at h b ⊢;rw[b]at h ⊢;exact oL.of λ_=>h
   |false=>
   have q:∀K:Out,bU L.vI (λt=>bif Nat.beq f t then lQ args s else iq L f args s K) (iq L f args s K)=iq L f args s K:=by intro K;cases j:L.vI with|none=>rfl|some t=>rw[j]at b;simp only[bU]at b ⊢;rw[b];rfl
   simp only[cond_false]at h ⊢;rw[q]at h;simp only[q];rcases Ae L f args s with n|⟨_,rfl,n⟩
   case inr=>simp only[n]at h ⊢;exact oL.of λ_=>h
   simp only[n]at h ⊢;have h:bu P ih f args s=o:=h;show oL λm=>bu P (F m) f args s=o
   unfold bu at h ⊢;cases r:P f with
   |none=>rw[r]at h;subst h;exact a.elim
   |some G=>
    rw[r]at h;have h:(bif G.pu then bW G ih args s else dD G ih args s)=o:=h;show oL λm=>(bif G.pu then bW G (F m) args s else dD G (F m) args s)=o
    cases g:G.pu with|true=>rw[g]at h;exact zQ d G args s h a|false=>rw[g]at h;exact zR d G args s h a
 |round l args s=>exact yk d l args s h a
 |loop c e s=>exact gi (vX d c e s) (λe s o h a=>d _ o h a) h a
 |oP c e s=>exact gi (yj d c e s) (λe s o h a=>d _ o h a) h a
end conv
section XT
variable{L:jx}{P:Nat->Option HF}
def J9(n:Nat)(t:Task)(h:Good (run L P n t)):run L P (n+1) t=run L P n t:=by
 induction n generalizing t with
 |zero=>exact h.elim
 |succ n ih=>
  have a:Conv (λ_=>run L P (n+1)) (run L P n):=λt o h b=>oL.of λ_=>by subst h;exact ih t b
  obtain⟨k,c⟩:=tO (L:=L) (P:=P) a t (o:=run L P (n+1) t) rfl h;exact c k (aY _)
def yl{n m:Nat}(a:n<=m){t:Task}(h:Good (run L P n t)):run L P m t=run L P n t:=by induction a with|refl=>rfl|step a ih=>rw[<-ih];exact J9 _ t (by rw[ih];exact h)
open Classical in
def ea(L:jx)(P:Nat->Option HF)(t:Task):Out:=if h:∃n,Good (run L P n t)then run L P h.choose t else .bad 0
def B5{n:Nat}{t:Task}(h:Good (run L P n t)):ea L P t=run L P n t:=by
 have a:∃n,Good (run L P n t):=⟨n,h⟩;unfold ea;rw[dif_pos a];rcases Nat.le_total n a.choose with b|b
 .exact yl b h
 exact(yl b a.choose_spec).symm
def DE:Conv (run L P) (ea L P):=by
 intro t o h a;subst h;unfold ea at a ⊢
 split at a
 .rename_i b;rw[dif_pos b];exact⟨b.choose,λm c=>yl c a⟩
 exact a.elim
def dB{t:Task}{o:Out}(h:step L P (ea L P) t=o)(a:Good o):ea L P t=o:=by obtain⟨n,c⟩:=tO DE t h a;have b:run L P (n+1) t=o:=c n (aY _);rw[<-b];exact B5 (by rw[b];exact a)
def ym{t:Task}{o:Out}(h:ea L P t=o)(a:Good o):∃n,run L P n t=o:=by obtain⟨n,b⟩:=DE t o h a;exact⟨n,b n (aY _)⟩
end XT
end Go.Proofs.YtclepinjnoiakaaGreatDoor.K.Hm
namespace Go.Proofs.YtclepinjnoiakaaGreatDoor.K.Hm.S
open Go
section
variable{R:Task->Out}{e:En}{s:HS}
@[simp]def XU:bK R .skip e s=.code .normal e s:=rfl
@[simp]def aay:bK R .ret e s=.code .ret e s:=rfl
@[simp]def XV{i:Nat}:bK R (.exit i) e s=.code (.exit i) e s:=rfl
@[simp]def Nh{a b:HC}:bK R (.seq a b) e s=(bK R a e s).ch (bK R b):=rfl
@[simp]def Vb{i:Nat}{c:HC}:bK R (.block i c) e s=gz i (bK R c e s):=rfl
@[simp]def ady{outs:ay}{l:List aU}:bK R (.rg outs l) e s=mA R (λe' s'=>.code .normal (gX outs e' e) s') l e s:=rfl
@[simp]def aaz{outs:ay}{m:List dW}{t:List aU}:bK R (.LZ outs m t) e s=Ox R outs m t e s:=rfl
@[simp]def adz{x:X}{ps:ay}{a b:HC}:bK R (.rf x ps a b) e s=lK R x ps a b e s:=rfl
@[simp]def adA{k:ay}:bK R (.gh k) e s=bU (canon k e s) (λp=>.code .normal p.1 p.2) (.bad 52):=rfl
@[simp]def aaA{k:ay}:bK R (.LO k) e s=bU (qD s e k) (λp=>.code .normal p.1 p.2) (.bad 50):=rfl
def DF(v:bV)(a b:Out):Out:=bU v (λv=>v.asBool a b (.bad 8)) (.bad 8)
@[simp low]theorem DG{x:X}{a b:HC}:bK R (.cond x a b) e s=DF (bq x e) (bK R a e s) (bK R b e s):=rfl
@[simp]def aaB:ev R .skip e s=.code .normal e s:=rfl
@[simp]def adB:ev R .ret e s=.code .ret e s:=rfl
@[simp]def aaC{i:Nat}:ev R (.exit i) e s=.code (.exit i) e s:=rfl
@[simp]def FB{a b:HC}:ev R (.seq a b) e s=(ev R a e s).ch (ev R b):=rfl
@[simp]def yn{i:Nat}{c:HC}:ev R (.block i c) e s=gz i (ev R c e s):=rfl
@[simp]def ail{outs:ay}{l:List aU}:ev R (.rg outs l) e s=mA R (λe' s'=>.code .normal (gX outs e' e) s') l e s:=rfl
@[simp]def adC{outs:ay}{m:List dW}{t:List aU}:ev R (.LZ outs m t) e s=Ox R outs m t e s:=rfl
@[simp]def aim{x:X}{ps:ay}{a b:HC}:ev R (.rf x ps a b) e s=lK R x ps a b e s:=rfl
@[simp low]theorem vY{x:X}{a b:HC}:ev R (.cond x a b) e s=DF (bq x e) (ev R a e s) (ev R b e s):=rfl
@[simp]def n7{b:Bool}{x y:Out}:DF (some (.bool b)) x y=if b=true then x else y:=by cases b<;>rfl
@[simp]def kF{f:En->HS->Out}:(Out.code .normal e s).ch f=f e s:=rfl
@[simp]def Ni{f:En->HS->Out}:(Out.code .ret e s).ch f=.code .ret e s:=rfl
@[simp]def LR{i:Nat}{f:En->HS->Out}:(Out.code (.exit i) e s).ch f=.code (.exit i) e s:=rfl
@[simp]def SU{i:Nat}:gz i (.code .normal e s)=.code .normal e s:=rfl
@[simp]def aaD{i:Nat}:gz i (.code .ret e s)=.code .ret e s:=rfl
@[simp]def XW{i j:Nat}:gz i (.code (.exit j) e s)=if i=j then .code .normal e s else .code (.exit j) e s:=by
 show(Bool.rec (motive:=λ_=>Out) (Out.code (.exit j) e s) (.code .normal e s) (Nat.beq i j))=_;by_cases h:i=j
 .subst h;simp
 have:Nat.beq i j=false:=by cases hb:Nat.beq i j with|false=>rfl|true=>exact absurd (oA hb) h
 rw[this,aq h]
@[simp]def aaE{p:Prop}[Decidable p]{x y:Out}{i:Nat}:gz i (if p then x else y)=if p then gz i x else gz i y:=by split<;>rfl
@[simp]def Vc{β:Type}{v:HV}{f:HV->HS->β}{d:β}:(Out.val v s).oz f d=f v s:=rfl
@[simp]def dO{α β:Type}{a:α}{f:α->β}{d:β}:bU (some a) f d=f a:=rfl
@[simp]def Ji{α β:Type}{f:α->β}{d:β}:bU none f d=d:=rfl
@[simp]def Ka{β:Type}{b:Bool}{x y:β}:gP b x y=if b=true then x else y:=by cases b<;>rfl
def cU(a b:Nat):Nat.beq a b=decide (a=b):=by rw[qI];simp
def cj(a b:Nat):Nat.ble a b=decide (a<=b):=by rw[qI];simp[Nat.ble_eq]
def sh(a b:Nat):Nat.blt a b=decide (a<b):=by show Nat.ble (a+1) b=_;rw[cj];rfl
@[simp]def Nj(a b:Nat):Nat.add a b=a+b:=rfl
@[simp]def aaF(a b:Nat):Nat.mul a b=a*b:=rfl
@[simp]def Gu{n:Nat}:bq (.t n) e=look e n:=rfl
@[simp]def Oy{v:HV}:bq (.k v) e=some v:=rfl
@[simp]def XX{k:Nat}:look .nil k=none:=rfl
@[simp]def ei{n k:Nat}{v:HV}{r:En}:look (.cons n v r) k=if n=k then some v else look r k:=by show(Bool.rec (motive:=λ_=>bV) (look r k) (some v) (Nat.beq n k))=_;rw[cU];by_cases h:n=k<;>simp[h]
@[simp]def aaG{k:Nat}{x:HV}:En.qw .nil k x=.cons k x .nil:=rfl
@[simp]def Kb{n k:Nat}{v x:HV}{r:En}:(En.cons n v r).qw k x=if n=k then .cons n x r else .cons n v (r.qw k x):=by show(Bool.rec (motive:=λ_=>En) (En.cons n v (r.qw k x)) (.cons n x r) (Nat.beq n k))=_;rw[cU];by_cases h:n=k<;>simp[h]
@[simp]def rO{n k:Nat}{x:HV}:look (e.qw n x) k=if n=k then some x else look e k:=by
 induction e with
 |nil=>simp
 |cons m v r ih=>
  rw[Kb];by_cases h:m=n
  .subst h;simp only[bf,ei];split<;>rfl
  simp only[h,bp,ei,ih];by_cases a:m=k
  .subst a;simp[jB h]
  simp[a]
@[simp]def XY{n:Nat}{v:HV}:e.put (some n) v=.cons n v e:=rfl
@[simp]def XZ{v:HV}:e.put none v=e:=rfl
@[simp]def Vd{l:En}:gX [] l e=e:=rfl
@[simp]def SV{n:Nat}{outs:ay}{l:En}:gX (n::outs) l e=gX outs l (bU (look l n) (λv=>e.qw n v) e):=rfl
@[simp]def Ve{i:Nat}:bn [] i=.nil:=rfl
@[simp]def SW{v:HV}{l:ak}{i:Nat}:bn (v::l) i=.cons i v (bn l (i+1)):=rfl
@[simp]def X0:gp [] e=some []:=rfl
@[simp]def p9{x:X}{l:List X}:gp (x::l) e=bU (bq x e) (λv=>bU (gp l e) (λl=>some (v::l)) none) none:=rfl
def yo(R:Task->Out)(d:bG)(e:En)(s:HS)(K:En->HS->Out)(r:da):Out:=match r with|.v v s'=>K (e.put d v) s'|.call f l=>(R (.call f l s)).oz (λv s'=>K (e.put d v) s') (.bad 1)|.round f l=>(R (.round f l s)).oz (λv s'=>K (e.put d v) s') (.bad 2)|.bad=>.bad 3
@[simp]def adD{d:bG}{K:En->HS->Out}{v:HV}{s':HS}:yo R d e s K (.v v s')=K (e.put d v) s':=rfl
@[simp]def Vf{d:bG}{K:En->HS->Out}{f:Nat}{l:ak}:yo R d e s K (.call f l)=(R (.call f l s)).oz (λv s'=>K (e.put d v) s') (.bad 1):=rfl
@[simp]def SX{d:bG}{K:En->HS->Out}{f:Ky}{l:ak}:yo R d e s K (.round f l)=(R (.round f l s)).oz (λv s'=>K (e.put d v) s') (.bad 2):=rfl
def X1(v:bV)(b:Bool)(x y:Out):Out:=match v with|some (.bool q)=>if q=b then x else y|some .undef=>y|_=>.bad 4
@[simp]def mU{q b:Bool}{x y:Out}:X1 (some (.bool q)) b x y=if q=b then x else y:=rfl
@[simp]def AK{b:Bool}{x y:Out}:X1 (some .undef) b x y=y:=rfl
@[simp]def aaH{K:En->HS->Out}:mA R K [] e s=K e s:=rfl
@[simp]def X2{K:En->HS->Out}{d:bG}{op:lO}{l:List aU}:mA R K (⟨d,op,none⟩::l) e s=yo R d e s (mA R K l) (cO op e s):=by show one R ⟨d,op,none⟩ e s (mA R K l)=_;unfold one;have a:kX e (aU.mk d op none).g=some true:=rfl;rw[a];show da.rec (motive:=λ_=>Out) _ _ _ _ (cO op e s)=_;cases cO op e s<;>rfl
def GR{K:En->HS->Out}{d:bG}{op:lO}{t:Nat}{b:Bool}{l:List aU}:mA R K (⟨d,op,some (t,b)⟩::l) e s=X1 (look e t) b (yo R d e s (mA R K l) (cO op e s)) (mA R K l (e.put d .undef) s):=by
 show one R ⟨d,op,some (t,b)⟩ e s (mA R K l)=_;unfold one;have a:kX e (aU.mk d op (some (t,b))).g=match look e t with|some (.bool q)=>some (q==b)|some .undef=>some false|_=>none:=rfl
 rw[a];cases look e t with
 |none=>rfl
 |some v=>
  cases v<;>try rfl
  rename_i q;show Bool.rec (motive:=λ_=>Out) _ _ (q==b)=_;by_cases h:q=b
  .subst h;rw[show(q==q)=true by simp,mU,ar rfl];show da.rec (motive:=λ_=>Out) _ _ _ _ (cO op e s)=_;cases cO op e s<;>rfl
  rw[mU,aq h,show(q==b)=false by cases q<;>cases b<;>simp_all]
@[simp]def adE{K:En->HS->Out}{d:bG}{op:lO}{t:Nat}{b:Bool}{l:List aU}(h:look e t=some (.bool b)):mA R K (⟨d,op,some (t,b)⟩::l) e s=yo R d e s (mA R K l) (cO op e s):=by rw[GR,h,mU,ar rfl]
@[simp]def adF{K:En->HS->Out}{d:bG}{op:lO}{t:Nat}{b:Bool}{l:List aU}(h:look e t=some (.bool !b)):mA R K (⟨d,op,some (t,b)⟩::l) e s=mA R K l (e.put d .undef) s:=by rw[GR,h,mU,aq (by cases b<;>simp)]
@[simp]def adG{K:En->HS->Out}{d:bG}{op:lO}{t:Nat}{b:Bool}{l:List aU}(h:look e t=some .undef):mA R K (⟨d,op,some (t,b)⟩::l) e s=mA R K l (e.put d .undef) s:=by rw[GR,h,AK]
@[simp]def adH{x:X}{a b:HC}(h:bq x e=some (.bool true)):bK R (.cond x a b) e s=bK R a e s:=by rw[DG,h,n7,ar rfl]
@[simp]def adI{x:X}{a b:HC}(h:bq x e=some (.bool false)):bK R (.cond x a b) e s=bK R b e s:=by rw[DG,h,n7,aq (by simp)]
@[simp]def ain{x:X}{a b:HC}(h:bq x e=some (.bool true)):ev R (.cond x a b) e s=ev R a e s:=by rw[vY,h,n7,ar rfl]
@[simp]def aio{x:X}{a b:HC}(h:bq x e=some (.bool false)):ev R (.cond x a b) e s=ev R b e s:=by rw[vY,h,n7,aq (by simp)]
@[simp]def Bh{v:HV}:rv s (some v)=.v v s:=rfl
@[simp]def Md:rv s none=.bad:=rfl
@[simp]def adJ{p:Prop}[Decidable p]{x y:bV}:rv s (if p then x else y)=if p then rv s x else rv s y:=by split<;>rfl
@[simp]def cP{α:Type}(l:List α):aM l=l.length:=bF l
@[simp]def B6{α:Type}(l:List α)(k:Nat):Aa l k=l[k]?:=wF l k
@[simp]def yp{α:Type}(n:Nat)(l:List α):gQ n l=l.take n:=jQ n l
@[simp]def yq{α:Type}(n:Nat)(l:List α):iB n l=l.drop n:=mE n l
def bM{n:Int}(c: -9223372036854775808<=n)(b:n<9223372036854775808):bR .i64 n=n:=by
 cases n with
 |ofNat m=>
  have h:m<9223372036854775808:=by have:=b;simp only[nM]at this;omega
  have a:Nat.blt m 9223372036854775808=true:=by rw[sh];simpa using h
  show(bif Nat.blt m 9223372036854775808 then Int.ofNat m else _)=_;rw[a];rfl
 |negSucc m=>
  have h:m<9223372036854775808:=by omega
  have a:Nat.blt m 9223372036854775808=true:=by rw[sh];simpa using h
  show(bif Nat.blt m 9223372036854775808 then Int.negSucc m else _)=_;rw[a];rfl
def bj{i n:Nat}(h:i<n)(a:n<=4611686018427387904):bR .i64 ((i:Int)+1)=(i:Int)+1:=bM (by omega) (by omega)
@[simp]def X3(a b:Int):wC a b=a+b:=by cases a<;>cases b<;>rfl
@[simp]def X4(a b:Int):Jb a b=a-b:=by
 cases a with
 |negSucc=>rfl
 |ofNat a=>cases b with|negSucc=>rfl|ofNat b=>show(bif Nat.ble b a then Int.ofNat (a-b)else Int.negSucc (b-(a+1)))=_;rw[cj];by_cases h:b<=a<;>(simp[h];omega)
def si(a b:Int):nG a b=decide (a=b):=by rw[qI,rP];simp
def pM(a b:Int):kJ a b=decide (a<=b):=by
 cases a with
 |ofNat a=>cases b with|ofNat b=>show Nat.ble a b=_;rw[cj];simp|negSucc b=>show false=_;symm;simp only[As,nM];omega
 |negSucc a=>cases b with|ofNat b=>show true=_;symm;simp only[bL,nM];omega|negSucc b=>show Nat.ble b a=_;rw[cj];rw[qI];simp only[bL];omega
def sj(a b:ay):qx a b=decide (a=b):=by rw[qI,oS];simp
@[simp]def adK{x:X}:cO (.mv x) e s=rv s (bq x e):=rfl
def OH(c:bV)(a b:da):da:=bU c (λv=>v.asBool a b .bad) .bad
@[simp]def aaI{q:Bool}{a b:da}:OH (some (.bool q)) a b=if q=true then a else b:=by cases q<;>rfl
@[simp]def X5{c a b:X}:cO (.pick c a b) e s=OH (bq c e) (rv s (bq a e)) (rv s (bq b e)):=rfl
@[simp]def Vg{z:ak}:cO (.alloc z) e s=s.new z (λo=>.ptr o 0):=rfl
def X6(v:bV)(s:HS):da:=bU v (λv=>bU (cellsOf v) (λl=>s.new l (λo=>.ptr o 0)) .bad) .bad
@[simp]def aaJ{x:X}:cO (.box x) e s=X6 (bq x e) s:=rfl
def X7(v:bV)(s:HS):da:=bU v (λv=>bU (cellsOf v) (λl=>.v (.ax l) s) .bad) .bad
@[simp]def aaK{x:X}:cO (.fbx x) e s=X7 (bq x e) s:=rfl
@[simp]def Vh{l:ak}:cellsOf (.agg l)=some l:=rfl
@[simp]def Vi{k:IntKind}{n:Int}:cellsOf (.int k n)=some [.int k n]:=rfl
@[simp]def SY{b:Bool}:cellsOf (.bool b)=some [.bool b]:=rfl
@[simp]def Vj{b:ay}:cellsOf (.str b)=some [.str b]:=rfl
@[simp]def SZ:cellsOf .ai=some [.ai]:=rfl
@[simp]def S5:cellsOf .dZ=some [.dZ]:=rfl
@[simp]def Vk{l:aR}:cellsOf (.psl l)=some [.psl l]:=rfl
@[simp]def S7{l:ak}:cellsOf (.ax l)=some [.ax l]:=rfl
@[simp]def X8{o:Ky}{a b c:Nat}:cellsOf (.sl o a b c)=some [.sl o a b c]:=rfl
@[simp]def Vl{o:Ky}{a:Nat}:cellsOf (.ptr o a)=some [.ptr o a]:=rfl
@[simp]def X9{o:Ky}:cellsOf (.mp o)=some [.mp o]:=rfl
@[simp]def Ya{f:Nat}{a b:ak}:cellsOf (.fn f a b)=some [.fn f a b]:=rfl
@[simp]def Vm{v:HV}:X7 (some v) s=bU (cellsOf v) (λl=>.v (.ax l) s) .bad:=rfl
@[simp]def Vn{v:HV}:X6 (some v) s=bU (cellsOf v) (λl=>s.new l (λo=>.ptr o 0)) .bad:=rfl
@[simp]def S9:eJ e []=some []:=rfl
def FC(v:bV)(n:Nat)(r:Option ak):Option ak:=match v with|some v=>(match cellsOf v,r with|some l,some m=>bif Nat.beq (aM l) n then some (l++m)else none|_,_=>none)|none=>none
@[simp]def Yb{l:ak}{r:List Pc}:eJ e (.z l::r)=(eJ e r).map (l++ ·):=by rw[eJ];cases eJ e r<;>rfl
@[simp]def Yc{x:X}{n:Nat}{r:List Pc}:eJ e (.x x n::r)=FC (bq x e) n (eJ e r):=rfl
@[simp]def OI{v:HV}{n:Nat}{m:ak}:FC (some v) n (some m)=bU (cellsOf v) (λl=>if l.length=n then some (l++m)else none) none:=by
 show(match cellsOf v,some m with|some l,some m=>bif Nat.beq (aM l) n then some (l++m)else none|_,_=>none)=_;cases cellsOf v with
 |none=>rfl
 |some l=>
  show(bif Nat.beq (aM l) n then some (l++m)else none)=if l.length=n then some (l++m)else none
  rw[cP,cU];by_cases h:l.length=n<;>simp[h]
@[simp]def Vo{ps:List Pc}:cO (.build ps) e s=bU (eJ e ps) (λl=>.v (.agg l) s) .bad:=rfl
@[simp]def Yd{n:Nat}:flat n []=some []:=rfl
@[simp]def Vp{n:Nat}{v:HV}{r:ak}:flat n (v::r)=FC (some v) n (flat n r):=rfl
@[simp]def Vq{n:Nat}:jK n []=some []:=rfl
@[simp]def Ta{n:Nat}{v:HV}{r:ak}:jK n (v::r)=bU (cellsOf v) (λl=>bU (jK n r) (λm=>if l.length=n then some (l::m)else none) none) none:=by
 rw[jK];cases cellsOf v with
 |none=>rfl
 |some l=>cases jK n r with|none=>rfl|some m=>simp[cU]
@[simp]def aaL{sz:Nat}{xs:List X}:cO (.bsl sz xs) e s=bU (gp xs e) (λl=>bU (flat sz l) (λm=>s.new m (λo=>.sl o 0 xs.length sz)) .bad) .bad:=by show bU (gp xs e) (λl=>bU (flat sz l) (λm=>s.new m (λo=>.sl o 0 (aM xs) sz)) .bad) .bad=_;rw[cP]
@[simp]def aaM{sz:Nat}{xs:List X}:cO (.fbl sz xs) e s=bU (gp xs e) (λl=>bU (jK sz l) (λm=>.v (.psl m) s) .bad) .bad:=rfl
def ldV(v:bV)(n:bG)(s:HS):da:=bU v (λv=>v.kV (λo k=>rv s (s.load o k n)) (rv s (mD v n))) .bad
@[simp]def adL{x:X}{n:bG}:cO (.ld x n) e s=ldV (bq x e) n s:=rfl
@[simp]def aaN{o:Ky}{k:Nat}{n:bG}:ldV (some (.ptr o k)) n s=rv s (s.load o k n):=rfl
@[simp]def adM{c:ak}{n:Nat}:ldV (some (.ax c)) (some n) s=if n<=c.length then .v (.agg (c.take n)) s else .bad:=by show rv s (gP (Nat.ble n (aM c)) (some (.agg (gQ n c))) none)=_;simp[cj]
@[simp]def adN{c:ak}:ldV (some (.ax c)) none s=rv s c[0]?:=by show rv s (Aa c 0)=_;rw[B6]
def qj(n:Nat)(p v:bV)(s:HS):da:=bU p (λp=>p.kV (λo k=>bU v (λv=>bU (cellsOf v) (λl=>gP (Nat.beq (aM l) n) (bU (s.store o k l) (λs'=>.v .undef s') .bad) .bad) .bad) .bad) .bad) .bad
@[simp]def adO{n:Nat}{a x:X}:cO (.st n a x) e s=qj n (bq a e) (bq x e) s:=rfl
@[simp]def jf{n:Nat}{o:Ky}{k:Nat}{v:HV}:qj n (some (.ptr o k)) (some v) s=bU (cellsOf v) (λl=>if l.length=n then bU (s.store o k l) (λs'=>.v .undef s') .bad else .bad) .bad:=by show bU (cellsOf v) (λl=>gP (Nat.beq (aM l) n) (bU (s.store o k l) (λs'=>da.v .undef s') .bad) .bad) da.bad=_;simp[cU]
def faV(v:bV)(bo:Nat)(s:HS):da:=bU v (λv=>v.kV (λo k=>.v (.ptr o (Nat.add k bo)) s) (rv s (faP v bo))) .bad
@[simp]def adP{x:X}{n:Nat}:cO (.fa x n) e s=faV (bq x e) n s:=rfl
@[simp]def aaO{o:Ky}{k n:Nat}:faV (some (.ptr o k)) n s=.v (.ptr o (k+n)) s:=rfl
@[simp]def aip{c:ak}{n:Nat}:faV (some (.ax c)) n s=if n<=c.length then .v (.ax (c.drop n)) s else .bad:=by show rv s (gP (Nat.ble n (aM c)) (some (.ax (iB n c))) none)=_;simp[cj]
def FD(v i:bV)(sz:Nat)(s:HS):da:=bU v (λv=>v.Pd (λo bo len Et=>bU i (λq=>q.asInt (λ_ z=>Int.rec (motive:=λ_=>da) (λn=>gP (Nat.blt n len) (gP (Nat.beq sz Et) (.v (.ptr o (Nat.add bo (Nat.mul n sz))) s) .bad) .bad) (λ_=>.bad) z) .bad) .bad) (rv s (U2 v i sz))) .bad
@[simp]def adQ{x i:X}{sz:Nat}:cO (.ia x i sz) e s=FD (bq x e) (bq i e) sz s:=rfl
@[simp]def Ye{au:aR}{k:IntKind}{n sz:Nat}:FD (some (.psl au)) (some (.int k (n:Int))) sz s=bU au[n]? (λr=>if r.length=sz then .v (.ax r) s else .bad) .bad:=by show rv s (match Aa au n with|some r=>gP (Nat.beq (aM r) sz) (some (HV.ax r)) none|none=>none)=_;rw[B6];cases au[n]?with|none=>rfl|some r=>simp[cU]
@[simp]def Kc{o:Ky}{bo len a:Nat}{k:IntKind}{n sz:Nat}:FD (some (.sl o bo len a)) (some (.int k (n:Int))) sz s=if n<len then if sz=a then .v (.ptr o (bo+n*sz)) s else .bad else .bad:=by show gP (Nat.blt n len) (gP (Nat.beq sz a) (da.v (.ptr o (Nat.add bo (Nat.mul n sz))) s) .bad) .bad=_;simp[cU,sh]
@[simp]def adR{au:aR}{k:IntKind}{sz:Nat}:FD (some (.psl au)) (some (.int k 0)) sz s=bU au[0]? (λr=>if r.length=sz then .v (.ax r) s else .bad) .bad:=Ye (n:=0)
@[simp]def adS{o:Ky}{bo len a:Nat}{k:IntKind}{sz:Nat}:FD (some (.sl o bo len a)) (some (.int k 0)) sz s=if 0<len then if sz=a then .v (.ptr o (bo+0*sz)) s else .bad else .bad:=Kc (n:=0)
def yr(k:Nat)(v:bV)(s:HS):da:=bU v (λv=>bU (L9 k s v) (λn=>.v (.int .i64 (.ofNat n)) s) .bad) .bad
@[simp]def aaP{k:Nat}{x:X}:cO (.len k x) e s=yr k (bq x e) s:=rfl
@[simp]def Yf{l:aR}:yr 0 (some (.psl l)) s=.v (.int .i64 (l.length:Int)) s:=by show da.v (.int .i64 (.ofNat (aM l))) s=_;rw[cP];rfl
@[simp]def Vr:yr 0 (some .ai) s=.v (.int .i64 0) s:=rfl
@[simp]def aaQ{o:Ky}{a n c:Nat}:yr 0 (some (.sl o a n c)) s=.v (.int .i64 (n:Int)) s:=rfl
@[simp]def Yg{l:ay}:yr 1 (some (.str l)) s=.v (.int .i64 (l.length:Int)) s:=by show da.v (.int .i64 (.ofNat (aM l))) s=_;rw[cP];rfl
def n8(c:Bool)(op:BinOp)(a b:bV)(s:HS):da:=bU a (λa=>bU b (λb=>rv s (HJ c op a b)) .bad) .bad
@[simp]def aaR{a:Bool}{op:BinOp}{x y:X}:cO (.bin a op x y) e s=n8 a op (bq x e) (bq y e) s:=rfl
@[simp]def aaS{k:IntKind}{a b:Int}:n8 false .add (some (.int k a)) (some (.int k b)) s=.v (.int k (bR k (a+b))) s:=by show rv s (bif decide (k=k)then some (.int k (bR k (wC a b)))else none)=_;simp
@[simp]def aaT{k:IntKind}{a b:Int}:n8 false .sub (some (.int k a)) (some (.int k b)) s=.v (.int k (bR k (a-b))) s:=by show rv s (bif decide (k=k)then some (.int k (bR k (Jb a b)))else none)=_;simp
@[simp]def aaU{k:IntKind}{a b:Int}:n8 false .mul (some (.int k a)) (some (.int k b)) s=.v (.int k (bR k (a*b))) s:=by show rv s (bif decide (k=k)then some (.int k (bR k (a*b)))else none)=_;simp
@[simp]def aaV{k:IntKind}{a b:Int}:n8 false .eql (some (.int k a)) (some (.int k b)) s=.v (.bool (decide (a=b))) s:=by show rv s (bif decide (k=k)then some (.bool (nG a b))else none)=_;simp[si]
@[simp]def aaW{k:IntKind}{a b:Int}:n8 false .neq (some (.int k a)) (some (.int k b)) s=.v (.bool (!decide (a=b))) s:=by show rv s (bif decide (k=k)then some (.bool (!nG a b))else none)=_;simp[si]
@[simp]def aaX{k:IntKind}{a b:Int}:n8 false .lss (some (.int k a)) (some (.int k b)) s=.v (.bool (decide (a<b))) s:=by show rv s (bif decide (k=k)then some (.bool (!kJ b a))else none)=_;simp only[eV,cond_true,Bh,pM];rw[show(!decide (b<=a))=decide (a<b) by by_cases h:a<b<;>simp[h]<;>omega]
@[simp]def aaY{k:IntKind}{a b:Int}:n8 false .leq (some (.int k a)) (some (.int k b)) s=.v (.bool (decide (a<=b))) s:=by show rv s (bif decide (k=k)then some (.bool (kJ a b))else none)=_;simp[pM]
@[simp]def aaZ{k:IntKind}{a b:Int}:n8 false .gtr (some (.int k a)) (some (.int k b)) s=.v (.bool (decide (b<a))) s:=by show rv s (bif decide (k=k)then some (.bool (!kJ a b))else none)=_;simp only[eV,cond_true,Bh,pM];rw[show(!decide (a<=b))=decide (b<a) by by_cases h:b<a<;>simp[h]<;>omega]
@[simp]def aa0{k:IntKind}{a b:Int}:n8 false .geq (some (.int k a)) (some (.int k b)) s=.v (.bool (decide (b<=a))) s:=by show rv s (bif decide (k=k)then some (.bool (kJ b a))else none)=_;simp[pM]
@[simp]def Yh{a b:Bool}:n8 true .eql (some (.bool a)) (some (.bool b)) s=.v (.bool (a==b)) s:=rfl
@[simp]def Yi{a b:Bool}:n8 true .neq (some (.bool a)) (some (.bool b)) s=.v (.bool (a != b)) s:=rfl
@[simp]def Yj{a b:ay}:n8 false .neq (some (.str a)) (some (.str b)) s=.v (.bool (!decide (a=b))) s:=by show rv s (some (.bool (!qx a b)))=_;rw[sj];rfl
def unR(op:UnOp)(v:bV)(s:HS):da:=match v with
  |some (.bool b)=>(match op with|.not=>.v (.bool (!b)) s|_=>.bad)
  |some (.int k n)=>(match op with|.neg=>.v (.int k (bR k (0-n))) s|_=>.bad)
  |_=>.bad
@[simp]def adT{op:UnOp}{x:X}:cO (.un op x) e s=unR op (bq x e) s:=rfl
@[simp]def adU{b:Bool}:unR .not (some (.bool b)) s=.v (.bool (!b)) s:=rfl
@[simp]def adV{k:IntKind}{n:Int}:unR .neg (some (.int k n)) s=.v (.int k (bR k (0-n))) s:=rfl
@[simp]def aa1{g:Nat}{c cs:List X}:cO (.mkf g c cs) e s=bU (gp c e) (λa=>bU (gp cs e) (λb=>.v (.fn g a b) s) .bad) .bad:=rfl
def Yk(v:bV)(i:Nat)(s:HS):da:=bU v (λv=>v.Oq (λl=>rv s (Aa l i)) .bad) .bad
@[simp]def aa2{x:X}{i:Nat}:cO (.ext x i) e s=Yk (bq x e) i s:=rfl
@[simp]def Yl{l:ak}{i:Nat}:Yk (some (.bN l)) i s=rv s l[i]?:=by show rv s (Aa l i)=_;rw[B6]
def Tb(v:bV)(s:HS):da:=bU v (λv=>v.kV (λo k=>.v (.ptr o k) s) (match v with|.ax c=>.v (.ax c) s|_=>.bad)) .bad
@[simp]def aa3{x:X}:cO (.nck x) e s=Tb (bq x e) s:=rfl
@[simp]def aa4{o:Ky}{k:Nat}:Tb (some (.ptr o k)) s=.v (.ptr o k) s:=rfl
@[simp]def Ym{c:ak}:Tb (some (.ax c)) s=.v (.ax c) s:=rfl
def mmR(m:Bool)(a b:bV)(s:HS):da:=match a,b with|some (.int k a),some (.int _ b)=>.v (.int k (bif m then(bif kJ a b then b else a)else(bif kJ a b then a else b))) s|_,_=>.bad
@[simp]def adW{m:Bool}{x y:X}:cO (.mm m x y) e s=mmR m (bq x e) (bq y e) s:=rfl
@[simp]def adX{k j:IntKind}{a b:Int}:mmR true (some (.int k a)) (some (.int j b)) s=.v (.int k (max a b)) s:=by
 show da.v (.int k (bif true then(bif kJ a b then b else a)else(bif kJ a b then a else b))) s=_;rw[pM];by_cases h:a<=b
 .simp[h,Int.max_eq_right h]
 simp[h,Int.max_eq_left (Int.le_of_lt (Int.not_le.1 h))]
@[simp]def Yn{f:Nat}{xs:List X}:cO (.call f xs) e s=bU (gp xs e) (λl=>.call f l) .bad:=rfl
def Tc(v:bV)(l:Option ak):da:=match v,l with|some (.fn f a b),some l=>.call f (a++l++b)|some (.jk r),some l=>.round r l|_,_=>.bad
@[simp]def aa5{x:X}{xs:List X}:cO (.dyn x xs) e s=Tc (bq x e) (gp xs e):=rfl
@[simp]def adY{f:Nat}{a b l:ak}:Tc (some (.fn f a b)) (some l)=.call f (a++l++b):=rfl
@[simp]def aa6{r:Ky}{l:ak}:Tc (some (.jk r)) (some l)=.round r l:=rfl
def Yo(K:Kd)(neg:Bool)(a b:bV)(s:HS):da:=match a,b with|some a,some b=>(match qB K a b with|some q=>.v (.bool (q != neg)) s|none=>.bad)|_,_=>.bad
@[simp]def aa7{K:Kd}{neg:Bool}{x y:X}:cO (.eqs K neg x y) e s=Yo K neg (bq x e) (bq y e) s:=rfl
@[simp]def Vs{K:Kd}{neg:Bool}{x y:HV}:Yo K neg (some x) (some y) s=bU (qB K x y) (λq=>.v (.bool (q != neg)) s) .bad:=by show(match qB K x y with|some q=>da.v (.bool (q != neg)) s|none=>.bad)=_;cases qB K x y<;>rfl
def DH(k:Nat)(neg:Bool)(v:bV)(s:HS):da:=bU v (λv=>bU (ox k v) (λq=>.v (.bool (q != neg)) s) .bad) .bad
@[simp]def aa8{k:Nat}{neg:Bool}{x:X}:cO (.niq k neg x) e s=DH k neg (bq x e) s:=rfl
@[simp]def Yp{neg:Bool}:DH 3 neg (some .dZ) s=.v (.bool (true != neg)) s:=rfl
@[simp]def aa9{neg:Bool}{o:Ky}{k:Nat}:DH 3 neg (some (.ptr o k)) s=.v (.bool (false != neg)) s:=rfl
@[simp]def Yq{neg:Bool}{c:ak}:DH 3 neg (some (.ax c)) s=.v (.bool (false != neg)) s:=rfl
end
@[simp]def Vt{e:En}{s:HS}:dY e s []=some []:=rfl
@[simp]def Vu{e:En}{s:HS}{n:Nat}{r:List Rs}:dY e s (.tmp n::r)=bU (look e n) (λv=>bU (dY e s r) (λl=>some (v::l)) none) none:=by
 rw[dY];cases look e n with
 |none=>rfl
 |some v=>cases dY e s r<;>rfl
def OJ(v:bV)(s:HS)(sz:bG):bV:=match v with|some (.ptr o k)=>s.load o k sz|some (.ax c)=>mD (.ax c) sz|_=>none
@[simp]def Td{e:En}{s:HS}{n:Nat}{sz:bG}{r:List Rs}:dY e s (.cell n sz::r)=bU (OJ (look e n) s sz) (λv=>bU (dY e s r) (λl=>some (v::l)) none) none:=by
 rw[dY];cases look e n with
 |none=>rfl
 |some v=>
  cases v<;>try rfl
  .rename_i o k;show(match s.load o k sz,dY e s r with|some v,some l=>some (v::l)|_,_=>none)=bU (s.load o k sz) (λv=>bU (dY e s r) (λl=>some (v::l)) none) none;cases s.load o k sz with
   |none=>rfl
   |some v=>cases dY e s r<;>rfl
  rename_i c;show(match mD (.ax c) sz,dY e s r with|some v,some l=>some (v::l)|_,_=>none)=bU (mD (.ax c) sz) (λv=>bU (dY e s r) (λl=>some (v::l)) none) none;cases mD (.ax c) sz with
  |none=>rfl
  |some v=>cases dY e s r<;>rfl
@[simp]def Vv{o:Ky}{k:Nat}{s:HS}{sz:bG}:OJ (some (.ptr o k)) s sz=s.load o k sz:=rfl
def oH:Option ak->HS->Out
 |some [v],s=>.val v s
 |some l,s=>.val (.bN l) s
 |none,_=>.bad 10
@[simp]def adZ{v:HV}{s:HS}:oH (some [v]) s=.val v s:=rfl
@[simp]def ad0{s:HS}:oH (some []) s=.val (.bN []) s:=rfl
@[simp]def ad1{v w:HV}{l:ak}{s:HS}:oH (some (v::w::l)) s=.val (.bN (v::w::l)) s:=rfl
def jY(F:HF)(e:En)(s:HS):leave F e s=oH (dY e s F.rs) s:=by
 unfold leave oH
 split<;>simp_all
def AL(o:Out):bV:=match o with
 |.val v s'=>(match vw s' 16 v with|some (a,_)=>some a|none=>none)
 |_=>none
def pN(a:List Rs)(o:Out):bV:=match o with|.code (.exit _) _ _=>none|.code _ e s=>AL (oH (dY e s a) s)|_=>none
@[simp]def OK{a:List Rs}{e:En}{s:HS}:pN a (.code .normal e s)=AL (oH (dY e s a) s):=rfl
@[simp]def Yr{a:List Rs}{e:En}{s:HS}:pN a (.code .ret e s)=AL (oH (dY e s a) s):=rfl
def GS(F:HF)(ih:Task->Out)(args:ak)(h:args.length=F.np):jo F ih args=pN F.rs (bK ih F.c (bn args 0) s0):=by
 unfold jo;rw[cP,h,cU];simp only[eV];show(match bK ih F.c (bn args 0) s0 with
  |.code (.exit _) _ _=>none
  |.code _ e s=>(match leave F e s with
   |.val v s'=>(match vw s' 16 v with|some (a,_)=>some a|none=>none)
   |_=>none)
  |_=>none)=_
 cases bK ih F.c (bn args 0) s0 with
 |val=>rfl
 |bad=>rfl
 |code x e s=>
  cases x<;>try rfl
  .show(match leave F e s with|.val v s'=>(match vw s' 16 v with|some (a,_)=>some a|none=>none)|_=>none)=_;rw[jY];rfl
  show(match leave F e s with|.val v s'=>(match vw s' 16 v with|some (a,_)=>some a|none=>none)|_=>none)=_;rw[jY];rfl
def vZ{s:HS}{n:Nat}{v:HV}(h:eh v=true):vw s (n+1) v=some (v,[]):=by show(bif eh v then some (v,[])else _)=_;rw[h];rfl
def aa{s:HS}{v:HV}(h:eh v=true):AL (.val v s)=some v:=by show(match vw s (15+1) v with|some (a,_)=>some a|none=>none)=_;rw[vZ h]
section call
variable{L:jx}{prog:Nat->Option HF}
def pO(L:jx)(f:Nat):Bool:= !(Nat.beq f L.dx||Nat.beq f L.str||Nat.beq f L.fmt||(match L.vI with|some t=>Nat.beq f t|none=>false)||Be f L.Jd)
def ff{f:Nat}{args:ak}{s:HS}{K:Out}(h:pO L f=true):sQ L f args s K=K:=by unfold pO at h;simp only[uB,B7]at h;obtain⟨⟨⟨⟨b,c⟩,d⟩,a⟩,g⟩:=h;unfold sQ iq;rw[b,c,d,g];cases i:L.vI with|none=>rfl|some t=>rw[i]at a;simp only[cond_false,bU];rw[show Nat.beq f t=false from a];rfl
def tP(L:jx)(f:Nat):Bool:= !(Nat.beq f L.dx||Nat.beq f L.str||Nat.beq f L.fmt||(match L.vI with|some t=>Nat.beq f t|none=>false))
def yt{f:Nat}{r:ak}{l:aR}{s:HS}{K:Out}(h:tP L f=true):sQ L f [.psl (r::l)] s K=K:=by
 unfold tP at h;simp only[uB,B7]at h;obtain⟨⟨⟨b,c⟩,d⟩,a⟩:=h;have g:iq L f [.psl (r::l)] s K=K:=by unfold iq;cases Be f L.Jd<;>rfl
 unfold sQ;rw[b,c,d,g];cases i:L.vI with|none=>rfl|some t=>rw[i]at a;simp only[cond_false,bU];rw[show Nat.beq f t=false from a];rfl
def Ke(f:Nat)(s:HS)(h:tP L f=true)(b:Be f L.Jd=true):ea L prog (.call f [.psl []] s)=.val (.psl []) s:=by refine dB ?_ trivial;show sQ L f [.psl []] s _=_;unfold tP at h;simp only[uB,B7]at h;obtain⟨⟨⟨c,d⟩,g⟩,a⟩:=h;unfold sQ iq;rw[c,d,g,b];cases i:L.vI with|none=>rfl|some t=>rw[i]at a;simp only[cond_false,bU];rw[show Nat.beq f t=false from a];rfl
def Te(f:Nat)(F:HF)(args:ak)(v:HV)(s:HS)(b:prog f=some F)(d:pO L f=true)(g:F.pu=true)(i:args.length=F.np)(a:du args=true)(h:pN F.rs (bK (ea L prog) F.c (bn args 0) s0)=some v):
  ea L prog (.call f args s)=.val v s:=by
 refine dB ?_ trivial;show sQ L f args s (bu prog (ea L prog) f args s)=_;rw[ff d];unfold bu;rw[b];simp only[bU,g,cond_true];unfold bW;rw[dS args a,cond_true,a,cond_true,GS F _ _ i,h];rfl
def Tf(f:Nat)(F:HF)(args:ak)(v:HV)(s s':HS)(b:prog f=some F)(d:pO L f=true)(g:F.pu=false)(i:args.length=F.np)(h:∃x e s1,ev (ea L prog) F.c (bn args 0) s=.code x e s1/\(x=.normal∨x=.ret)/\oH (dY e s1 F.rs) s1=.val v s'):
  ea L prog (.call f args s)=.val v s':=by
 refine dB ?_ trivial;show sQ L f args s (bu prog (ea L prog) f args s)=_;rw[ff d];unfold bu;rw[b];simp only[bU,g,cond_false];unfold dD;rw[cP,i,cU];simp only[eV];obtain⟨x,e,s1,j,k,a⟩:=h;rw[j];rcases k with rfl|rfl
 .show leave F e s1=_;rw[jY];exact a
 show leave F e s1=_;rw[jY];exact a
def Nk(f:Nat)(F:HF)(r:ak)(l:aR)(v:HV)(s:HS)(b:prog f=some F)(d:tP L f=true)(g:F.pu=true)(i:1=F.np)(a:du [.psl (r::l)]=true)(h:pN F.rs (bK (ea L prog) F.c (bn [.psl (r::l)] 0) s0)=some v):
  ea L prog (.call f [.psl (r::l)] s)=.val v s:=by
 refine dB ?_ trivial;show sQ L f [.psl (r::l)] s (bu prog (ea L prog) f [.psl (r::l)] s)=_;rw[yt d];unfold bu;rw[b];simp only[bU,g,cond_true];unfold bW;rw[dS _ a,cond_true,a,cond_true,GS F _ _ (show [HV.psl (r::l)].length=F.np from i),h];rfl
def GU(f:Nat)(F:HF)(r:ak)(l:aR)(v:HV)(s s':HS)(b:prog f=some F)(d:tP L f=true)(g:F.pu=false)(i:1=F.np)(h:∃x e s1,ev (ea L prog) F.c (bn [.psl (r::l)] 0) s=.code x e s1/\(x=.normal∨x=.ret)/\oH (dY e s1 F.rs) s1=.val v s'):
  ea L prog (.call f [.psl (r::l)] s)=.val v s':=by
 refine dB ?_ trivial;show sQ L f [.psl (r::l)] s (bu prog (ea L prog) f [.psl (r::l)] s)=_;rw[yt d];unfold bu;rw[b];simp only[bU,g,cond_false];unfold dD;rw[cP,show [HV.psl (r::l)].length=F.np from i,cU];simp only[eV];obtain⟨x,e,s1,j,k,a⟩:=h;rw[j];rcases k with rfl|rfl
 .show leave F e s1=_;rw[jY];exact a
 show leave F e s1=_;rw[jY];exact a
def Tg(f:Nat)(s:HS)(h:L.vI=some f)(a:Nat.beq f L.dx=false)(b:Nat.beq f L.str=false)(c:Nat.beq f L.fmt=false):ea L prog (.call f [] s)=.val (.bool true) s:=by refine dB ?_ trivial;show sQ L f [] s _=_;unfold sQ;rw[a,b,c,h];simp[bU,lQ]
def Th{c:HC}{e:En}{s:HS}{o:Out}(h:bK (ea L prog) (.loop c) e s=o)(a:Good o):ea L prog (.oP c e s)=o:=dB h a
def yu{c:HC}{e:En}{s:HS}:bK (ea L prog) (.loop c) e s=(bK (ea L prog) c e s).ch (λe' s'=>ea L prog (.oP c e' s')):=rfl
end call
@[simp]def Ys:du []=true:=rfl
@[simp]def Ix{v:HV}{r:ak}:du (v::r)=(eh v&&du r):=by rw[du]
@[simp]def aba{k:IntKind}{n:Int}:eh (.int k n)=true:=by simp[eh]
@[simp]def Yt{b:Bool}:eh (.bool b)=true:=by simp[eh]
@[simp]def abb{b:ay}:eh (.str b)=true:=by simp[eh]
@[simp]def Nl{l:ak}:eh (.agg l)=du l:=by rw[eh]
@[simp]def Nn{l:ak}:eh (.bN l)=du l:=by rw[eh]
@[simp]def Yu{l:ak}:eh (.ax l)=du l:=by rw[eh]
@[simp]def abc{l:aR}:eh (.psl l)=eu l:=by rw[eh]
@[simp]def Yv:eh .dZ=true:=by simp[eh]
@[simp]def Ti{f:Nat}{a b:ak}:eh (.fn f a b)=(du a&&du b):=by rw[eh]
@[simp]def Vx:eu []=true:=rfl
@[simp]def Tj{v:ak}{r:aR}:eu (v::r)=(du v&&eu r):=by rw[eu]
def cq{α:Type}{f:α->ak}(h:∀x,du (f x)=true)(l:List α):eu (l.map f)=true:=by induction l with|nil=>rfl|cons x r ih=>simp[h x,ih]
@[simp]def OL{a b:ak}:du (a++b)=(du a&&du b):=by induction a with|nil=>simp|cons x r ih=>simp[ih,FE]
section tries
variable{α:Type}
@[simp]def ad2{x:Option α}{t:Tr α}:av x .e t=.nd x (tl t) (tr t):=rfl
@[simp]def ad3{x:Option α}{k:Ky}{t:Tr α}:av x (.z k) t=.nd (tv t) (av x k (tl t)) (tr t):=rfl
@[simp]def ad4{x:Option α}{k:Ky}{t:Tr α}:av x (.o k) t=.nd (tv t) (tl t) (av x k (tr t)):=rfl
@[simp]def aiq:tl (.lf:Tr α)=.lf:=rfl
@[simp]def air:tr (.lf:Tr α)=.lf:=rfl
@[simp]def ais:tv (.lf:Tr α)=none:=rfl
@[simp]def ait{v:Option α}{l r:Tr α}:tl (.nd v l r)=l:=rfl
@[simp]def aiu{v:Option α}{l r:Tr α}:tr (.nd v l r)=r:=rfl
@[simp]def aiv{v:Option α}{l r:Tr α}:tv (.nd v l r)=v:=rfl
@[simp]def Yw{k:Ky}:ao (.lf:Tr α) k=none:=rfl
@[simp]def Vy{v:Option α}{l r:Tr α}:ao (.nd v l r) .e=v:=rfl
@[simp]def Vz{v:Option α}{l r:Tr α}{k:Ky}:ao (.nd v l r) (.z k)=ao l k:=rfl
@[simp]def VA{v:Option α}{l r:Tr α}{k:Ky}:ao (.nd v l r) (.o k)=ao r k:=rfl
@[simp]def ad5:Ky.succ .e=.z .e:=rfl
@[simp]def ad6{k:Ky}:Ky.succ (.z k)=.o k:=rfl
@[simp]def ad7{k:Ky}:Ky.succ (.o k)=.z k.succ:=rfl
@[simp]def ad8:Ky.beq .e .e=true:=rfl
@[simp]def ad9{k:Ky}:Ky.beq .e (.z k)=false:=rfl
@[simp]def aea{k:Ky}:Ky.beq .e (.o k)=false:=rfl
@[simp]def aeb{k:Ky}:Ky.beq (.z k) .e=false:=rfl
@[simp]def aec{k:Ky}:Ky.beq (.o k) .e=false:=rfl
@[simp]def aed{j k:Ky}:Ky.beq (.z j) (.z k)=Ky.beq j k:=rfl
@[simp]def aee{j k:Ky}:Ky.beq (.z j) (.o k)=false:=rfl
@[simp]def aef{j k:Ky}:Ky.beq (.o j) (.z k)=false:=rfl
@[simp]def aeg{j k:Ky}:Ky.beq (.o j) (.o k)=Ky.beq j k:=rfl
@[simp]def VB(x y:Option α)(k:Ky):∀t:Tr α,av x k (av y k t)=av x k t:=by induction k with|e=>intro t;rfl|z k ih=>intro t;simp[ih]|o k ih=>intro t;simp[ih]
@[simp]def tQ(x:Option α)(k:Ky)(t:Tr α):ao (av x k t) k=x:=by rw[af,ar rfl]
def AM(x:Option α):∀(n k:Nat),k<n->nD x n k=nD x (k+1) k:=by
 intro n
 induction n using Nat.strongRecOn with
 |ind n ih=>
  intro k hk;cases n with
  |zero=>omega
  |succ n=>
   have he:∀m,nD x (m+1) k=Bool.rec (Bool.rec (.nd none .lf (nD x m ((k-1)/2))) (.nd none (nD x m (k/2)) .lf) (Nat.beq (k%2) 1)) (.nd x .lf .lf) (Nat.beq k 0):=λm=>rfl
   rw[he n,he k];by_cases h0:k=0
   .subst h0;rfl
   rw[show Nat.beq k 0=false by rw[cU];simp[h0]];have a:nD x n (k/2)=nD x k (k/2):=by rw[ih n (by omega) (k/2) (by omega),<-ih k (by omega) (k/2) (by omega)]
   have b:nD x n ((k-1)/2)=nD x k ((k-1)/2):=by rw[ih n (by omega) ((k-1)/2) (by omega),<-ih k (by omega) ((k-1)/2) (by omega)]
   rw[a,b]
def GV(x:Option α)(k:Nat):jv x .lf k=nD x (k+1) k:=rfl
def n9(x:Option α)(t:Tr α)(k:Nat):jv x t k=if k=0 then .nd x (tl t) (tr t)else if k%2=1 then .nd (tv t) (jv x (tl t) (k/2)) (tr t)else .nd (tv t) (tl t) (jv x (tr t) ((k-1)/2)):=by
 cases t with
 |nd v l r=>
  show(Bool.rec (motive:=λ_=>Tr α) (Bool.rec (motive:=λ_=>Tr α) (.nd v l (jv x r ((k-1)/2))) (.nd v (jv x l (k/2)) r) (Nat.beq (k%2) 1)) (.nd x l r) (Nat.beq k 0))=_;rw[cU,cU];by_cases h0:k=0
  .simp[h0]
  by_cases a:k%2=1<;>simp[h0,a]
 |lf=>
  have he:jv x .lf k=(Bool.rec (motive:=λ_=>Tr α) (Bool.rec (motive:=λ_=>Tr α) (.nd none .lf (nD x k ((k-1)/2))) (.nd none (nD x k (k/2)) .lf) (Nat.beq (k%2) 1)) (.nd x .lf .lf) (Nat.beq k 0)):=rfl;rw[he,cU,cU];by_cases h0:k=0
  .simp[h0]
  have b:nD x k (k/2)=jv x .lf (k/2):=by rw[GV];exact AM x k (k/2) (by omega)
  have c:nD x k ((k-1)/2)=jv x .lf ((k-1)/2):=by rw[GV];exact AM x k ((k-1)/2) (by omega)
  rw[b,c];by_cases a:k%2=1<;>simp[h0,a]
def Iy(x y:Option α)(k:Nat):∀t:Tr α,jv x (jv y t k) k=jv x t k:=by
 induction k using Nat.strongRecOn with
 |ind k ih=>
  intro t;rw[n9 y,n9 x _ k,n9 x t k];by_cases h0:k=0
  .simp[h0]
  by_cases a:k%2=1
  .simp[h0,a,ih (k/2) (by omega)]
  simp[h0,a,ih ((k-1)/2) (by omega)]
def Iz(x y:Option α)(k:Nat):∀(j:Nat) (t:Tr α),j≠k->jv x (jv y t j) k=jv y (jv x t k) j:=by
 induction k using Nat.strongRecOn with
 |ind k ih=>
  intro j t d;rw[n9 y t j,n9 x _ k,n9 y _ j,n9 x t k];by_cases h0:k=0
  .by_cases a:j=0
   .omega
   by_cases b:j%2=1<;>simp[h0,a,b]
  by_cases a:j=0
  .by_cases c:k%2=1<;>simp[h0,a,c]
  by_cases b:j%2=1<;>by_cases c:k%2=1
  .simp[h0,a,c,b,ih (k/2) (by omega) (j/2) _ (by omega)]
  .simp[h0,a,c,b]
  .simp[h0,a,c,b]
  simp[h0,a,c,b,ih ((k-1)/2) (by omega) ((j-1)/2) _ (by omega)]
end tries
def cR(l:ak):Tr HV:=dq l 0 .lf
def gL(v:HV)(l:ak)(k:Nat)(t:Tr HV):dq (v::l) k t=dq l (k+1) (jv (some v) t k):=rfl
def IA(l:ak):∀(k j:Nat) (v:HV) (t:Tr HV),j<k->dq l k (jv (some v) t j)=jv (some v) (dq l k t) j:=by induction l with|nil=>intro k j v t h;rfl|cons w l ih=>intro k j v t h;rw[gL,gL,Iz _ _ k j t (by omega),ih (k+1) j v _ (by omega)]
def IB(l:ak):∀(k j:Nat) (v:HV) (t:Tr HV),k<=j->j<k+l.length->jv (some v) (dq l k t) j=dq (l.set (j-k) v) k t:=by
 induction l with
 |nil=>intro k j v t b a;simp at a;omega
 |cons w l ih=>
  intro k j v t b a;by_cases h:j=k
  .subst h;rw[gL,<-IA _ _ _ _ _ (by omega),Iy];simp[gL]
  rw[gL,ih (k+1) j v _ (by omega) (by simp at a;omega),show j-k=(j-(k+1))+1 by omega];simp[gL]
def I6(l:ak)(j:Nat):ak->ak
 |[]=>l
 |v::r=>I6 (l.set j v) (j+1) r
@[simp]def abd{l:ak}{j:Nat}:I6 l j []=l:=rfl
@[simp]def yw{l:ak}{j:Nat}{v:HV}{r:ak}:I6 l j (v::r)=I6 (l.set j v) (j+1) r:=rfl
def Kf(new:ak):∀(l:ak) (j:Nat),j+new.length<=l.length->dq new j (cR l)=cR (I6 l j new):=by induction new with|nil=>intro l j h;rfl|cons v r ih=>intro l j h;simp only[aA]at h;rw[gL];show dq r (j+1) (jv (some v) (dq l 0 .lf) j)=_;rw[IB l 0 j v .lf (by omega) (by omega)];exact ih (l.set j v) (j+1) (by simp;omega)
def Kg(l:ak):∀(new:ak) (k:Nat) (t:Tr HV),dq new (k+l.length) (dq l k t)=dq (l++new) k t:=by induction l with|nil=>intro new k t;rfl|cons v l ih=>intro new k t;rw[gL,List.cons_append,gL,aA,show k+(l.length+1)=(k+1)+l.length by omega];exact ih new (k+1) _
def Kh(l new:ak)(k:Nat)(h:k=l.length):dq new k (cR l)=cR (l++new):=by subst h;have:=Kg l new 0 .lf;rw[bw]at this;exact this
@[simp]def sk{l:ak}{k:Nat}:fP (cR l) k=l[k]?:=by
 show fP (dq l 0 .lf) k=_;rw[fC];by_cases h:k<l.length
 .rw[ar (by omega)];simp
 rw[aq (by omega),vJ,Av (by omega)]
def No(t:Tr HV)(l:ak):∀(n k:Nat),(∀i,i<n->fP t (k+i)=l[k+i]?)->k+n<=l.length->nE t n k=some ((l.drop k).take n):=by
 intro n
 induction n with|zero=>intro k _ _;simp;rfl|succ n ih=>intro k h hl;have he:nE t (n+1) k=Option.rec none (λv=>Option.rec none (λl=>some (v::l)) (nE t n (k+1))) (fP t k):=rfl;have h0:=h 0 (by omega);rw[fR,aO (by omega)]at h0;rw[he,h0,ih (k+1) (λi hi=>by have:=h (i+1) (by omega);rwa[show k+(i+1)=k+1+i by omega]at this) (by omega)];show some (_::_)=_;rw[oY (show k<l.length by omega),List.take_succ_cons]
def Ki{l:ak}{n k:Nat}(h:k+n<=l.length):nE (cR l) n k=some ((l.drop k).take n):=No _ _ _ _ (λi _=>sk) h
section mem
variable{s:HS}
@[simp]def wN{l:ak}{K:Ky->HV}:s.new l K=.v (K s.nx) {h:=av (some (.cells (cR l) 0 l.length s.nx)) s.nx s.h,nx:=s.nx.succ,gr:=av (some [s.nx]) s.nx s.gr,ty:=s.ty}:=by show da.v (K s.nx) {h:=av (some (.cells (dq l 0 .lf) 0 (aM l) s.nx)) s.nx s.h,nx:=s.nx.succ,gr:=av (some [s.nx]) s.nx s.gr,ty:=s.ty}=_;rw[cP];rfl
def eN(b:Option Ob)(k:Nat):bV:=match b with|some (.cells t a c _)=>if a<=k then if k<c then fP t k else none else none|_=>none
@[simp]def yx{l:ak}{a b k:Nat}{g:Ky}:eN (some (.cells (cR l) a b g)) k=if a<=k then if k<b then l[k]?else none else none:=by show(if a<=k then if k<b then fP (cR l) k else none else none)=_;rw[sk]
@[simp]def B8{o:Ky}{k:Nat}:s.cell o k=eN (ao s.h o) k:=by
 unfold HS.cell eN;cases ao s.h o with
 |none=>rfl
 |some b=>cases b with|cells t c d g=>show gP (Nat.ble c k) (gP (Nat.blt k d) (fP t k) none) none=_;simp[cj,sh]|mp f=>rfl|loop i a j ps jl body=>rfl
def fU(b:Option Ob)(k n:Nat):Option ak:=match b with|some (.cells t a c _)=>if a<=k then if k+n<=c then nE t n k else none else none|_=>none
def aj{l:ak}{a b k n:Nat}{g:Ky}(c:a<=k)(d:k+n<=b)(f:k+n<=l.length):fU (some (.cells (cR l) a b g)) k n=some ((l.drop k).take n):=by show(if a<=k then if k+n<=b then nE (cR l) n k else none else none)=_;rw[ar c,ar d,Ki f]
@[simp]def iv{o:Ky}{k n:Nat}:s.bE o k n=fU (ao s.h o) k n:=by
 unfold HS.bE fU;cases ao s.h o with
 |none=>rfl
 |some b=>cases b with|cells t c d g=>show gP (Nat.ble c k) (gP (Nat.ble (Nat.add k n) d) (nE t n k) none) none=_;simp[cj]|mp f=>rfl|loop i a j ps jl body=>rfl
@[simp]def aeh{o:Ky}{k:Nat}:s.load o k none=s.cell o k:=rfl
@[simp]def aei{o:Ky}{k n:Nat}:s.load o k (some n)=bU (s.bE o k n) (λl=>some (.agg l)) none:=rfl
def kM(s:HS)(b:Option Ob)(o:Ky)(k:Nat)(l:ak):Option HS:=match b with
 |some (.cells t a c g)=>if a<=k then if k+l.length<=c then(match ao s.gr g with|some d=>s.kW o k l t a c g d|none=>none)else none else none
 |_=>none
@[simp]def lv{o:Ky}{k:Nat}{l:ak}:s.store o k l=kM s (ao s.h o) o k l:=by
 unfold HS.store kM;cases ao s.h o with
 |none=>rfl
 |some b=>cases b with
  |cells t a c g=>show gP (Nat.ble a k) (gP (Nat.ble (Nat.add k (aM l)) c) (bU (ao s.gr g) (s.kW o k l t a c g) none) none) none=_;simp only[Ka,cj,Nj,cP,bL];cases ao s.gr g<;>rfl
  |mp f=>rfl
  |loop i d j ps jl body=>rfl
def Kj(s:HS)(ms:Option cm)(o:Ky)(k:Nat)(l new:ak)(a b:Nat)(g:Ky):Option HS:=match ms with|some ms=>s.kW o k new (cR l) a b g ms|none=>none
def ah{o:Ky}{k:Nat}{l new:ak}{a b:Nat}{g:Ky}(c:a<=k)(d:k+new.length<=b):kM s (some (.cells (cR l) a b g)) o k new=Kj s (ao s.gr g) o k l new a b g:=by show(if a<=k then if k+new.length<=b then(match ao s.gr g with|some f=>s.kW o k new (cR l) a b g f|none=>none)else none else none)=_;rw[ar c,ar d];cases ao s.gr g<;>rfl
def an{o m:Ky}{k:Nat}{l new:ak}{a b:Nat}{g:Ky}(h:k+new.length<=l.length):Kj s (some [m]) o k l new a b g=some {h:=av (some (.cells (cR (I6 l k new)) a b g)) o s.h,nx:=s.nx,gr:=s.gr,ty:=s.ty}:=by show some (HS.mk (av (some (.cells (dq new k (cR l)) a b g)) o s.h) s.nx s.gr s.ty)=_;rw[Kf new l k h]
end mem
mutual
def yy:∀v:HV,fL v v=true
 |.int k n=>by show(decide (k=k)&&nG n n)=true;simp[si]
 |.bool b=>by show(b==b)=true;simp
 |.str l=>by show qx l l=true;simp[sj]
 |.ai=>rfl
 |.dZ=>rfl
 |.gU=>rfl
 |.fV=>rfl
 |.gj=>rfl
 |.undef=>rfl
 |.ptr o k=>by show(o.beq o&&Nat.beq k k)=true;simp[Ky.beq_iff]
 |.sl o a b c=>by show(o.beq o&&Nat.beq a a&&Nat.beq b b&&Nat.beq c c)=true;simp[Ky.beq_iff]
 |.mp o=>by show o.beq o=true;simp[Ky.beq_iff]
 |.fn f a b=>by show(Nat.beq f f&&fL.iD a a&&fL.iD b b)=true;simp[iw a,iw b]
 |.jk o=>by show o.beq o=true;simp[Ky.beq_iff]
 |.agg l=>by show fL.iD l l=true;exact iw l
 |.bN l=>by show fL.iD l l=true;exact iw l
 |.ax l=>by show fL.iD l l=true;exact iw l
 |.psl l=>by show fL.qS l l=true;exact uP l
def iw:∀l:ak,fL.iD l l=true
 |[]=>rfl
 |v::r=>by show(fL v v&&fL.iD r r)=true;rw[yy v,iw r];rfl
def uP:∀l:aR,fL.qS l l=true
 |[]=>rfl
 |v::r=>by show(fL.iD v v&&fL.qS r r)=true;rw[iw v,uP r];rfl
end
section drawn
variable{R:Task->Out}{e:En}{s:HS}
def Kk:DK->List HS->HS->List HS
 |.r,b,_=>b
 |.l _ _,b,_=>b
 |.a,b,s=>b++[s]
 |.e,b,s=>b++[s]
@[simp]def aiw{vs:List HS}:Kk .r vs s=vs:=rfl
@[simp]def aix{vs:List HS}{a b:Nat}:Kk (.l a b) vs s=vs:=rfl
@[simp]def aiy{vs:List HS}:Kk .a vs s=vs++[s]:=rfl
@[simp]def aiz{vs:List HS}:Kk .e vs s=vs++[s]:=rfl
def Yx{K:En->HS->Out}{d:bG}{op:lO}:one R ⟨d,op,none⟩ e s K=yo R d e s K (cO op e s):=X2 (l:=[])
def Yy{K:En->HS->Out}{d:bG}{op:lO}{t:Nat}{b:Bool}:one R ⟨d,op,some (t,b)⟩ e s K=X1 (look e t) b (yo R d e s K (cO op e s)) (K (e.put d .undef) s):=GR (l:=[])
@[simp]def Yz{K:En->HS->List HS->Out}{vs:List HS}:kY R K [] e s vs=K e s vs:=rfl
def AN{K:En->HS->List HS->Out}{vs:List HS}{i:Nat}{o:aU}{k:DK}{l:List dW}:kY R K (⟨i,o,k⟩::l) e s vs=one R o e s (λe' s'=>kY R K l e' s' (Kk k vs s')):=by cases k<;>rfl
@[simp]def aej{K:En->HS->List HS->Out}{vs:List HS}{i:Nat}{d:bG}{op:lO}{k:DK}{l:List dW}:kY R K (⟨i,⟨d,op,none⟩,k⟩::l) e s vs=yo R d e s (λe' s'=>kY R K l e' s' (Kk k vs s')) (cO op e s):=by rw[AN,Yx]
def FF{K:En->HS->List HS->Out}{vs:List HS}{i:Nat}{d:bG}{op:lO}{t:Nat}{b:Bool}{k:DK}{l:List dW}:kY R K (⟨i,⟨d,op,some (t,b)⟩,k⟩::l) e s vs=X1 (look e t) b (yo R d e s (λe' s'=>kY R K l e' s' (Kk k vs s')) (cO op e s)) (kY R K l (e.put d .undef) s (Kk k vs s)):=by rw[AN,Yy]
@[simp]def abe{K:En->HS->List HS->Out}{vs:List HS}{i:Nat}{d:bG}{op:lO}{t:Nat}{b:Bool}{k:DK}{l:List dW}(h:look e t=some (.bool b)):kY R K (⟨i,⟨d,op,some (t,b)⟩,k⟩::l) e s vs=yo R d e s (λe' s'=>kY R K l e' s' (Kk k vs s')) (cO op e s):=by rw[FF,h,mU,ar rfl]
@[simp]def abf{K:En->HS->List HS->Out}{vs:List HS}{i:Nat}{d:bG}{op:lO}{t:Nat}{b:Bool}{k:DK}{l:List dW}(h:look e t=some (.bool !b)):kY R K (⟨i,⟨d,op,some (t,b)⟩,k⟩::l) e s vs=kY R K l (e.put d .undef) s (Kk k vs s):=by rw[FF,h,mU,aq (by cases b<;>simp)]
@[simp]def abg{K:En->HS->List HS->Out}{vs:List HS}{i:Nat}{d:bG}{op:lO}{t:Nat}{b:Bool}{k:DK}{l:List dW}(h:look e t=some .undef):kY R K (⟨i,⟨d,op,some (t,b)⟩,k⟩::l) e s vs=kY R K l (e.put d .undef) s (Kk k vs s):=by rw[FF,h,AK]
@[simp]def aek{outs:ay}{main:List dW}{a:List aU}:Ox R outs main a e s=kY R (λe1 s' vs=>if cd e1 vs main=true then mA R (λe' b=>.code .normal (gX outs e' e) b) a e1 s' else .bad 14) main e s [s]:=by show kY R (λe1 s' vs=>gP (cd e1 vs main) (mA R (λe' b=>.code .normal (gX outs e' e) b) a e1 s') (.bad 14)) main e s [s]=_;simp only[Ka]
def rdK(v:bV)(r:da):Bool:=match v,r with|some v,.v u _=>fL v u|_,_=>false
@[simp]def YA{v:HV}:rdK (some v) (.v v s)=true:=yy v
@[simp]def abh{vs:List HS}:cd e vs []=true:=rfl
@[simp]def aiA{vs:List HS}{i:Nat}{o:aU}{r:List dW}:cd e vs (⟨i,o,.r⟩::r)=cd e vs r:=by rw[cd];simp
@[simp]def aiB{vs:List HS}{i:Nat}{o:aU}{r:List dW}:cd e vs (⟨i,o,.a⟩::r)=cd e vs r:=by rw[cd];simp
@[simp]def aiC{vs:List HS}{i:Nat}{o:aU}{r:List dW}:cd e vs (⟨i,o,.e⟩::r)=cd e vs r:=by rw[cd];simp
def gdB(v:bV)(b:Bool)(x:Bool):Bool:=match v with|some (.bool q)=>if q=b then x else true|some .undef=>true|_=>false
@[simp]def YB{q b x:Bool}:gdB (some (.bool q)) b x=if q=b then x else true:=rfl
@[simp]def VC{b x:Bool}:gdB (some .undef) b x=true:=rfl
@[simp]def aiD{vs:List HS}{i a b:Nat}{d:bG}{op:lO}{r:List dW}:cd e vs (⟨i,⟨d,op,none⟩,.l a b⟩::r)=(ic ⟨d,op,none⟩ e (b-a) (vs.drop a)&&cd e vs r):=by rw[cd];rfl
@[simp]def ael{vs:List HS}{i a c t:Nat}{b:Bool}{d:bG}{op:lO}{r:List dW}:cd e vs (⟨i,⟨d,op,some (t,b)⟩,.l a c⟩::r)=(gdB (look e t) b (ic ⟨d,op,some (t,b)⟩ e (c-a) (vs.drop a))&&cd e vs r):=by
 rw[cd]
 congr 1
 have f:kX e (aU.mk d op (some (t,b))).g=match look e t with|some (.bool q)=>some (q==b)|some .undef=>some false|_=>none:=rfl
 show(match kX e (aU.mk d op (some (t,b))).g with|some true=>_|some false=>true|none=>false)=_;rw[f];cases look e t with
 |none=>rfl
 |some v=>
  cases v<;>try rfl
  rename_i q;cases q<;>cases b<;>rfl
@[simp]def abi{d:Nat}{op:lO}{g:Option (Nat×Bool)}{r:List HS}:ic ⟨some d,op,g⟩ e 0 (s::r)=rdK (look e d) (cO op e s):=by rw[ic];simp only[jS];cases look e d<;>cases cO op e s<;>rfl
@[simp]def abj{d:Nat}{op:lO}{g:Option (Nat×Bool)}{n:Nat}{r:List HS}:ic ⟨some d,op,g⟩ e (n+1) (s::r)=(rdK (look e d) (cO op e s)&&ic ⟨some d,op,g⟩ e n r):=by
 rw[ic]
 congr 1
end drawn
def fm(k:IntKind)(a b:Int):HV.zB (.int k a) (.int k b)=some (decide (a=b)):=by show(bif decide (k=k)then some (nG a b)else none)=_;simp[si]
def Kl(a b:Bool):HV.zB (.bool a) (.bool b)=some (a==b):=rfl
def Np(a b:ay):HV.zB (.str a) (.str b)=some (decide (a=b)):=by show some (qx a b)=_;rw[sj]
def dQ(x y:HV)(r t:ak)(q a:Bool)(h:x.zB y=some q)(b:sU r t=some a):sU (x::r) (y::t)=some (q&&a):=by
 rw[sU,h];cases q
 .rfl
 simp[b]
def sn:sU [] []=some true:=by rw[sU]
def so(a:ay)(l m:ak)(b:ds a l=true)(c:ds a m=true):qB ⟨true,a⟩ (.agg l) (.agg m)=sU l m:=by show(bif true then(bif ds a l&&ds a m then sU l m else none)else _)=_;rw[b,c];rfl
abbrev iV(n:Int):HV:=.int .i64 n
structure Mv where
 id:Int
 arg:Int
 kind:Int
 n:Int
 deriving DecidableEq,Inhabited
abbrev aP:=List Mv
structure Bs where
 cell:Bool
 n:Int
 deriving DecidableEq,Inhabited
abbrev pP:=List Bs
structure Ty where
 ps:pP
 res:Bs
 deriving DecidableEq,Inhabited
abbrev sq:=List Ty
structure Ar where
 ids:sq
 root:Bs
 jumps:Bool
 deriving DecidableEq,Inhabited
@[simp]def Mv.c(m:Mv):ak:=[.int .i64 m.id,.int .i64 m.arg,.int .u8 m.kind,.int .i64 m.n]
@[simp]def Bs.c(b:Bs):ak:=[.bool b.cell,.int .i64 b.n]
@[simp]def Ty.c(t:Ty):ak:=[.psl (t.ps.map Bs.c),.bool t.res.cell,.int .i64 t.res.n]
@[simp]def Ar.c(a:Ar):ak:=[.psl (a.ids.map Ty.c),.bool a.root.cell,.int .i64 a.root.n,.bool a.jumps]
@[simp]def qk(l:aP):eu (l.map Mv.c)=true:=cq (λx=>by simp) l
@[simp]def abk(l:pP):eu (l.map Bs.c)=true:=cq (λx=>by simp) l
@[simp]def GW(l:sq):eu (l.map Ty.c)=true:=cq (λx=>by simp) l
def Sz(sz:Nat)(au:aR):Prop:=∀r∈au,r.length=sz
def Sz.nil{sz:Nat}:Sz sz []:=λ_ h=>by cases h
def Sz.cons{sz:Nat}{r:ak}{au:aR}(h:r.length=sz)(b:Sz sz au):Sz sz (r::au):=by
 intro x a;rcases bm.1 a with rfl|a
 .exact h
 exact b x a
def Sz.append{sz:Nat}{a b:aR}(h:Sz sz a)(k:Sz sz b):Sz sz (a++b):=by
 intro x c;rcases cG.1 c with c|c
 .exact h x c
 exact k x c
def Sz.map{α:Type}{sz:Nat}{f:α->ak}(h:∀x,(f x).length=sz)(l:List α):Sz sz (l.map f):=by intro x a;obtain⟨y,_,rfl⟩:=dA.1 a;exact h y
@[simp]def mV:aD []=[]:=rfl
@[simp]def dw{r:ak}{au:aR}:aD (r::au)=r++aD au:=rfl
@[simp]def kN{a b:aR}:aD (a++b)=aD a++aD b:=by induction a with|nil=>rfl|cons r a ih=>simp[ih]
def cQ{sz:Nat}{au:aR}(h:Sz sz au):(aD au).length=au.length*sz:=by induction au with|nil=>simp|cons r au ih=>rw[dw,cE,ih λx a=>h x (dh _ a),h r dy,aA,jV,wZ]
def IC{sz:Nat}{au:aR}(h:Sz sz au)(i:Nat)(a:i<au.length):((aD au).drop (i*sz)).take sz=au[i]:=by
 induction au generalizing i with
 |nil=>simp at a
 |cons r au ih=>
  have b:r.length=sz:=h r dy;cases i with
  |zero=>simp[<-b]
  |succ i=>
   have c:(r++aD au).drop sz=aD au:=by rw[<-b];simp
   rw[dw,jV,wZ,<-List.drop_drop,c];exact ih (λx d=>h x (dh _ d)) i (by simpa using a)
def gJ{sz:Nat}{au:aR}(h:Sz sz au)(i j:Nat)(a:i<au.length)(b:j<sz):(aD au)[i*sz+j]?=(au[i])[j]?:=by rw[<-IC h i a,rV b,mH]
def lY{sz:Nat}{au:aR}(h:Sz sz au):jL sz au.length (aD au)=au:=by induction au with|nil=>rfl|cons r au ih=>have b:r.length=sz:=h r dy;show gQ sz (r++aD au)::jL sz au.length (iB sz (r++aD au))=_;rw[yp,yq,GX (by omega),iZ (by omega),List.drop_append_of_le_length (by omega),Br (by omega),bD,ih λx a=>h x (dh _ a)]
def ql{sz:Nat}{au:aR}(h:Sz sz au):dt sz au=true:=by induction au with|nil=>rfl|cons r au ih=>show(Nat.beq (aM r) sz&&dt sz au)=true;rw[ih λx a=>h x (dh _ a),cP,h r dy,cU];simp
def yz{au:aR}:du (aD au)=eu au:=by induction au with|nil=>rfl|cons r au ih=>simp[ih]
section
variable{s:HS}
def Nq(s:HS)(sz bx:Nat)(f:bG)(o:Ky)(bo len:Nat)(new:ak)(dX:Nat)(g:Ky)(p:Tr Ob×List Ky):da:=match p with
  |(h0,b)=>match bP h0 o (bo+len*sz) (bo+len*sz+aM new) b with
          |(c,a)=>match ao c o with
            |some (.cells t d i _)=>
              bif jn o a&&Nat.ble d bo&&Nat.ble (bo+len*sz) i&&Nat.ble (len+dX) bx then
                .v (.sl s.nx bo (len+dX) sz) {h:=av (some (.cells (dq new (bo+len*sz) t) bo (bo+len*sz+aM new) g)) s.nx (av (some (.cells t d (bo+len*sz) g)) o c),nx:=s.nx.succ,gr:=av (some (s.nx::a)) g s.gr,ty:=mf f o s}
              else .bad
            |_=>.bad
def jW{sz bx dX:Nat}{a:bG}{new:ak}(h0:dX≠0)(b:dX<=bx):s.append sz bx a .ai new dX=s.CJ (Ez a s) new (λo=>.sl o 0 dX sz):=by show(bif Nat.beq dX 0 then da.v .ai s else bif Nat.ble dX bx then s.CJ (Ez a s) new (λo=>.sl o 0 dX sz)else .bad)=_;rw[cU,cj];simp[h0,b]
@[simp]def qc{ty:Tr (Nat×Nat)}{l:ak}{K:Ky->HV}:s.CJ ty l K=.v (K s.nx) {h:=av (some (.cells (cR l) 0 l.length s.nx)) s.nx s.h,nx:=s.nx.succ,gr:=av (some [s.nx]) s.nx s.gr,ty:=ty}:=by show da.v (K s.nx) {h:=av (some (.cells (dq l 0 .lf) 0 (aM l) s.nx)) s.nx s.h,nx:=s.nx.succ,gr:=av (some [s.nx]) s.nx s.gr,ty:=ty}=_;rw[cP];rfl
def mL{sz bx dX:Nat}{a:bG}{new:ak}{o:Ky}{bo len:Nat}{t:Tr HV}{b c:Nat}{g:Ky}{ms:cm}(h0:dX≠0)(d:ao s.h o=some (.cells t b c g))(f:ao s.gr g=some ms):
  s.append sz bx a (.sl o bo len sz) new dX=Nq s sz bx a o bo len new dX g (eU s.h 12 ms):=by
 unfold HS.append;simp only[cU,eV,h0,lb,cond_false,oC,d,f];rfl
@[simp]def VD:Ez none s=s.ty:=rfl
@[simp]def VE{o:Ky}:mf none o s=s.ty:=rfl
def mW(sz bx:Nat)(f:bG)(x y:bV)(s:HS):da:=match x,y with
  |some a,some b=>bif iS a then(match b with
   |.ai=>.v a s
   |.sl o d len _=>bif Nat.beq len 0 then .v a s else bU (s.bE o d (len*sz)) (λl=>s.append sz bx f a l len) .bad
   |.psl c=>bif Nat.beq (aM c) 0 then .v a s else bif dt sz c then s.append sz bx f a (aD c) (aM c)else .bad
   |_=>.bad)else .bad
  |_,_=>.bad
variable{e:En}
@[simp]def abl{sz bx:Nat}{a:bG}{x ys:X}:cO (.app sz bx a x ys) e s=mW sz bx a (bq x e) (bq ys e) s:=rfl
def qn{sz bx:Nat}{a:bG}{v:HV}(h:iS v=true):mW sz bx a (some v) (some (.psl [])) s=.v v s:=by show(bif iS v then(bif Nat.beq (aM ([]:aR)) 0 then da.v v s else _)else _)=_;rw[h];rfl
def mX{sz bx:Nat}{a:bG}{v:HV}{au:aR}(h:iS v=true)(h0:au≠ [])(b:Sz sz au):mW sz bx a (some v) (some (.psl au)) s=s.append sz bx a v (aD au) au.length:=by
 show(bif iS v then(bif Nat.beq (aM au) 0 then da.v v s else bif dt sz au then s.append sz bx a v (aD au) (aM au)else .bad)else .bad)=_;rw[h,ql b,cP,cU];have:au.length≠0:=by simpa using h0
 simp[this]
def Nr(v:bV):bG:=match v with|some v=>Ot v|none=>none
@[simp]def YC{k:IntKind}{n:Nat}:Nr (some (.int k (n:Int)))=some n:=rfl
@[simp]def aem{k:IntKind}:Nr (some (.int k 0))=some 0:=rfl
@[simp]def aen{k:IntKind}:Nr (some (.int k 1))=some 1:=rfl
@[simp]def ID{d:Nat}:fI e d none=some d:=rfl
@[simp]def VF{d:Nat}{x:X}:fI e d (some x)=Nr (bq x e):=by rw[fI];cases bq x e<;>rfl
def DI(v:bV)(d f:Nat->bG)(g:Option X)(sz:Nat)(s:HS):da:=match v with
  |some (.sl o h len i)=>(match d 0,f len,g with
   |some a,some b,none=>bif Nat.ble a b&&Nat.ble b len&&Nat.beq sz i then .v (.sl o (h+a*sz) (b-a) sz) s else .bad
   |_,_,_=>.bad)
  |some (.psl c)=>(match d 0,f (aM c),g with
   |some a,some b,none=>bif Nat.ble a b&&Nat.ble b (aM c)&&dt sz c then .v (.psl (gQ (b-a) (iB a c))) s else .bad
   |_,_,_=>.bad)
  |some .ai=>(match d 0,f 0,g with|some 0,some 0,none=>.v .ai s|_,_,_=>.bad)
  |_=>.bad
@[simp]def abm{x:X}{a b c:Option X}{sz:Nat}:cO (.slc x a b c sz) e s=DI (bq x e) (λd=>fI e d a) (λd=>fI e d b) c sz s:=rfl
@[simp]def Ns{o:Ky}{bo len sz:Nat}{d c:Nat->bG}:DI (some (.sl o bo len sz)) d c none sz s=bU (d 0) (λa=>bU (c len) (λb=>if a<=b/\b<=len then .v (.sl o (bo+a*sz) (b-a) sz) s else .bad) .bad) .bad:=by
 unfold DI;show(match d 0,c len,(none:Option X)with
   |some a,some b,none=>bif Nat.ble a b&&Nat.ble b len&&Nat.beq sz sz then da.v (.sl o (bo+a*sz) (b-a) sz) s else .bad
   |_,_,_=>.bad)=_
 cases d 0 with
 |none=>cases c len<;>rfl
 |some a=>cases c len with|none=>rfl|some b=>
   show(bif Nat.ble a b&&Nat.ble b len&&Nat.beq sz sz then da.v (.sl o (bo+a*sz) (b-a) sz) s else .bad)=if a<=b/\b<=len then _ else _
   rw[cj,cj,cU];by_cases f:a<=b<;>by_cases g:b<=len<;>simp[f,g]
@[simp]def YD{au:aR}{sz:Nat}{d c:Nat->bG}:DI (some (.psl au)) d c none sz s=bU (d 0) (λa=>bU (c au.length) (λb=>if a<=b/\b<=au.length/\dt sz au=true then .v (.psl ((au.drop a).take (b-a))) s else .bad) .bad) .bad:=by
 unfold DI;show(match d 0,c (aM au),(none:Option X)with
   |some a,some b,none=>bif Nat.ble a b&&Nat.ble b (aM au)&&dt sz au then da.v (.psl (gQ (b-a) (iB a au))) s else .bad
   |_,_,_=>.bad)=_
 rw[cP];cases d 0 with
 |none=>cases c au.length<;>rfl
 |some a=>cases c au.length with|none=>rfl|some b=>
   show(bif Nat.ble a b&&Nat.ble b au.length&&dt sz au then da.v (.psl (gQ (b-a) (iB a au))) s else .bad)=if a<=b/\b<=au.length/\dt sz au=true then _ else _
   rw[cj,cj,yp,yq];by_cases f:a<=b<;>by_cases g:b<=au.length<;>by_cases h:dt sz au=true<;>simp[f,g,h]
end
section views
variable{s:HS}
def Vw(s:HS)(n:Nat)(v a:HV):Prop:=∃t,vw s n v=some (a,t)
def nz(s:HS)(n:Nat)(l l':ak):Prop:=∃t,oO (vw s n) l=some (l',t)
def nz.nil{n:Nat}:nz s n [] []:=⟨[],rfl⟩
def nz.cons{n:Nat}{v a:HV}{l l':ak}(h:Vw s n v a)(k:nz s n l l'):nz s n (v::l) (a::l'):=by obtain⟨t,h⟩:=h;obtain⟨u,k⟩:=k;exact⟨t++u,by rw[oO,h,k]⟩
def Vw.data{n:Nat}{v:HV}(h:eh v=true):Vw s (n+1) v v:=⟨[],vZ h⟩
def nz.data{n:Nat}:∀{l:ak},du l=true->nz s (n+1) l l
 |[],_=>.nil
 |v::r,h=>by rw[Ix,aL]at h;exact .cons (.data h.1) (.data h.2)
def Vw.ai{n:Nat}:Vw s (n+1) .ai (.psl []):=⟨[],rfl⟩
def nz.append{n:Nat}{l l' m a:ak}(h:nz s n l l')(k:nz s n m a):nz s n (l++m) (l'++a):=by
 induction l generalizing l' with
 |nil=>obtain⟨t,h⟩:=h;cases h;exact k
 |cons v r ih=>
  obtain⟨t,h⟩:=h;unfold oO at h
  split at h
  .rename_i d f g i b c;cases h;exact .cons ⟨_,b⟩ (ih ⟨_,c⟩)
  cases h
def Vw.agg{n:Nat}{l l':ak}(h:nz s n l l'):Vw s (n+1) (.agg l) (.agg l'):=by
 cases a:eh (.agg l)with
 |true=>
  obtain⟨t,h⟩:=h;rw[Nl]at a;cases n with
  |zero=>
   cases l with
   |nil=>cases h;exact⟨[],vZ (by simp)⟩
   |cons v r=>unfold oO at h;split at h<;>simp_all [vw]
  |succ n=>obtain⟨u,b⟩:=nz.data (s:=s) (n:=n) a;rw[b]at h;cases h;exact .data (by simpa using a)
 |false=>obtain⟨t,h⟩:=h;refine⟨t,?_⟩;show(bif eh (.agg l)then some (HV.agg l,[])else match oO (vw s n) l with|some (l',t)=>some (HV.agg l',t)|none=>none)=_;rw[a,h];rfl
def Vw.bN{n:Nat}{l l':ak}(h:nz s n l l'):Vw s (n+1) (.bN l) (.bN l'):=by
 cases a:eh (.bN l)with
 |true=>
  obtain⟨t,h⟩:=h;rw[Nn]at a;cases n with
  |zero=>
   cases l with
   |nil=>cases h;exact⟨[],vZ (by simp)⟩
   |cons v r=>unfold oO at h;split at h<;>simp_all [vw]
  |succ n=>obtain⟨u,b⟩:=nz.data (s:=s) (n:=n) a;rw[b]at h;cases h;exact .data (by simpa using a)
 |false=>obtain⟨t,h⟩:=h;refine⟨t,?_⟩;show(bif eh (.bN l)then some (HV.bN l,[])else match oO (vw s n) l with|some (l',t)=>some (HV.bN l',t)|none=>none)=_;rw[a,h];rfl
def Vw.sl{n:Nat}{o:Ky}{bo len sz:Nat}{l l':ak}{r:aR}(b:fU (ao s.h o) bo (len*sz)=some l)(h:nz s n l l')(c:len≠0->jL sz len l'=r)(h0:len=0->r=[]):Vw s (n+1) (.sl o bo len sz) (.psl r):=by
 obtain⟨t,h⟩:=h;by_cases a:len=0
 .subst a;rw[h0 rfl];exact⟨[],rfl⟩
 refine⟨o::t,?_⟩;show(bif eh (.sl o bo len sz)then _ else bif Nat.beq len 0 then _ else match s.bE o bo (len*sz)with|some l=>(match oO (vw s n) l with|some (l',t)=>some (HV.psl (jL sz len l'),o::t)|none=>none)|none=>none)=_;rw[show eh (.sl o bo len sz)=false by simp[eh],cU,iv,b];simp only[a,lb,cond_false,h];rw[c a]
def Vw.rows{n:Nat}{o:Ky}{sz a:Nat}{au:aR}{g:Ky}(c:ao s.h o=some (.cells (cR (aD au)) 0 a g))(b:Sz sz au)(d:eu au=true)(i:au.length*sz<=a):Vw s (n+2) (.sl o 0 au.length sz) (.psl au):=by have f:=cQ b;refine Vw.sl (l:=aD au) (l':=aD au) (by rw[c,aj (aY _) (by omega) (by omega)];simp[<-f]) (.data (by rw[yz];exact d)) (λ_=>lY b) (λh=>iJ h)
def Vw.ptr{n:Nat}{o:Ky}{l l':ak}{a:Nat}{g:Ky}(b:ao s.h o=some (.cells (cR l) 0 a g))(c:a=l.length)(h:nz s n l l'):Vw s (n+1) (.ptr o 0) (.ax l'):=by obtain⟨t,h⟩:=h;refine⟨o::t,?_⟩;show(bif eh (.ptr o 0)then _ else match ao s.h o with|some (.cells _ _ a _)=>bif Nat.ble 0 a then(match s.bE o 0 (a-0)with|some l=>(match oO (vw s n) l with|some (l',t)=>some (HV.ax l',o::t)|none=>none)|none=>none)else none|_=>none)=_;rw[show eh (.ptr o 0)=false by simp[eh],b];simp only[cond_false,cj,fD,eV,cond_true,iv,b,Nat.sub_zero];rw[aj (aY _) (by omega) (by omega),c];simp[h]
def Vw.fn{n:Nat}{f:Nat}{a d b g:ak}(h:nz s (n+1) a d)(k:nz s (n+1) b g):Vw s (n+2) (.fn f a b) (.fn f d g):=by
 cases c:eh (.fn f a b)with
 |true=>obtain⟨t,h⟩:=h;obtain⟨i,k⟩:=k;rw[Ti,aL]at c;obtain⟨u,m⟩:=nz.data (s:=s) (n:=n) c.1;obtain⟨p,j⟩:=nz.data (s:=s) (n:=n) c.2;rw[m]at h;cases h;rw[j]at k;cases k;exact .data (by simpa using c)
 |false=>obtain⟨t,h⟩:=h;obtain⟨i,k⟩:=k;refine⟨t++i,?_⟩;show(bif eh (.fn f a b)then some (HV.fn f a b,[])else match oO (vw s (n+1)) a,oO (vw s (n+1)) b with|some (d,t),some (g,i)=>some (HV.fn f d g,t++i)|_,_=>none)=_;rw[c,h,k];rfl
def aC{v a:HV}(h:Vw s 16 v a):AL (.val v s)=some a:=by obtain⟨t,h⟩:=h;show(match vw s 16 v with|some (a,_)=>some a|none=>none)=_;rw[h]
end views
section call
variable{L:jx}{prog:Nat->Option HF}
def lx{t:Task}{o:Out}(h:ea L prog t=o)(a:Good o):step L prog (ea L prog) t=o:=by
 obtain⟨n,c⟩:=ym h a;cases n with
 |zero=>subst c;exact a.elim
 |succ m=>
  have d:step L prog (run L prog m) t=o:=c;have f:Conv (λ_=>ea L prog) (run L prog m):=λj p g b=>oL.of λ_=>by subst g;exact B5 b
  obtain⟨k,i⟩:=tO f t d a;exact i k (aY _)
def Tl(f:Nat)(F:HF)(args l:ak)(v:HV)(s:HS)(c:prog f=some F)(d:pO L f=true)(g:F.pu=true)(k:cC args=false)(b:nz s 16 args l)(i:du l=true)(m:eX v=true)(h:ea L prog (.call f l s0)=.val v s0):
  ea L prog (.call f args s)=.val v s:=by
 have h:=lx h trivial;have h:sQ L f l s0 (bu prog (ea L prog) f l s0)=.val v s0:=h;rw[ff d]at h;unfold bu at h;rw[c]at h;have h:(bif F.pu then bW F (ea L prog) l s0 else dD F (ea L prog) l s0)=.val v s0:=h;rw[g,cond_true]at h;unfold bW at h;rw[dS l i,cond_true,i,cond_true]at h;have a:jo F (ea L prog) l=some v:=by
  cases j:jo F (ea L prog) l with
  |none=>rw[j]at h;cases h
  |some n=>rw[j]at h;cases h;rfl
 refine dB ?_ trivial;show sQ L f args s (bu prog (ea L prog) f args s)=_;rw[ff d];unfold bu;rw[c];show(bif F.pu then bW F (ea L prog) args s else dD F (ea L prog) args s)=_;rw[g,cond_true];unfold bW;obtain⟨t,b⟩:=b;rw[k,cond_false,b];show bU (jo F (ea L prog) l) (λv=>bif eX v then Out.val v s else bif gq F (ea L prog) l then .val v s else .bad 41) (.bad 42)=_;rw[a,dO,m];rfl
def wa(f:Nat)(F:HF)(args l:ak)(v:HV)(s:HS)(c:prog f=some F)(d:pO L f=true)(g:F.pu=true)(k:cC args=false)(b:nz s 16 args l)(i:du l=true)(m:gq F (ea L prog) l=true)(h:ea L prog (.call f l s0)=.val v s0):
  ea L prog (.call f args s)=.val v s:=by
 have h:=lx h trivial;have h:sQ L f l s0 (bu prog (ea L prog) f l s0)=.val v s0:=h;rw[ff d]at h;unfold bu at h;rw[c]at h;have h:(bif F.pu then bW F (ea L prog) l s0 else dD F (ea L prog) l s0)=.val v s0:=h;rw[g,cond_true]at h;unfold bW at h;rw[dS l i,cond_true,i,cond_true]at h;have a:jo F (ea L prog) l=some v:=by
  cases j:jo F (ea L prog) l with
  |none=>rw[j]at h;cases h
  |some n=>rw[j]at h;cases h;rfl
 refine dB ?_ trivial;show sQ L f args s (bu prog (ea L prog) f args s)=_;rw[ff d];unfold bu;rw[c];show(bif F.pu then bW F (ea L prog) args s else dD F (ea L prog) args s)=_;rw[g,cond_true];unfold bW;obtain⟨t,b⟩:=b;rw[k,cond_false,b];show bU (jo F (ea L prog) l) (λv=>bif eX v then Out.val v s else bif gq F (ea L prog) l then .val v s else .bad 41) (.bad 42)=_;rw[a,dO,m];cases eX v<;>rfl
def gC:Out->Prop
 |.code .ret _ _=>True
 |.code (.exit _) _ _=>True
 |_=>False
def gC.Nt{o:Out}(h:gC o):Good o:=by
 unfold gC at h
 split at h<;>first|trivial|exact h.elim
def gC.ch{o:Out}(h:gC o)(f:En->HS->Out):o.ch f=o:=by
 unfold gC at h
 split at h<;>first|rfl|exact h.elim
def Nu{c:HC}(n:Nat)(I:Nat->En->HS->Prop)(Q:Out->Prop)(i:Nat)(e:En)(s:HS)(j:i<=n)(d:I i e s)
  (round:∀i e s,i<n->I i e s->(∃e' s',bK (ea L prog) c e s=.code .normal e' s'/\I (i+1) e' s')∨(gC (bK (ea L prog) c e s)/\Q (bK (ea L prog) c e s)))
  (last:∀e s,I n e s->gC (bK (ea L prog) c e s)/\Q (bK (ea L prog) c e s)):
  ∃o,bK (ea L prog) (.loop c) e s=o/\gC o/\Q o:=by
 obtain⟨k,m⟩:∃k,n-i=k:=⟨_,rfl⟩
 induction k generalizing i e s with
 |zero=>
  obtain rfl:i=n:=by omega
  obtain⟨a,b⟩:=last e s d;exact⟨_,by rw[yu,a.ch],a,b⟩
 |succ k ih=>
  rcases round i e s (by omega) d with⟨e',s',a,b⟩|⟨a,b⟩
  .obtain⟨o,g,f,h⟩:=ih (i+1) e' s' (by omega) b (by omega);exact⟨o,by rw[yu,a,kF];exact Th g f.Nt,f,h⟩
  exact⟨_,by rw[yu,a.ch],a,b⟩
def aX{c:HC}{e:En}{s:HS}{o:Out}(d:bK (ea L prog) (.loop c) e s=o)(n:Nat)(I:Nat->En->HS->Prop)(Q:Out->Prop)(i:Nat)(b:i<=n)(a:I i e s)
  (round:∀i e s r,i<n->I i e s->bK (ea L prog) c e s=r->(∃e' s',r=.code .normal e' s'/\I (i+1) e' s')∨(gC r/\Q r))
  (last:∀e s r,I n e s->bK (ea L prog) c e s=r->gC r/\Q r):Q o:=by
 obtain⟨h,f,j,g⟩:=Nu n I Q i e s b a (λi e s b a=>round i e s _ b a rfl) (λe s a=>last e s _ a rfl);rw[<-d,f];exact g
end call
@[simp]def VG{e:En}{s:HS}:gC (.code .ret e s)=True:=rfl
@[simp]def Tm{i:Nat}{e:En}{s:HS}:gC (.code (.exit i) e s)=True:=rfl
def jZ:∀(ms:cm) (h:Tr Ob) (n:Nat),(∀p,p ∉ ms->ao (eU h n ms).1 p=ao h p)/\(∀m∈(eU h n ms).2,m∈ms)
 |[],h,0=>⟨λ_ _=>rfl,λ_ h=>h⟩
 |[],h,n+1=>⟨λ_ _=>rfl,λ_ h=>h⟩
 |m::r,h,0=>by obtain⟨c,d⟩:=jZ r (av none m h) 0;refine⟨λp b=>?_,λx a=>dh _ (d x a)⟩;show ao (eU (av none m h) 0 r).1 p=_;rw[c p λa=>b (dh _ a),af,aq (λ(e:p=m)=>b (by rw[e];exact dy))]
 |m::r,h,n+1=>by
  obtain⟨c,d⟩:=jZ r h n;refine⟨λp b=>?_,λx a=>?_⟩
  .show ao (eU h n r).1 p=_;exact c p λa=>b (dh _ a)
  have a:x∈m::(eU h n r).2:=a;rcases bm.1 a with rfl|a
  .exact dy
  exact dh _ (d x a)
def ru(o:Ky)(r:cm)(h:Tr Ob)(n:Nat):eU h (n+1) (o::r)=((eU h n r).1,o::(eU h n r).2):=rfl
def hH(o:Ky)(a b:Nat):∀(ms:cm) (h:Tr Ob),(∀p,p ∉ ms∨p=o->ao (bP h o a b ms).1 p=ao h p)/\(∀m∈(bP h o a b ms).2,m∈ms)
 |[],h=>⟨λ_ _=>rfl,λ_ h=>h⟩
 |m::r,h=>by
  obtain⟨f,i⟩:=hH o a b r h;have d:∀p,p ∉ m::r∨p=o->p ∉ r∨p=o:=λp d=>d.imp (λh c=>h (dh _ c)) id
  unfold bP;cases k:m.beq o with
  |true=>
   refine⟨λp c=>f p (d p c),λx c=>?_⟩;have c:x∈m::(bP h o a b r).2:=c;rcases bm.1 c with rfl|c
   .exact dy
   exact dh _ (i x c)
  |false=>
   have j:m≠o:=λe=>by rw[(Ky.beq_iff m o).2 e]at k;cases k
   simp only[cond_false]
   split
   .rename_i t n q g u;cases w:(Nat.blt n b&&Nat.blt a q)with
    |true=>
     refine⟨λp c=>?_,λx c=>dh _ (i x c)⟩;show ao (av none m (bP h o a b r).1) p=_;rw[af,aq,f p (d p c)]
     rintro rfl
     rcases c with c|c
     .exact c dy
     exact j c
    |false=>
     refine⟨λp c=>f p (d p c),λx c=>?_⟩;have c:x∈m::(bP h o a b r).2:=c;rcases bm.1 c with rfl|c
     .exact dy
     exact dh _ (i x c)
   exact⟨λp c=>f p (d p c),λx c=>dh _ (i x c)⟩
def kO(h:Tr Ob)(o:Ky)(a b:Nat)(r:cm):bP h o a b (o::r)=((bP h o a b r).1,o::(bP h o a b r).2):=by rw[bP,(Ky.beq_iff o o).2 rfl];rfl
def B9(s:HS)(v:HV)(sz L:Nat)(au:aR):Prop:=
 Sz sz au/\L<=s.nx.toNat/\((v=.ai/\au=[])∨∃o b g a,v=.sl o 0 au.length sz/\ao s.h o=some (.cells (cR (aD au)) 0 b g)/\au.length*sz<=b/\ao s.gr g=some (o::a)/\o ∉ a/\(∀m∈o::a,L<=m.toNat/\m.toNat<s.nx.toNat)/\L<=g.toNat/\g.toNat<s.nx.toNat)
def Low(L:Nat)(s s':HS):Prop:=s.nx.toNat<=s'.nx.toNat/\s'.ty=s.ty/\(∀p,p.toNat<L->ao s'.h p=ao s.h p)/\(∀g,g.toNat<L->ao s'.gr g=ao s.gr g)
def B9.ai{s:HS}{sz L:Nat}(h:L<=s.nx.toNat):B9 s .ai sz L []:=⟨Sz.nil,h,.inl ⟨rfl,rfl⟩⟩
def B9.iS{s:HS}{v:HV}{sz L:Nat}{au:aR}(h:B9 s v sz L au):iS v=true:=by rcases h.2.2 with⟨rfl,_⟩|⟨o,b,g,a,rfl,_⟩<;>rfl
def B9.new{s:HS}{sz L:Nat}{au:aR}(c:Sz sz au)(d:L<=s.nx.toNat):
  B9 {h:=av (some (.cells (cR (aD au)) 0 (aD au).length s.nx)) s.nx s.h,nx:=s.nx.succ,gr:=av (some [s.nx]) s.nx s.gr,ty:=s.ty} (.sl s.nx 0 au.length sz) sz L au/\
  Low L s {h:=av (some (.cells (cR (aD au)) 0 (aD au).length s.nx)) s.nx s.h,nx:=s.nx.succ,gr:=av (some [s.nx]) s.nx s.gr,ty:=s.ty}:=by
 have g:=Ky.ba s.nx;have a:∀p:Ky,p.toNat<L->p≠s.nx:=λp b e=>by subst e;omega
 refine⟨⟨c,by simp only;omega,.inr ⟨s.nx,_,s.nx,[],rfl,by rw[af,ar rfl],by rw[cQ c];exact aY _,by rw[af,ar rfl],by simp,λm f=>?_,d,by simp only;omega⟩⟩,by simp only;omega,rfl,λp b=>?_,λp b=>?_⟩
 .simp only[dE]at f;subst f;exact⟨d,by simp only;omega⟩
 .simp only;rw[af,aq (a p b)]
 simp only;rw[af,aq (a p b)]
def B9.append{s:HS}{v:HV}{sz L bx:Nat}{au new:aR}(h:B9 s v sz L au)(A:Sz sz new)(h0:new≠ [])(f:au.length+new.length<=bx):
    ∃N s',mW sz bx none (some v) (some (.psl new)) s=.v N s'/\B9 s' N sz L (au++new)/\Low L s s':=by
  have u:new.length≠0:=by simpa using h0
  rw[mX h.iS h0 A];obtain⟨O,Q,X⟩:=h;rcases X with⟨rfl,rfl⟩|⟨o,n,g,a,rfl,T,hh,Y,B,b,C,Z⟩
  . refine⟨_,_,by rw[jW u (by simpa using f),qc],?_⟩
    obtain⟨j,q⟩:=B9.new (s:=s) (sz:=sz) (L:=L) A Q;exact⟨j,q⟩
  have D:=Ky.ba s.nx;rw[mL u T Y];obtain⟨E,G⟩:=jZ a s.h 11;rw[show(12:Nat)=11+1 from rfl,ru];generalize h3:(eU s.h 11 a).1=j at E;generalize h4:(eU s.h 11 a).2=r at G;obtain⟨H,V⟩:=hH o (0+au.length*sz) (0+au.length*sz+aM (aD new)) r j;have c:=kO j o (0+au.length*sz) (0+au.length*sz+aM (aD new)) r;generalize h5:(bP j o (0+au.length*sz) (0+au.length*sz+aM (aD new)) r).1=q at H c;generalize h6:(bP j o (0+au.length*sz) (0+au.length*sz+aM (aD new)) r).2=k at V c;have d:∀m∈k,m∈a:=λm f=>G m (V m f)
  have ho:ao q o=some (.cells (cR (aD au)) 0 n g):=by rw[H o (.inr rfl),E o B,T]
  have hle:(aD au).length=0+au.length*sz:=by rw[cQ O,bw]
  have w:Nq s sz bx none o 0 au.length (aD new) new.length g (j,o::r)=.v (.sl s.nx 0 (au.length+new.length) sz) {h:=av (some (.cells (cR (aD au++aD new)) 0 (0+au.length*sz+(aD new).length) g)) s.nx (av (some (.cells (cR (aD au)) 0 (0+au.length*sz) g)) o q),nx:=s.nx.succ,gr:=av (some (s.nx::o::k)) g s.gr,ty:=s.ty}:=by
    show(match bP j o (0+au.length*sz) (0+au.length*sz+aM (aD new)) (o::r)with
        |(W,x)=>match ao W o with
          |some (.cells t y n _)=>
            bif jn o x&&Nat.ble y 0&&Nat.ble (0+au.length*sz) n&&Nat.ble (au.length+new.length) bx then
              da.v (.sl s.nx 0 (au.length+new.length) sz) {h:=av (some (.cells (dq (aD new) (0+au.length*sz) t) 0 (0+au.length*sz+aM (aD new)) g)) s.nx (av (some (.cells t y (0+au.length*sz) g)) o W),nx:=s.nx.succ,gr:=av (some (s.nx::x)) g s.gr,ty:=mf none o s}
            else .bad
          |_=>.bad)=_
    rw[c];show(match ao q o with
          |some (.cells t y n _)=>
            bif jn o (o::k)&&Nat.ble y 0&&Nat.ble (0+au.length*sz) n&&Nat.ble (au.length+new.length) bx then
              da.v (.sl s.nx 0 (au.length+new.length) sz) {h:=av (some (.cells (dq (aD new) (0+au.length*sz) t) 0 (0+au.length*sz+aM (aD new)) g)) s.nx (av (some (.cells t y (0+au.length*sz) g)) o q),nx:=s.nx.succ,gr:=av (some (s.nx::o::k)) g s.gr,ty:=mf none o s}
            else .bad
          |_=>.bad)=_
    rw[ho];show(bif jn o (o::k)&&Nat.ble 0 0&&Nat.ble (0+au.length*sz) n&&Nat.ble (au.length+new.length) bx then
              da.v (.sl s.nx 0 (au.length+new.length) sz) {h:=av (some (.cells (dq (aD new) (0+au.length*sz) (cR (aD au))) 0 (0+au.length*sz+aM (aD new)) g)) s.nx (av (some (.cells (cR (aD au)) 0 (0+au.length*sz) g)) o q),nx:=s.nx.succ,gr:=av (some (s.nx::o::k)) g s.gr,ty:=mf none o s}
            else .bad)=_
    rw[show jn o (o::k)=true by simp[jn,(Ky.beq_iff o o).2 rfl],cj,cj,cj,cV (aY 0),cV (show 0+au.length*sz<=n by omega),cV f,Kh _ _ _ hle.symm,cP];rfl
  refine⟨_,_,w,⟨Sz.append O A,by simp only;omega,.inr ⟨s.nx,_,g,o::k,by rw[cE],by rw[af,ar rfl,kN],?_,by rw[af,ar rfl],?_,?_,C,by simp only;omega⟩⟩,by simp only;omega,rfl,?_,?_⟩
  . rw[cE,cQ A,qW];omega
  . intro i
    rcases bm.1 i with i|i
    . have:=(b o dy).2;rw[<-i]at this;omega
    have:=(b _ (dh _ (d _ i))).2;omega
  . intro m f
    simp only;rcases bm.1 f with rfl|f
    . exact⟨Q,by omega⟩
    have I:m∈o::a:=by
      rcases bm.1 f with rfl|f
      . exact dy
      exact dh _ (d _ f)
    have:=b m I;exact⟨this.1,by omega⟩
  . intro p hp
    have J:p≠o:=λe=>by subst e;have:=(b p dy).1;omega
    have z:p ∉ a:=λi=>by have:=(b p (dh _ i)).1;omega
    have M:p≠s.nx:=λe=>by subst e;omega
    simp only;rw[af,aq M,af,aq J,H p (.inl λi=>z (G p i)),E p z]
  intro p hp;simp only;rw[af,aq λe=>by subst e;omega]
def B9.vw{s:HS}{v:HV}{sz L n:Nat}{au:aR}(h:B9 s v sz L au)(b:eu au=true):Vw s (n+2) v (.psl au):=by
 obtain⟨c,_,d⟩:=h;rcases d with⟨rfl,rfl⟩|⟨o,j,g,a,rfl,f,i,_⟩
 .exact .ai
 exact .rows f c b i
@[simp]def Tn{s:HS}{sz bx:Nat}{r:ak}(a:r.length=sz)(b:1<=bx):mW sz bx none (some .ai) (some (.psl [r])) s=.v (.sl s.nx 0 1 sz) {h:=av (some (.cells (cR r) 0 sz s.nx)) s.nx s.h,nx:=s.nx.succ,gr:=av (some [s.nx]) s.nx s.gr,ty:=s.ty}:=by subst a;rw[mX (v:=.ai) rfl (by simp) (Sz.cons rfl Sz.nil),jW (by simp) (by simpa using b),qc];simp
def bY(s:HS)(v:HV)(sz:Nat)(F:cg)(au:aR):Prop:=
 Sz sz au/\(∀k,F k->k.toNat<s.nx.toNat)/\((v=.ai/\au=[])∨∃o t b g a,v=.sl o 0 au.length sz/\ao s.h o=some (.cells t 0 b g)/\au.length*sz<=b/\(∀j,j<au.length*sz->fP t j=(aD au)[j]?)/\ao s.gr g=some (o::a)/\o ∉ a/\(∀m∈o::a,F m)/\F g)
def di(F:cg)(s s':HS):Prop:=s.nx.toNat<=s'.nx.toNat/\s'.ty=s.ty/\(∀p,p.toNat<s.nx.toNat->¬F p->ao s'.h p=ao s.h p)/\(∀g,g.toNat<s.nx.toNat->¬F g->ao s'.gr g=ao s.gr g)
def bY.frame{s s':HS}{v:HV}{sz:Nat}{F G:cg}{au:aR}(h:bY s v sz F au)(b:di G s s')(f:∀k,F k->¬G k):bY s' v sz F au:=by
 obtain⟨m,c,n⟩:=h;refine⟨m,λk p=>ej (c k p) b.1,?_⟩;rcases n with⟨rfl,rfl⟩|⟨o,t,q,g,a,rfl,r,u,w,x,y,i,d⟩
 .exact .inl ⟨rfl,rfl⟩
 have j:=i o dy;exact .inr ⟨o,t,q,g,a,rfl,by rw[b.2.2.1 o (c o j) (f o j)];exact r,u,w,by rw[b.2.2.2 g (c g d) (f g d)];exact x,y,i,d⟩
def bY.ai{s:HS}{sz:Nat}:bY s .ai sz (λ_=>False) []:=⟨Sz.nil,λ_ h=>h.elim,.inl ⟨rfl,rfl⟩⟩
def bY.iS{s:HS}{v:HV}{sz:Nat}{F:cg}{au:aR}(h:bY s v sz F au):iS v=true:=by rcases h.2.2 with⟨rfl,_⟩|⟨o,t,b,g,a,rfl,_⟩<;>rfl
def bY.len{s s1:HS}{v:HV}{sz:Nat}{F:cg}{au:aR}(h:bY s v sz F au):yr 0 (some v) s1=.v (.int .i64 (au.length:Int)) s1:=by rcases h.2.2 with⟨rfl,rfl⟩|⟨o,t,b,g,a,rfl,_⟩<;>simp
def bY.mono{s:HS}{v:HV}{sz:Nat}{F G:cg}{au:aR}(h:bY s v sz F au)(b:∀k,F k->G k)(c:∀k,G k->k.toNat<s.nx.toNat):bY s v sz G au:=by
 obtain⟨d,_,f⟩:=h;refine⟨d,c,?_⟩;rcases f with⟨rfl,rfl⟩|⟨o,t,i,g,a,rfl,j,n,p,q,r,u,w⟩
 .exact .inl ⟨rfl,rfl⟩
 exact .inr ⟨o,t,i,g,a,rfl,j,n,p,q,r,λm x=>b m (u m x),b g w⟩
def ry(t:Tr HV)(l:ak):∀(n k:Nat),(∀i,i<n->fP t (k+i)=l[i]?)->n=l.length->nE t n k=some l:=by
 induction l with
 |nil=>intro n k _ hn;simp at hn;subst hn;rfl
 |cons v r ih=>intro n k h hn;cases n with|zero=>simp at hn|succ n=>have he:nE t (n+1) k=Option.rec none (λv=>Option.rec none (λl=>some (v::l)) (nE t n (k+1))) (fP t k):=rfl;have h0:=h 0 (by omega);rw[fR]at h0;rw[he,h0,ih n (k+1) (λi hi=>by have:=h (i+1) (by omega);rwa[show k+(i+1)=k+1+i by omega]at this) (by simpa using hn)];rfl
def bY.cells{s:HS}{o:Ky}{sz:Nat}{F:cg}{au:aR}{n:Nat}(h:bY s (.sl o 0 n sz) sz F au):n=au.length/\fU (ao s.h o) 0 (au.length*sz)=some (aD au):=by
 obtain⟨c,k,d⟩:=h;rcases d with⟨h,_⟩|⟨m,t,a,g,b,h0,f,p,j,q⟩
 .cases h
 cases h0;refine⟨rfl,?_⟩;rw[f];show(if 0<=0 then if 0+au.length*sz<=a then nE t (au.length*sz) 0 else none else none)=_;rw[ar (aY _),ar (by omega),ry t (aD au) _ 0 (λi a=>by rw[bw];exact j i a) (cQ c).symm]
def bY.vw{s:HS}{v:HV}{sz n:Nat}{F:cg}{au:aR}(h:bY s v sz F au)(b:eu au=true):Vw s (n+2) v (.psl au):=by
 have c:=h;obtain⟨d,_,f⟩:=h;rcases f with⟨rfl,rfl⟩|⟨o,t,i,g,a,rfl,j,k,_⟩
 .exact .ai
 exact Vw.sl (l:=aD au) (l':=aD au) c.cells.2 (.data (by rw[yz];exact b)) (λ_=>lY d) (λh=>iJ h)
def bY.at{s:HS}{v:HV}{sz:Nat}{F:cg}{au:aR}(h:bY s v sz F au){k:IntKind}(i:Nat)(a:i<au.length):∃o,FD (some v) (some (.int k (i:Int))) sz s=.v (.ptr o (i*sz)) s/\F o/\(∀j,j<sz->eN (ao s.h o) (i*sz+j)=(au[i])[j]?)/\fU (ao s.h o) (i*sz) sz=some au[i]:=by
 obtain⟨c,_,p⟩:=h;rcases p with⟨rfl,rfl⟩|⟨o,t,b,g,f,rfl,m,w,n,x,_,q,_⟩
 .simp at a
 have r:i*sz+sz<=au.length*sz:=by rw[<-Nat.succ_mul];exact jU _ a
 refine⟨o,by simp[a],q o dy,λj d=>?_,?_⟩
 .rw[m];show(if 0<=i*sz+j then if i*sz+j<b then fP t (i*sz+j)else none else none)=_;rw[ar (fD _),ar (by omega),n _ (by omega),gJ c i j a d]
 rw[m];show(if 0<=i*sz then if i*sz+sz<=b then nE t sz (i*sz)else none else none)=_;have u:au[i].length=sz:=c _ (bX a);rw[ar (fD _),ar (by omega),ry t au[i] _ _ (λj d=>by rw[n _ (by omega),gJ c i j a d]) u.symm]
def bY.append{s:HS}{v:HV}{sz bx:Nat}{F:cg}{au new:aR}(h:bY s v sz F au)(y:Sz sz new)(h0:new≠ [])(d:au.length+new.length<=bx):
    ∃Z s',mW sz bx none (some v) (some (.psl new)) s=.v Z s'/\bY s' Z sz (λk=>F k∨k=s.nx) (au++new)/\di F s s'/\s'.nx=s.nx.succ:=by
  have z:new.length≠0:=by simpa using h0
  have I:=Ky.ba s.nx;rw[mX h.iS h0 y];obtain⟨hs,i,hv⟩:=h;rcases hv with⟨rfl,rfl⟩|⟨o,t,r,g,a,rfl,hb,hh,J,hg,M,b,A⟩
  . rw[jW z (by simpa using d),qc]
    refine⟨_,_,rfl,⟨y,λk u=>?_,.inr ⟨s.nx,cR (aD new),(aD new).length,s.nx,[],rfl,by rw[af,ar rfl],by rw[cQ y];exact aY _,λj hj=>sk,by rw[af,ar rfl],by simp,λm d=>?_,.inr rfl⟩⟩,⟨by simp only;omega,rfl,λp N _=>?_,λp N _=>?_⟩,rfl⟩
    . simp only
      rcases u with u|rfl
      . have:=i k u;omega
      omega
    . simp only[dE]at d;exact .inr d
    . simp only;rw[af,aq λe=>by subst e;omega]
    simp only;rw[af,aq λe=>by subst e;omega]
  rw[mL z hb hg];obtain⟨O,Q⟩:=jZ a s.h 11;rw[show(12:Nat)=11+1 from rfl,ru];generalize h3:(eU s.h 11 a).1=w at O;generalize h4:(eU s.h 11 a).2=x at Q;obtain⟨T,j2⟩:=hH o (0+au.length*sz) (0+au.length*sz+aM (aD new)) x w;have c:=kO w o (0+au.length*sz) (0+au.length*sz+aM (aD new)) x;generalize h5:(bP w o (0+au.length*sz) (0+au.length*sz+aM (aD new)) x).1=B at T c;generalize h6:(bP w o (0+au.length*sz) (0+au.length*sz+aM (aD new)) x).2=q at j2 c;have f:∀m∈q,m∈a:=λm d=>Q m (j2 m d)
  have ho:ao B o=some (.cells t 0 r g):=by rw[T o (.inr rfl),O o M,hb]
  have C:Nq s sz bx none o 0 au.length (aD new) new.length g (w,o::x)=.v (.sl s.nx 0 (au.length+new.length) sz) {h:=av (some (.cells (dq (aD new) (0+au.length*sz) t) 0 (0+au.length*sz+(aD new).length) g)) s.nx (av (some (.cells t 0 (0+au.length*sz) g)) o B),nx:=s.nx.succ,gr:=av (some (s.nx::o::q)) g s.gr,ty:=s.ty}:=by
    show(match bP w o (0+au.length*sz) (0+au.length*sz+aM (aD new)) (o::x)with
        |(h',D)=>match ao h' o with
          |some (.cells t E r _)=>
            bif jn o D&&Nat.ble E 0&&Nat.ble (0+au.length*sz) r&&Nat.ble (au.length+new.length) bx then
              da.v (.sl s.nx 0 (au.length+new.length) sz) {h:=av (some (.cells (dq (aD new) (0+au.length*sz) t) 0 (0+au.length*sz+aM (aD new)) g)) s.nx (av (some (.cells t E (0+au.length*sz) g)) o h'),nx:=s.nx.succ,gr:=av (some (s.nx::D)) g s.gr,ty:=mf none o s}
            else .bad
          |_=>.bad)=_
    rw[c];show(match ao B o with
          |some (.cells t E r _)=>
            bif jn o (o::q)&&Nat.ble E 0&&Nat.ble (0+au.length*sz) r&&Nat.ble (au.length+new.length) bx then
              da.v (.sl s.nx 0 (au.length+new.length) sz) {h:=av (some (.cells (dq (aD new) (0+au.length*sz) t) 0 (0+au.length*sz+aM (aD new)) g)) s.nx (av (some (.cells t E (0+au.length*sz) g)) o B),nx:=s.nx.succ,gr:=av (some (s.nx::o::q)) g s.gr,ty:=mf none o s}
            else .bad
          |_=>.bad)=_
    rw[ho];show(bif jn o (o::q)&&Nat.ble 0 0&&Nat.ble (0+au.length*sz) r&&Nat.ble (au.length+new.length) bx then
              da.v (.sl s.nx 0 (au.length+new.length) sz) {h:=av (some (.cells (dq (aD new) (0+au.length*sz) t) 0 (0+au.length*sz+aM (aD new)) g)) s.nx (av (some (.cells t 0 (0+au.length*sz) g)) o B),nx:=s.nx.succ,gr:=av (some (s.nx::o::q)) g s.gr,ty:=mf none o s}
            else .bad)=_
    rw[show jn o (o::q)=true by simp[jn,(Ky.beq_iff o o).2 rfl],cj,cj,cj,cV (aY 0),cV (show 0+au.length*sz<=r by omega),cV d,cP];rfl
  have hle:(aD au).length=au.length*sz:=cQ hs;have V:(aD new).length=new.length*sz:=cQ y;refine⟨_,_,C,⟨Sz.append hs y,λk u=>?_,.inr ⟨s.nx,_,_,g,o::q,by rw[cE],by rw[af,ar rfl],?_,λj hj=>?_,by rw[af,ar rfl],?_,λm d=>?_,.inl A⟩⟩,⟨by simp only;omega,rfl,λp N H=>?_,λp N H=>?_⟩,rfl⟩
  . simp only
    rcases u with u|rfl
    . have:=i k u;omega
    omega
  . rw[cE,V,qW];omega
  . rw[cE,qW]at hj
    rw[fC,kN];by_cases W:j<au.length*sz
    . rw[aq (by omega),J j W,ek (by omega)]
    rw[ar (by omega),gu (by omega),hle,bw]
  . intro n
    rcases bm.1 n with n|n
    . have:=i o (b o dy);rw[<-n]at this;omega
    have:=i _ (b _ (dh _ (f _ n)));omega
  . rcases bm.1 d with rfl|d
    . exact .inr rfl
    refine .inl (b m ?_);rcases bm.1 d with rfl|d
    . exact dy
    exact dh _ (f _ d)
  . have X:p≠o:=λe=>by subst e;exact H (b p dy)
    have G:p ∉ a:=λn=>H (b p (dh _ n))
    have Y:p≠s.nx:=λe=>by subst e;omega
    simp only;rw[af,aq Y,af,aq X,T p (.inl λn=>G (Q p n)),O p G]
  simp only;rw[af,aq λe=>by subst e;exact H A]
def bY.cut{s:HS}{v:HV}{sz:Nat}{F:cg}{au:aR}(h:bY s v sz F au)(n:Nat)(d:n<=au.length)(h0:au≠ []):∃o,v=.sl o 0 au.length sz/\bY s (.sl o 0 n sz) sz F (au.take n):=by
 obtain⟨f,i,k⟩:=h;rcases k with⟨rfl,rfl⟩|⟨o,t,m,g,a,rfl,p,B,q,u,w,x,y⟩
 .exact absurd rfl h0
 have c:(au.take n).length=n:=by rw[oX];omega
 have hle:n*sz<=au.length*sz:=jU _ d;have b:Sz sz (au.take n):=λr z=>f r (lR z)
 refine⟨o,rfl,b,i,.inr ⟨o,t,m,g,a,by rw[c],p,by rw[c];omega,λj A=>?_,u,w,x,y⟩⟩;rw[c]at A;rw[q j (by omega)];have:aD au=aD (au.take n)++aD (au.drop n):=by rw[<-kN,EM]
 rw[this,ek (by rw[cQ b,c];omega)]
def FG{au:aR}(b:Sz 1 au)(i:Nat)(v:HV)(j:Nat)(c:j<au.length)(k:i<au.length):(aD (au.set i [v]))[j]?=if j=i then some v else(aD au)[j]?:=by
 have a:Sz 1 (au.set i [v]):=by
  intro r g;rcases qL g with h|rfl
  .exact b r h
  rfl
 have d:=gJ a j 0 (by rw[iM];exact c) (by omega);have f:=gJ b j 0 c (by omega);rw[hU,fR]at d f;rw[d,f,List.getElem_set];by_cases h:i=j
 .subst h;simp
 simp[h,jB h]
def bY.jg{s:HS}{v:HV}{F:cg}{au:aR}(h:bY s v 1 F au)(i:Nat)(C:i<au.length)(x:HV)(u:cellsOf x=some [x]):
  ∃o s',FD (some v) (some (.int .i64 (i:Int))) 1 s=.v (.ptr o (i*1)) s/\qj 1 (some (.ptr o (i*1))) (some x) s=.v .undef s'/\bY s' v 1 F (au.set i [x])/\di F s s'/\s'.nx=s.nx:=by
 obtain⟨H,w,O⟩:=h;rcases O with⟨rfl,rfl⟩|⟨o,t,b,g,a,rfl,Q,I,T,J,y,q,k⟩
 .simp at C
 have V:i*1+1<=au.length*1:=by omega
 have z:Sz 1 (au.set i [x]):=by
  intro r W;rcases qL W with h|rfl
  .exact H r h
  rfl
 have D:qj 1 (some (.ptr o (i*1))) (some x) s=bU (s.kW o (i*1) [x] t 0 b g (o::a)) (λs'=>.v .undef s') .bad:=by rw[jf,u];simp only[dO,dM,bf];rw[lv,Q];show bU (if 0<=i*1 then if i*1+ [x].length<=b then(match ao s.gr g with|some X=>s.kW o (i*1) [x] t 0 b g X|none=>none)else none else none) _ _=_;rw[ar (fD _),ar (by simp only[dM];omega),J]
 refine⟨o,?_⟩;rw[D];have f:∀j,j<au.length*1->fP (dq [x] (i*1) t) j=(aD (au.set i [x]))[j]?:=by
  intro j Y;rw[fC,FG H i x j (by omega) C];simp only[dM,hU];by_cases A:j=i
  .subst A;simp
  rw[aq (by omega),aq A,T j Y]
 cases a with
 |nil=>refine⟨_,by simp[C],rfl,⟨z,w,.inr ⟨o,_,b,g,[],by rw[iM],by rw[af,ar rfl],by rw[iM];exact I,by rw[iM];exact f,J,y,q,k⟩⟩,⟨aY _,rfl,λp n c=>?_,λp n c=>rfl⟩,rfl⟩;simp only;rw[af,aq λe=>by subst e;exact c (q p dy)]
 |cons m a=>
  obtain⟨M,E⟩:=hH o (i*1) (Nat.add (i*1) (aM [x])) (m::a) s.h;have d:=kO s.h o (i*1) (Nat.add (i*1) (aM [x])) (m::a);generalize Z:(bP s.h o (i*1) (Nat.add (i*1) (aM [x])) (m::a)).1=h2 at M d;generalize h1:(bP s.h o (i*1) (Nat.add (i*1) (aM [x])) (m::a)).2=N at E d;have B:s.kW o (i*1) [x] t 0 b g (o::m::a)=some {h:=av (some (.cells (dq [x] (i*1) t) 0 b g)) o h2,nx:=s.nx,gr:=av (some (o::N)) g s.gr,ty:=s.ty}:=by show(match bP s.h o (i*1) (Nat.add (i*1) (aM [x])) (o::m::a)with|(h',G)=>some (HS.mk (av (some (.cells (dq [x] (i*1) t) 0 b g)) o h') s.nx (av (some G) g s.gr) s.ty))=_;rw[d]
  rw[B];refine⟨_,by simp[C],rfl,⟨z,w,.inr ⟨o,_,b,g,N,by rw[iM],by rw[af,ar rfl],by rw[iM];exact I,by rw[iM];exact f,by rw[af,ar rfl],λu=>y (E o u),λp n=>?_,k⟩⟩,⟨aY _,rfl,λp n c=>?_,λp n c=>?_⟩,rfl⟩
  .rcases bm.1 n with rfl|n
   .exact q p dy
   exact q p (dh _ (E p n))
  .simp only;rw[af,aq λe=>by subst e;exact c (q p dy)];exact M p (.inl λu=>c (q p (dh _ u)))
  simp only;rw[af,aq λe=>by subst e;exact c k]
def gD(s:HS)(o:Ky)(l:ak):Prop:=ao s.h o=some (.cells (cR l) 0 l.length o)/\ao s.gr o=some [o]/\o.toNat<s.nx.toNat
def gD.frame{s s':HS}{o:Ky}{l:ak}{F:cg}(h:gD s o l)(a:di F s s')(b:¬F o):gD s' o l:=⟨by rw[a.2.2.1 o h.2.2 b];exact h.1,by rw[a.2.2.2 o h.2.2 b];exact h.2.1,ej h.2.2 a.1⟩
def gD.set{s:HS}{o:Ky}{l:ak}(h:gD s o l)(k:Nat)(d:k<l.length)(x:HV)(b:cellsOf x=some [x]):∃s',qj 1 (some (.ptr o k)) (some x) s=.v .undef s'/\gD s' o (l.set k x)/\di (λp=>p=o) s s'/\s'.nx=s.nx:=by refine⟨{h:=av (some (.cells (cR (l.set k x)) 0 l.length o)) o s.h,nx:=s.nx,gr:=s.gr,ty:=s.ty},?_,⟨by rw[af,ar rfl,iM],h.2.1,h.2.2⟩,⟨aY _,rfl,λp c a=>by simp only;rw[af,aq a],λp c a=>rfl⟩,rfl⟩;rw[jf,b];simp only[dO,dM,bf];rw[lv,h.1,ah (fD _) (by simp only[dM];omega),h.2.1,an (by simp only[dM];omega)];rfl
def gD.get{s:HS}{o:Ky}{l:ak}(h:gD s o l)(k:Nat)(a:k<l.length):eN (ao s.h o) k=l[k]?:=by rw[h.1,yx,ar (fD _),ar a]
def di.refl{F:cg}{s:HS}:di F s s:=⟨aY _,rfl,λ_ _ _=>rfl,λ_ _ _=>rfl⟩
abbrev tR:=HV×Nat×List ak
abbrev cS:=List tR
structure iU(s:HS)(o:Ky)(cells:ak)(aw:bc)(L:cS):Prop where
 bz:gD s o cells
 co:aw o=none
 own:∀i v sz au,L[i]?=some (v,sz,au)->bY s v sz (λk=>aw k=some i) au
section
variable{s:HS}{o:Ky}{cells:ak}{aw:bc}{L:cS}
def bY.one{v:HV}{sz:Nat}{F:cg}{au:aR}(h:bY s v sz F au):cellsOf v=some [v]:=by rcases h.2.2 with⟨rfl,_⟩|⟨o,t,b,g,a,rfl,_⟩<;>rfl
def iU.append(h:iU s o cells aw L)(i:Nat){v:HV}{sz:Nat}{au:aR}(r:L[i]?=some (v,sz,au)){new:aR}(z:Sz sz new)(h0:new≠ []){bx:Nat}(A:au.length+new.length<=bx):
  ∃d s' f,mW sz bx none (some v) (some (.psl new)) s=.v d s'/\cellsOf d=some [d]/\iU s' o cells f (L.set i (d,sz,au++new)):=by
 have t:=(aV.1 r).1;obtain⟨d,s',B,g,m,n⟩:=(h.own i v sz au r).append z h0 A;have u:=Ky.ba s.nx;refine⟨d,s',λk=>if k=s.nx then some i else aw k,B,g.one,h.bz.frame m (by rw[h.co];simp),?_,λj w x p q=>?_⟩
 .rw[aq λe=>by have:=h.bz.2.2;rw[e]at this;omega];exact h.co
 rw[gS]at q;by_cases b:i=j
 .subst b;rw[ar rfl,ar t]at q;cases q;refine g.mono (λk a=>?_) (λk a=>?_)
  .rcases a with a|rfl
   .show(if k=s.nx then some i else aw k)=some i
    split
    .rfl
    exact a
   show(if s.nx=s.nx then some i else aw s.nx)=some i;rw[ar rfl]
  have a:(if k=s.nx then some i else aw k)=some i:=a;rw[n]
  split at a
  .rename_i e;subst e;omega
  have:=(h.own i v sz au r).2.1 k a;omega
 rw[aq b]at q;have y:=h.own j w x p q;refine(y.frame m (λk a c=>by have c:aw k=some i:=c;have a:aw k=some j:=a;rw[a]at c;cases c;exact b rfl)).mono (λk a=>?_) (λk a=>?_)
 .have C:=y.2.1 k a;show(if k=s.nx then some i else aw k)=some j;rw[aq λe=>by subst e;omega];exact a
 have a:(if k=s.nx then some i else aw k)=some j:=a;rw[n]
 split at a
 .cases a;exact absurd rfl b
 have:=y.2.1 k a;omega
def iU.field(h:iU s o cells aw L)(k:Nat)(c:k<cells.length){x:HV}(d:cellsOf x=some [x]):∃s',qj 1 (some (.ptr o k)) (some x) s=.v .undef s'/\iU s' o (cells.set k x) aw L:=by obtain⟨s',f,g,j,q⟩:=h.bz.set k c x d;exact⟨s',f,g,h.co,λi v m b n=>(h.own i v m b n).frame j (λp a e=>by subst e;have a:aw p=some i:=a;rw[h.co]at a;cases a)⟩
def iU.jg(h:iU s o cells aw L)(i:Nat){v:HV}{au:aR}(q:L[i]?=some (v,1,au))(j:Nat)(t:j<au.length){x:HV}(u:cellsOf x=some [x]):
  ∃f s',FD (some v) (some (.int .i64 (j:Int))) 1 s=.v (.ptr f (j*1)) s/\qj 1 (some (.ptr f (j*1))) (some x) s=.v .undef s'/\iU s' o cells aw (L.set i (v,1,au.set j [x])):=by
 have g:=(aV.1 q).1;obtain⟨f,s',y,z,A,r,B⟩:=(h.own i v 1 au q).jg j t x u;refine⟨f,s',y,z,h.bz.frame r (by rw[h.co];simp),h.co,λk w m c d=>?_⟩;rw[gS]at d;by_cases b:i=k
 .subst b;rw[ar rfl,ar g]at d;cases d;exact A
 rw[aq b]at d;exact(h.own k w m c d).frame r (λp n a=>by have a:aw p=some i:=a;have n:aw p=some k:=n;rw[n]at a;cases a;exact b rfl)
def iU.cut(h:iU s o cells aw L)(i:Nat){v:HV}{sz:Nat}{au:aR}(j:L[i]?=some (v,sz,au))(n:Nat)(m:n<=au.length)(h0:au≠ []):∃d,v=.sl d 0 au.length sz/\iU s o cells aw (L.set i (.sl d 0 n sz,sz,au.take n)):=by
 have f:=(aV.1 j).1;obtain⟨d,p,q⟩:=(h.own i v sz au j).cut n m h0;refine⟨d,p,h.bz,h.co,λk w g a b=>?_⟩;rw[gS]at b;by_cases c:i=k
 .subst c;rw[ar rfl,ar f]at b;cases b;exact q
 rw[aq c]at b;exact h.own k w g a b
def iU.get(h:iU s o cells aw L)(k:Nat){x:HV}(a:cells[k]?=some x):eN (ao s.h o) k=some x:=by rw[h.bz.get k (aV.1 a).1,a]
def iU.len(h:iU s o cells aw L)(i:Nat){v:HV}{sz:Nat}{au:aR}(a:L[i]?=some (v,sz,au))(s1:HS):yr 0 (some v) s1=.v (.int .i64 (au.length:Int)) s1:=(h.own i v sz au a).len
def iU.at1(h:iU s o cells aw L)(i:Nat){v:HV}{au:aR}(b:L[i]?=some (v,1,au))(j:Nat)(c:j<au.length):∃a,FD (some v) (some (.int .i64 (j:Int))) 1 s=.v (.ptr a (j*1)) s/\eN (ao s.h a) (j*1)=(au[j])[0]?:=by obtain⟨a,d,_,f,_⟩:=(h.own i v 1 au b).at (k:=.i64) j c;exact⟨a,d,by have:=f 0 (by omega);rwa[fR]at this⟩
def iU.start(h:gD s o cells)(c:∀e∈L,e.1=.ai/\e.2.2=[]):iU s o cells (λ_=>none) L:=by refine⟨h,rfl,λi v j d f=>?_⟩;obtain⟨a,b⟩:=c _ (cH f);simp only at a b;subst a;subst b;exact⟨Sz.nil,λk g=>(by cases g),.inl ⟨rfl,rfl⟩⟩
end
structure dT(s:HS)(aw:bc)(L:cS):Prop where
 bd:∀k i,aw k=some i->k.toNat<s.nx.toNat
 top:∀k i,aw k=some i->i<L.length
 own:∀i v sz au,L[i]?=some (v,sz,au)->bY s v sz (λk=>aw k=some i) au
section
variable{s:HS}{aw:bc}{L:cS}
def dT.append(h:dT s aw L)(i:Nat){v:HV}{sz:Nat}{au:aR}(x:L[i]?=some (v,sz,au)){new:aR}(z:Sz sz new)(h0:new≠ []){bx:Nat}(A:au.length+new.length<=bx):
  ∃f s' g,mW sz bx none (some v) (some (.psl new)) s=.v f s'/\cellsOf f=some [f]/\dT s' g (L.set i (f,sz,au++new)):=by
 have m:=(aV.1 x).1;obtain⟨f,s',B,n,r,d⟩:=(h.own i v sz au x).append z h0 A;have t:=Ky.ba s.nx;refine⟨f,s',λk=>if k=s.nx then some i else aw k,B,n.one,λk j a=>?_,λk j a=>?_,λj w u p q=>?_⟩
 .rw[d]
  split at a
  .rename_i e;subst e;omega
  have:=h.bd k j a;omega
 .rw[iM]
  split at a
  .cases a;exact m
  exact h.top k j a
 rw[gS]at q;by_cases b:i=j
 .subst b;rw[ar rfl,ar m]at q;cases q;refine n.mono (λk a=>?_) (λk a=>?_)
  .rcases a with a|rfl
   .show(if k=s.nx then some i else aw k)=some i
    split
    .rfl
    exact a
   show(if s.nx=s.nx then some i else aw s.nx)=some i;rw[ar rfl]
  have a:(if k=s.nx then some i else aw k)=some i:=a;rw[d]
  split at a
  .rename_i e;subst e;omega
  have:=h.bd k i a;omega
 rw[aq b]at q;have y:=h.own j w u p q;refine(y.frame r (λk a c=>by have c:aw k=some i:=c;have a:aw k=some j:=a;rw[a]at c;cases c;exact b rfl)).mono (λk a=>?_) (λk a=>?_)
 .have C:=y.2.1 k a;show(if k=s.nx then some i else aw k)=some j;rw[aq λe=>by subst e;omega];exact a
 have a:(if k=s.nx then some i else aw k)=some j:=a;rw[d]
 split at a
 .cases a;exact absurd rfl b
 have:=h.bd k j a;omega
def dT.jg(h:dT s aw L)(i:Nat){v:HV}{au:aR}(q:L[i]?=some (v,1,au))(j:Nat)(r:j<au.length){x:HV}(t:cellsOf x=some [x]):
  ∃f s',FD (some v) (some (.int .i64 (j:Int))) 1 s=.v (.ptr f (j*1)) s/\qj 1 (some (.ptr f (j*1))) (some x) s=.v .undef s'/\dT s' aw (L.set i (v,1,au.set j [x])):=by
 have g:=(aV.1 q).1;obtain⟨f,s',u,y,z,A,B⟩:=(h.own i v 1 au q).jg j r x t;refine⟨f,s',u,y,λk i a=>by rw[B];exact h.bd k i a,λk i a=>by rw[iM];exact h.top k i a,λk w m d a=>?_⟩;rw[gS]at a;by_cases c:i=k
 .subst c;rw[ar rfl,ar g]at a;cases a;exact z
 rw[aq c]at a;exact(h.own k w m d a).frame A (λp n b=>by have b:aw p=some i:=b;have n:aw p=some k:=n;rw[n]at b;cases b;exact c rfl)
def dT.len(h:dT s aw L)(i:Nat){v:HV}{sz:Nat}{au:aR}(a:L[i]?=some (v,sz,au))(s1:HS):yr 0 (some v) s1=.v (.int .i64 (au.length:Int)) s1:=(h.own i v sz au a).len
def dT.push(h:dT s aw L)(sz:Nat):dT s aw (L++[(.ai,sz,[])]):=by
 have j:∀k,aw k≠some L.length:=λk a=>by have:=h.top k _ a;omega
 refine⟨h.bd,λk i a=>by have:=h.top k i a;simp;omega,λi v d f c=>?_⟩;rw[Km]at c
 split at c
 .exact h.own i v d f c
 rename_i m;obtain⟨g,b⟩:=aV.1 c;simp only[dM]at g;have:i=L.length:=by omega
 subst this;simp at b;obtain⟨rfl,rfl,rfl⟩:=b;exact⟨Sz.nil,λk a=>absurd a (j k),.inl ⟨rfl,rfl⟩⟩
def dT.start(d:∀e∈L,e.1=.ai/\e.2.2=[]):dT s (λ_=>none) L:=by refine⟨λk i a=>(by cases a),λk i a=>(by cases a),λi v h f g=>?_⟩;obtain⟨b,c⟩:=d _ (cH g);simp only at b c;subst b;subst c;exact⟨Sz.nil,λk a=>(by cases a),.inl ⟨rfl,rfl⟩⟩
def nz.map{α:Type}{n:Nat}{f g:α->HV}:∀{l:List α},(∀x∈l,Vw s n (f x) (g x))->nz s n (l.map f) (l.map g)
 |[],_=>.nil
 |x::r,h=>.cons (h x dy) (nz.map λy a=>h y (dh _ a))
def bY.YE{v:HV}{n:Nat}{F:cg}{α:Type}{f g:α->HV}{l:List α}(h:bY s v 1 F (l.map λx=>[f x]))(i:∀x∈l,Vw s n (f x) (g x)):Vw s (n+1) v (.psl (l.map λx=>[g x])):=by
 have j:=h;have a:∀(h:α->HV) (l:List α),aD (l.map λx=>[h x])=l.map h:=by
  intro h l
  induction l with|nil=>rfl|cons x r ih=>simp[ih]
 obtain⟨k,_,b⟩:=h;rcases b with⟨rfl,h0⟩|⟨o,t,m,p,d,rfl,q,u,_⟩
 .have:l=[]:=by simpa using h0
  subst this;exact .ai
 have c:Sz 1 (l.map λx=>[g x]):=Sz.map (f:=λx=>[g x]) (λx=>rfl) l;refine Vw.sl (l:=l.map f) (l':=l.map g) (by rw[<-a f l];exact j.cells.2) (nz.map i) (λ_=>?_) (λh=>?_)
 .rw[<-a g l];have:=lY c;simpa using this
 simp only[bH]at h;rw[yA.1 h];rfl
def dT.frame{s':HS}(h:dT s aw L)(b:di (λ_=>False) s s'):dT s' aw L:=
 ⟨λk i c=>ej (h.bd k i c) b.1,h.top,λi v d a f=>(h.own i v d a f).frame b (λ_ _ h=>h)⟩
def di.alloc(b:Ob)(ms:cm):di (λ_=>False) s {h:=av (some b) s.nx s.h,nx:=s.nx.succ,gr:=av (some ms) s.nx s.gr,ty:=s.ty}:=by
 have c:=Ky.ba s.nx;refine⟨by simp only;omega,rfl,λp a _=>?_,λp a _=>?_⟩
 .simp only;rw[af,aq λe=>by subst e;omega]
 simp only;rw[af,aq λe=>by subst e;omega]
def bY.fY{v:HV}{sz:Nat}{F:cg}{au:aR}(h:bY s v sz F au)(h0:au≠ []):∃o,v=.sl o 0 au.length sz:=by
 rcases h.2.2 with⟨rfl,b⟩|⟨o,t,c,g,a,rfl,_⟩
 .exact absurd b h0
 exact⟨o,rfl⟩
def bY.cell{o:Ky}{n:Nat}{F:cg}{au:aR}(h:bY s (.sl o 0 n 1) 1 F au)(j:Nat)(b:j<au.length):eN (ao s.h o) j=(au[j])[0]?:=by
 obtain⟨i,a,_,d,_⟩:=h.at (k:=.i64) j b;rcases h.2.2 with⟨a,_⟩|⟨m,t,p,g,c,f,_⟩
 .cases a
 cases f;rw[Kc,ar b,ar rfl]at a;simp at a;subst a;have:=d 0 (by omega);simpa using this
open Classical in
def dT.join{s':HS}(h:dT s aw L)(t:di (λ_=>False) s s'){v:HV}{sz:Nat}{F:cg}{au:aR}(j:bY s' v sz F au)(x:∀k,F k->s.nx.toNat<=k.toNat):dT s' (λk=>if F k then some L.length else aw k) (L++[(v,sz,au)]):=by
 have b:∀k i,i<L.length->((if F k then some L.length else aw k)=some i↔aw k=some i):=by
  intro k i d;by_cases a:F k
  .have:aw k≠some i:=λy=>by have:=h.bd k i y;have:=x k a;omega
   simp only[a,bf];constructor
   .intro m;cases m;omega
   intro m;exact absurd m this
  simp only[a,bp]
 refine⟨λk i a=>?_,λk i a=>?_,λi w n f d=>?_⟩
 .split at a
  .rename_i p;exact j.2.1 k p
  exact ej (h.bd k i a) t.1
 .rw[cE,dM]
  split at a
  .cases a;omega
  have:=h.top k i a;omega
 rw[Km]at d
 split at d
 .rename_i c;have u:=(h.own i w n f d).frame t (λ_ _ h=>h);refine u.mono (λk a=>(b k i c).2 a) (λk a=>?_);exact u.2.1 k ((b k i c).1 a)
 rename_i c;obtain⟨q,g⟩:=aV.1 d;simp only[dM]at q;have r:i=L.length:=by omega
 subst r;simp at g;obtain⟨rfl,rfl,rfl⟩:=g;refine j.mono (λk a=>by show(if F k then some L.length else aw k)=some L.length;rw[ar a]) (λk a=>?_);have a:(if F k then some L.length else aw k)=some L.length:=a
 split at a
 .rename_i p;exact j.2.1 k p
 have:=h.top k _ a;omega
end
section call
variable{L:jx}{prog:Nat->Option HF}
def Nv{c:HC}{e:En}{s:HS}{o:Out}(h:ev (ea L prog) (.loop c) e s=o)(a:Good o):ea L prog (.loop c e s)=o:=dB h a
def Ca{c:HC}{e:En}{s:HS}:ev (ea L prog) (.loop c) e s=(ev (ea L prog) c e s).ch (λe' s'=>ea L prog (.loop c e' s')):=rfl
def Kn{c:HC}(n:Nat)(I:Nat->En->HS->Prop)(Q:Out->Prop)(i:Nat)(e:En)(s:HS)(j:i<=n)(d:I i e s)
  (round:∀i e s,i<n->I i e s->(∃e' s',ev (ea L prog) c e s=.code .normal e' s'/\I (i+1) e' s')∨(gC (ev (ea L prog) c e s)/\Q (ev (ea L prog) c e s)))
  (last:∀e s,I n e s->gC (ev (ea L prog) c e s)/\Q (ev (ea L prog) c e s)):
  ∃o,ev (ea L prog) (.loop c) e s=o/\gC o/\Q o:=by
 obtain⟨k,m⟩:∃k,n-i=k:=⟨_,rfl⟩
 induction k generalizing i e s with
 |zero=>
  obtain rfl:i=n:=by omega
  obtain⟨a,b⟩:=last e s d;exact⟨_,by rw[Ca,a.ch],a,b⟩
 |succ k ih=>
  rcases round i e s (by omega) d with⟨e',s',a,b⟩|⟨a,b⟩
  .obtain⟨o,g,f,h⟩:=ih (i+1) e' s' (by omega) b (by omega);exact⟨o,by rw[Ca,a,kF];exact Nv g f.Nt,f,h⟩
  exact⟨_,by rw[Ca,a.ch],a,b⟩
def fG{c:HC}{e:En}{s:HS}{o:Out}(d:ev (ea L prog) (.loop c) e s=o)(n:Nat)(I:Nat->En->HS->Prop)(Q:Out->Prop)(i:Nat)(b:i<=n)(a:I i e s)
  (round:∀i e s r,i<n->I i e s->ev (ea L prog) c e s=r->(∃e' s',r=.code .normal e' s'/\I (i+1) e' s')∨(gC r/\Q r))
  (last:∀e s r,I n e s->ev (ea L prog) c e s=r->gC r/\Q r):Q o:=by
 obtain⟨h,f,j,g⟩:=Kn n I Q i e s b a (λi e s b a=>round i e s _ b a rfl) (λe s a=>last e s _ a rfl);rw[<-d,f];exact g
abbrev Up(N:Nat):cg:=λk=>N<=k.toNat
def zS(N:Nat)(p:HS->Prop):Prop:=∀s1 s2,p s1->di (Up N) s1 s2->p s2
def IE(L:jx)(prog:Nat->Option HF)(f:Nat)(pre post items:ak):Prop:=
 ∀(l:Ky) (G:cg) (I:ak->HS->Prop) (Fn:HS->Prop) (s:HS),(∀k,G k->k.toNat<s.nx.toNat)->(∀x,zS s.nx.toNat (I x))->zS s.nx.toNat Fn->
  (∀x a s1,s.nx.toNat<=s1.nx.toNat->I (x::a) s1->∃b s2,ea L prog (.round l [x] s1)=.val (.bool b) s2/\di G s1 s2/\(b=true->I a s2)/\(b=false->Fn s2))->
  ∀a,I (items++a) s->∃s',ea L prog (.call f (pre++[.jk l]++post) s)=.val (.bN []) s'/\di (λk=>G k∨Up s.nx.toNat k) s s'/\(I a s'∨Fn s')
end call
def di.mono{F G:cg}{s s':HS}(h:di F s s')(d:∀k,F k->G k):di G s s':=⟨h.1,h.2.1,λp a b=>h.2.2.1 p a λc=>b (d p c),λp a b=>h.2.2.2 p a λc=>b (d p c)⟩
def di.trans{F:cg}{s s' a:HS}(h:di F s s')(k:di F s' a):di F s a:=⟨fh h.1 k.1,k.2.1.trans h.2.1,λp b c=>(k.2.2.1 p (ej b h.1) c).trans (h.2.2.1 p b c),λp b c=>(k.2.2.2 p (ej b h.1) c).trans (h.2.2.2 p b c)⟩
section
variable{L:jx}{prog:Nat->Option HF}{l:Ky}{s s1 s2:HS}{e e1 e2:En}{ps:ay}{jl body:HC}
abbrev uQ(a:Nat)(b:Option HC)(e:En)(ps:ay)(jl body:HC):Option Ob:=some (.loop a b e ps jl body)
def Cb{v:HV}{p:Nat}{o:Out}(n:ao s.h l=uQ 0 none e [p] jl body)(q:ev (ea L prog) jl (.cons p v e) s=.code .normal e1 s1)(r:ao s1.h l=uQ 0 none e [p] jl body)
    (t:ev (ea L prog) body e1 (s1.aK l (.loop 2 none e [p] jl body))=o)(m:∀e2 s2,(o=.code .normal e2 s2∨o=.code .ret e2 s2)->ao s2.h l=uQ 2 none e [p] jl body):
    (∀e2 s2,o=.code .normal e2 s2->ea L prog (.round l [v] s)=.val (.bool true) (s2.aK l (.loop 0 none e [p] jl body)))/\
    (∀e2 s2,o=.code .ret e2 s2->ea L prog (.round l [v] s)=.val (.bool false) (s2.aK l (.loop 1 (some .ret) e [p] jl body))):=by
  have c:∀e2 s2 x b f a,o=.code x e2 s2->((x=.normal/\b=true/\f=0/\a=none)∨(x=.ret/\b=false/\f=1/\a=some HC.ret))->ea L prog (.round l [v] s)=.val (.bool b) (s2.aK l (.loop f a e [p] jl body)):=by
    intro e2 s2 x b f a j u;refine dB ?_ trivial;show gH (ea L prog) l [v] s=_;unfold gH;rw[n];show(bif Nat.beq (aM [v]) (aM [p])then _ else _)=_;rw[cP,cP,cU];simp only[dM,eV,cond_true];have w:oQ e [p] [v]=.cons p v e:=by simp[oQ]
    rw[w,q];show(match ao s1.h l with
        |some (.loop f y z k g d)=>bif Nat.beq f 0 then(match ev (ea L prog) body e1 (s1.aK l (.loop 2 y z k g d))with
          |.code .normal _ s2=>kZ l 0 none s2
          |.code .ret _ s2=>kZ l 1 (some .ret) s2
          |.code (.exit i) _ s2=>kZ l 1 (some (.exit i)) s2
          |_=>.bad 11)else .bad 17
        |_=>.bad 18)=_
    rw[r];show(match ev (ea L prog) body e1 (s1.aK l (.loop 2 none e [p] jl body))with
          |.code .normal _ s2=>kZ l 0 none s2
          |.code .ret _ s2=>kZ l 1 (some .ret) s2
          |.code (.exit i) _ s2=>kZ l 1 (some (.exit i)) s2
          |_=>.bad 11)=_
    rw[t,j];rcases u with⟨rfl,rfl,rfl,rfl⟩|⟨rfl,rfl,rfl,rfl⟩
    . show kZ l 0 none s2=_
      unfold kZ;rw[m e2 s2 (.inl j)];rfl
    show kZ l 1 (some .ret) s2=_;unfold kZ;rw[m e2 s2 (.inr j)];rfl
  exact⟨λe2 s2 h=>c e2 s2 .normal true 0 none h (.inl ⟨rfl,rfl,rfl,rfl⟩),λe2 s2 h=>c e2 s2 .ret false 1 (some .ret) h (.inr ⟨rfl,rfl,rfl,rfl⟩)⟩
def LS(s:HS)(e:En)(ps:ay)(jl body:HC):HS:={h:=av (some (.loop 0 none e ps jl body)) s.nx s.h,nx:=s.nx.succ,gr:=s.gr,ty:=s.ty}
def Cc{x:X}{f:Nat}{a b:ak}{v:HV}{e':En}{YF:ay}{Ko DJ:HC}(d:bq x e=some (.fn f a b))(c:ea L prog (.call f (a++[.jk s.nx]++b) (LS s e ps jl body))=.val v s2):
  (ao s2.h s.nx=uQ 0 none e' YF Ko DJ->lK (ea L prog) x ps jl body e s=.code .normal e (s2.kill s.nx))/\(ao s2.h s.nx=uQ 1 (some .ret) e' YF Ko DJ->lK (ea L prog) x ps jl body e s=.code .ret e (s2.kill s.nx)):=by
 have c:ea L prog (.call f (a++[HV.jk s.nx]++b) {h:=av (some (.loop 0 none e ps jl body)) s.nx s.h,nx:=s.nx.succ,gr:=s.gr,ty:=s.ty})=.val v s2:=c;constructor
 .intro h;unfold lK;rw[d];simp only[c,h];rfl
 intro h;unfold lK;rw[d];simp only[c,h];rfl
def dU{o p:Ky}{b:Ob}:ao (s.aK o b).h p=if p=o then some b else ao s.h p:=by show ao (av (some b) o s.h) p=_;rw[af]
def di.aK{G:cg}{o:Ky}{b:Ob}(c:G o):di G s (s.aK o b):=by refine⟨aY _,rfl,λp d a=>?_,λp d a=>rfl⟩;rw[dU,aq λe=>by subst e;exact a c]
@[simp]def DL{o p:Ky}:ao (s.kill o).h p=if p=o then none else ao s.h p:=by show ao (av none o s.h) p=_;rw[af]
def di.rf:di (λ_=>False) s (LS s e ps jl body):=by have b:=Ky.ba s.nx;refine⟨by simp only[LS];omega,rfl,λp a _=>?_,λp a _=>rfl⟩;simp only[LS];rw[af,aq λe=>by subst e;omega]
end
def GY:∀(new a l:ak),new.length=l.length->I6 (a++l) a.length new=a++new
 |[],a,l,h=>by have:l=[]:=iJ h.symm;subst this;rfl
 |v::r,a,[],h=>by simp at h
 |v::r,a,w::l,h=>by rw[yw];have:=GY r (a++[v]) l (by simpa using h);simpa using this
def gD.put{s:HS}{o:Ky}{l new:ak}{v:HV}(h:gD s o l)(c:cellsOf v=some new)(b:new.length=l.length):∃s',qj l.length (some (.ptr o 0)) (some v) s=.v .undef s'/\gD s' o new/\di (λp=>p=o) s s'/\s'.nx=s.nx:=by refine⟨{h:=av (some (.cells (cR new) 0 l.length o)) o s.h,nx:=s.nx,gr:=s.gr,ty:=s.ty},?_,⟨by rw[af,ar rfl,b],h.2.1,h.2.2⟩,⟨aY _,rfl,λp d a=>by simp only;rw[af,aq a],λp d a=>rfl⟩,rfl⟩;rw[jf,c];simp only[dO,b,bf];rw[lv,h.1,ah (fD _) (by omega),h.2.1,an (by omega)];have:=GY new [] l b;simp only[bD,List.length_nil]at this;rw[this];rfl
def gD.load{s:HS}{o:Ky}{l:ak}(h:gD s o l):fU (ao s.h o) 0 l.length=some l:=by rw[h.1,aj (aY _) (by omega) (by omega)];simp
def gD.kill{s:HS}{o k:Ky}{l:ak}(h:gD s o l)(a:o≠k):gD (s.kill k) o l:=⟨by rw[DL,aq a];exact h.1,h.2.1,h.2.2⟩
def LU:jx:={bt:=211,I5:=5,dx:=155,str:=136,fmt:=236,vI:=some 12,Jd:=[137,202,203,204]}
abbrev R:Task->Out:=ea LU U.prog
def cM(k:Nat){d a:Nat}{keep:ay}{c:List Rs}{b:HC}(f:U.prog k=some ⟨d,a,keep,c,b,true⟩)(g:pO LU k=true) ⦃args:ak⦄ ⦃v:HV⦄ ⦃s:HS⦄ (h:pN c (bK R b (bn args 0) s0)=some v) (i:args.length=a:=by rfl) (j:du args=true:=by simp):R (.call k args s)=.val v s:=Te k _ args v s f g rfl i j h
def DM(k:Nat){d a:Nat}{keep:ay}{c:List Rs}{b:HC}(f:U.prog k=some ⟨d,a,keep,c,b,false⟩)(g:pO LU k=true) ⦃args:ak⦄ ⦃v:HV⦄ ⦃s s':HS⦄ (i:args.length=a) (h:∃x e s1,ev R b (bn args 0) s=.code x e s1/\(x=.normal∨x=.ret)/\oH (dY e s1 c) s1=.val v s'):R (.call k args s)=.val v s':=Tf k _ args v s s' f g rfl i h
def OM(k:Nat){a c:Nat}{keep:ay}{d:List Rs}{b:HC}(f:U.prog k=some ⟨a,c,keep,d,b,true⟩)(g:pO LU k=true) ⦃args l:ak⦄ ⦃v:HV⦄ ⦃s:HS⦄ (i:cC args=false) (j:nz s 16 args l) (m:du l=true) (n:eX v=true) (h:∀s,R (.call k l s)=.val v s):R (.call k args s)=.val v s:=Tl k _ args l v s f g rfl i j m n (h s0)
section
variable{args l:ak}{v:HV}{s:HS}
def q6:=cM 6 rfl rfl
def q9:=cM 9 rfl rfl
def q10:=cM 10 rfl rfl
def q13:=cM 13 rfl rfl
def q14:=cM 14 rfl rfl
def q15:=cM 15 rfl rfl
def q17:=cM 17 rfl rfl
def q18:=cM 18 rfl rfl
def q19:=cM 19 rfl rfl
def YG:=cM 23 rfl rfl
def q24:=cM 24 rfl rfl
def q25:=cM 25 rfl rfl
def ON:=cM 26 rfl rfl
def q28:=cM 28 rfl rfl
def YH:=cM 29 rfl rfl
def q30:=cM 30 rfl rfl
def q31:=cM 31 rfl rfl
def q32:=cM 32 rfl rfl
def q44:=cM 44 rfl rfl
def q45:=cM 45 rfl rfl
def q46:=cM 46 rfl rfl
def q47:=cM 47 rfl rfl
def q48:=cM 48 rfl rfl
def q49:=cM 49 rfl rfl
def q50:=cM 50 rfl rfl
def q56:=cM 56 rfl rfl
def q57:=cM 57 rfl rfl
def q59:=cM 59 rfl rfl
def q60:=cM 60 rfl rfl
def q61:=cM 61 rfl rfl
def q62:=cM 62 rfl rfl
def q63:=cM 63 rfl rfl
def q65:=cM 65 rfl rfl
def v65:=OM 65 rfl rfl
def q66:=cM 66 rfl rfl
def q67:=cM 67 rfl rfl
def q68:=cM 68 rfl rfl
def q69:=cM 69 rfl rfl
def q75:=cM 75 rfl rfl
def q76:=cM 76 rfl rfl
def q82:=cM 82 rfl rfl
def q83:=cM 83 rfl rfl
def q84:=cM 84 rfl rfl
def q85:=cM 85 rfl rfl
def q86:=cM 86 rfl rfl
def q87:=cM 87 rfl rfl
def q88:=cM 88 rfl rfl
def q89:=cM 89 rfl rfl
def q90:=cM 90 rfl rfl
def q91:=cM 91 rfl rfl
def q94:=cM 94 rfl rfl
def q95:=cM 95 rfl rfl
def q96:=cM 96 rfl rfl
def aeo:=cM 104 rfl rfl
def aep:=cM 105 rfl rfl
def aeq:=cM 106 rfl rfl
def aer:=cM 107 rfl rfl
def YI:=cM 108 rfl rfl
def aes:=cM 111 rfl rfl
def aet:=cM 112 rfl rfl
def aeu:=cM 113 rfl rfl
def aev:=cM 114 rfl rfl
def aew:=cM 115 rfl rfl
def aex:=cM 116 rfl rfl
def aey:=cM 117 rfl rfl
def aez:=cM 118 rfl rfl
def aeA:=cM 119 rfl rfl
def aeB:=cM 120 rfl rfl
def aeC:=DM 121 rfl rfl
def aeD:=cM 122 rfl rfl
def aeE:=cM 123 rfl rfl
def aeF:=cM 124 rfl rfl
def aeG:=cM 125 rfl rfl
def aeH:=cM 126 rfl rfl
def aeI:=cM 127 rfl rfl
def aeJ:=cM 128 rfl rfl
def aeK:=OM 128 rfl rfl
def YJ:=DM 129 rfl rfl
def aeL:=cM 130 rfl rfl
def aeM:=cM 131 rfl rfl
def aeN:=cM 132 rfl rfl
def aeO:=cM 133 rfl rfl
def aeP:=cM 134 rfl rfl
def aeQ:=DM 135 rfl rfl
def aeR:=cM 138 rfl rfl
def aeS:=cM 139 rfl rfl
def aeT:=cM 140 rfl rfl
def aeU:=cM 141 rfl rfl
def aeV:=cM 142 rfl rfl
def aeW:=cM 145 rfl rfl
def aeX:=cM 146 rfl rfl
def aeY:=cM 147 rfl rfl
def To:=DM 148 rfl rfl
def aeZ:=cM 149 rfl rfl
def ae0:=DM 150 rfl rfl
def ae1:=cM 151 rfl rfl
def ae2:=cM 152 rfl rfl
def ae3:=OM 152 rfl rfl
def YK:=DM 153 rfl rfl
def ae4:=cM 154 rfl rfl
def ae5:=cM 156 rfl rfl
def ae6:=OM 156 rfl rfl
def ae7:=cM 157 rfl rfl
def ae8:=cM 159 rfl rfl
def ae9:=cM 160 rfl rfl
def afa:=cM 161 rfl rfl
def afb:=cM 162 rfl rfl
def afc:=cM 163 rfl rfl
def YL:=cM 164 rfl rfl
def afd:=OM 164 rfl rfl
def afe:=cM 165 rfl rfl
def aff:=DM 166 rfl rfl
def afg:=DM 167 rfl rfl
def Tp:=cM 168 rfl rfl
def afh:=cM 169 rfl rfl
def afi:=cM 170 rfl rfl
def afj:=cM 171 rfl rfl
def v171:=OM 171 rfl rfl
def afk:=cM 172 rfl rfl
def afl:=cM 173 rfl rfl
def afm:=cM 174 rfl rfl
def afn:=cM 175 rfl rfl
def afo:=cM 176 rfl rfl
def afp:=cM 177 rfl rfl
def afq:=cM 178 rfl rfl
def afr:=cM 179 rfl rfl
def afs:=cM 180 rfl rfl
def aft:=cM 181 rfl rfl
def afu:=cM 182 rfl rfl
def afv:=cM 184 rfl rfl
def afw:=cM 186 rfl rfl
def afx:=cM 187 rfl rfl
def afy:=cM 188 rfl rfl
def afz:=cM 189 rfl rfl
def afA:=cM 190 rfl rfl
def YM:=cM 191 rfl rfl
def afB:=cM 192 rfl rfl
def afC:=cM 193 rfl rfl
def afD:=cM 194 rfl rfl
def afE:=cM 195 rfl rfl
def afF(a:cC args=false)(b:nz s 16 args l)(c:du l=true)(d:gq U.f195 R l=true)(h:∀s,R (.call 195 l s)=.val v s):R (.call 195 args s)=.val v s:=wa 195 U.f195 args l v s rfl rfl rfl a b c d (h s0)
def afG:=cM 196 rfl rfl
def afH:=DM 197 rfl rfl
def afI:=cM 198 rfl rfl
def afJ:=cM 199 rfl rfl
def afK(a:cC args=false)(b:nz s 16 args l)(c:du l=true)(d:gq U.f199 R l=true)(h:∀s,R (.call 199 l s)=.val v s):R (.call 199 args s)=.val v s:=wa 199 U.f199 args l v s rfl rfl rfl a b c d (h s0)
def afL:=cM 200 rfl rfl
def afM(a:cC args=false)(b:nz s 16 args l)(c:du l=true)(d:gq U.f200 R l=true)(h:∀s,R (.call 200 l s)=.val v s):R (.call 200 args s)=.val v s:=wa 200 U.f200 args l v s rfl rfl rfl a b c d (h s0)
def afN:=cM 201 rfl rfl
def afO(a:cC args=false)(b:nz s 16 args l)(c:du l=true)(d:gq U.f201 R l=true)(h:∀s,R (.call 201 l s)=.val v s):R (.call 201 args s)=.val v s:=wa 201 U.f201 args l v s rfl rfl rfl a b c d (h s0)
def afP{s':HS}{a:ak}{b:aR}(h:∃x e s1,ev R U.J3 (bn [.psl (a::b)] 0) s=.code x e s1/\(x=.normal∨x=.ret)/\oH (dY e s1 [.tmp 2]) s1=.val v s'):R (.call 202 [.psl (a::b)] s)=.val v s':=GU 202 U.f202 a b v s s' rfl rfl rfl rfl h
def afQ:R (.call 203 [.psl []] s)=.val (.psl []) s:=Ke 203 s rfl rfl
def afR{a:ak}{b:aR}(c:du [.psl (a::b)]=true)(h:pN [.tmp 2] (bK R U.Sv (bn [.psl (a::b)] 0) s0)=some v):R (.call 203 [.psl (a::b)] s)=.val v s:=Nk 203 U.f203 a b v s rfl rfl rfl rfl c h
def afS:R (.call 204 [.psl []] s)=.val (.psl []) s:=Ke 204 s rfl rfl
def afT{s':HS}{a:ak}{b:aR}(h:∃x e s1,ev R U.J4 (bn [.psl (a::b)] 0) s=.code x e s1/\(x=.normal∨x=.ret)/\oH (dY e s1 [.tmp 2]) s1=.val v s'):R (.call 204 [.psl (a::b)] s)=.val v s':=GU 204 U.f204 a b v s s' rfl rfl rfl rfl h
def afU:=cM 205 rfl rfl
def afV:=cM 206 rfl rfl
def YN:=DM 207 rfl rfl
def YO:=DM 208 rfl rfl
def afW:=cM 209 rfl rfl
def afX:=cM 210 rfl rfl
def afY:=cM 211 rfl rfl
def afZ:=cM 212 rfl rfl
def af0:=cM 213 rfl rfl
def af1:=cM 214 rfl rfl
def YP:=cM 215 rfl rfl
def af2:=OM 215 rfl rfl
def af3:=DM 216 rfl rfl
def YQ:=DM 217 rfl rfl
def af4:=DM 218 rfl rfl
def af5:=cM 219 rfl rfl
def YR:=OM 219 rfl rfl
def af6:=cM 220 rfl rfl
def YS:=DM 221 rfl rfl
def Nw:=DM 222 rfl rfl
def af7:=cM 223 rfl rfl
def af8:=cM 224 rfl rfl
def af9:=cM 225 rfl rfl
def aga:=cM 227 rfl rfl
def agb:=cM 228 rfl rfl
def agc:=cM 229 rfl rfl
def agd:=cM 230 rfl rfl
def age:=DM 231 rfl rfl
def agf:=cM 232 rfl rfl
def agh:=cM 235 rfl rfl
end
def bQ(m:Mv):Bool:=m.kind=3/\m.n= -1
def cz(m:Mv):Bool:=m.kind=1∨m.kind=2
def bJ(m:Mv):Mv:=⟨m.arg,0,m.kind,m.n⟩
def ef(b:Bs):Bool:=1<=b.n/\b.n<=64
def Tq(m:Mv)(s:HS):R (.call 28 [.agg m.c] s)=.val (.bool (bQ m)) s:=by refine q28 ?_;by_cases h:m.kind=3<;>simp[U.b28,h,aa,bQ]
def YU(n a b:Int)(s:HS):R (.call 62 [iV n,iV a,iV b] s)=.val (.bool (a<=n/\n<=b)) s:=by refine q62 ?_;by_cases h:a<=n<;>simp[U.b62,h,aa]
def w60(b:Bs)(s:HS):R (.call 60 [.agg b.c] s)=.val (.bool (ef b)) s:=by refine q60 ?_;simp[U.b60,aa,ef,YU]
def YV(m:Mv)(s:HS):R (.call 75 [.agg m.c] s)=.val (.bool (cz m)) s:=by refine q75 ?_;by_cases h:m.kind=1<;>simp[U.b75,h,aa,cz]
def w88(m:Mv)(s:HS):R (.call 88 [.agg m.c] s)=.val (.bool (bQ m)) s:=by refine q88 ?_;by_cases h:m.kind=3<;>simp[U.b88,h,aa,bQ]
def w91(m:Mv)(s:HS):R (.call 91 [.agg m.c] s)=.val (.agg (bJ m).c) s:=by refine q91 ?_;simp[U.b91,aa,bJ,s0,ah,an,aj]
def fy(t:Ty):Bool:=ef t.res&&t.ps.all ef&&(t.ps.isEmpty|| !t.res.cell)
def iN(t:Ty):Bool:=5<t.ps.length
def aB(a:Ar):Int:=if 8<a.ids.length∨a.ids.any iN then 5 else if !ef a.root||a.ids.any (λt=> !fy t)then 4 else 0
def dj(a:Ar):Prop:=a.ids.length<4611686018427387904/\∀t∈a.ids,t.ps.length<4611686018427387904
def Ts(b:Bs)(s:HS):R (.call 116 [.agg b.c] s)=.val (.bool (ef b)) s:=by refine aex ?_;by_cases h:1<=b.n<;>simp[U.Xa,h,aa,ef]
def agi(b:Bs)(s:HS):R (.call 145 [.agg b.c] s)=.val (.bool (!ef b)) s:=by refine aeW ?_;have:=Ts b;simp at this;simp[U.Xk,aa,this]
def agj(t:Ty)(s:HS):R (.call 112 [.agg t.c] s)=.val (.bool (iN t)) s:=by refine aet ?_;simp[U.W6,aa,iN];omega
def agk(p:Bs->Bool)(k:Nat)(l:pP)(h:∀b∈l,∀s,R (.call k [.agg b.c] s)=.val (.bool (p b)) s)(a:l.length<4611686018427387904)(s:HS):R (.call 159 [.psl (l.map Bs.c),.fn k [] []] s)=.val (iV (if l.any p then l.findIdx p else-1)) s:=by
 refine ae8 ?_;simp[U.Xp];generalize B:bK R (.loop U.xQ) _ _=o;have C:=aX B l.length
  (λi e s'=>s'=s0/\look e 0=some (.psl (l.map Bs.c))/\look e 1=some (.fn k [] [])/\look e 7=some (iV l.length)/\look e 8=some (iV i)/\∀j (n:j<i) (a:j<l.length),p l[j]=false)
  (λo=>(∃i q,∃d:i<l.length,o=.code .ret q s0/\look q 4=some (iV i)/\p l[i]=true/\∀j (n:j<i) (a:j<l.length),p l[j]=false)∨(∃q,o=.code (.exit 0) q s0/\∀j (a:j<l.length),p l[j]=false))
  0 (by omega) (by simp)
  (λi e s' r d ⟨y,h0,u,t,w,f⟩ g=>by
   subst y;have z:=h l[i] (bX d);simp at z;cases m:p l[i]
   .simp[U.xQ,h0,u,t,w,d,bj d (rz a),z,m]at g;subst g;refine .inl ⟨_,_,rfl,rfl,by simp[h0],by simp[u],by simp[t],by simp,λj n a=>?_⟩;by_cases A:j=i
    .subst A;exact m
    exact f j (by omega) a
   simp[U.xQ,h0,u,t,w,d,z,m]at g;subst g;exact .inr ⟨by simp,.inl ⟨i,_,d,rfl,by simp,m,f⟩⟩)
  (λe s' r ⟨y,h0,u,t,w,f⟩ g=>by
   subst y;simp[U.xQ,t,w]at g;subst g;exact⟨by simp,.inr ⟨_,rfl,λj a=>f j a a⟩⟩)
 clear B;rcases C with⟨i,q,d,rfl,D,m,f⟩|⟨q,rfl,f⟩
 .simp[D,aa];rw[ar ⟨_,bX d,m⟩,(FH d).2 ⟨m,λj n=>f j n (by omega)⟩]
 simp[aa];intro x E;obtain⟨j,n,rfl⟩:=eH.1 E;exact f j n
def agl(p:Ty->Bool)(k:Nat)(l:sq)(h:∀b∈l,∀s,R (.call k [.agg b.c] s)=.val (.bool (p b)) s)(a:l.length<4611686018427387904)(s:HS):R (.call 147 [.psl (l.map Ty.c),.fn k [] []] s)=.val (iV (if l.any p then l.findIdx p else-1)) s:=by
 refine aeY ?_;simp[U.Xm];generalize B:bK R (.loop U.xN) _ _=o;have C:=aX B l.length
  (λi e s'=>s'=s0/\look e 0=some (.psl (l.map Ty.c))/\look e 1=some (.fn k [] [])/\look e 7=some (iV l.length)/\look e 8=some (iV i)/\∀j (n:j<i) (a:j<l.length),p l[j]=false)
  (λo=>(∃i q,∃d:i<l.length,o=.code .ret q s0/\look q 4=some (iV i)/\p l[i]=true/\∀j (n:j<i) (a:j<l.length),p l[j]=false)∨(∃q,o=.code (.exit 0) q s0/\∀j (a:j<l.length),p l[j]=false))
  0 (by omega) (by simp)
  (λi e s' r d ⟨y,h0,u,t,w,f⟩ g=>by
   subst y;have z:=h l[i] (bX d);simp at z;cases m:p l[i]
   .simp[U.xN,h0,u,t,w,d,bj d (rz a),z,m]at g;subst g;refine .inl ⟨_,_,rfl,rfl,by simp[h0],by simp[u],by simp[t],by simp,λj n a=>?_⟩;by_cases A:j=i
    .subst A;exact m
    exact f j (by omega) a
   simp[U.xN,h0,u,t,w,d,z,m]at g;subst g;exact .inr ⟨by simp,.inl ⟨i,_,d,rfl,by simp,m,f⟩⟩)
  (λe s' r ⟨y,h0,u,t,w,f⟩ g=>by
   subst y;simp[U.xN,t,w]at g;subst g;exact⟨by simp,.inr ⟨_,rfl,λj a=>f j a a⟩⟩)
 clear B;rcases C with⟨i,q,d,rfl,D,m,f⟩|⟨q,rfl,f⟩
 .simp[D,aa];rw[ar ⟨_,bX d,m⟩,(FH d).2 ⟨m,λj n=>f j n (by omega)⟩]
 simp[aa];intro x E;obtain⟨j,n,rfl⟩:=eH.1 E;exact f j n
def agm(p:Bs->Bool)(k:Nat)(l:pP)(h:∀b∈l,∀s,R (.call k [.agg b.c] s)=.val (.bool (p b)) s)(d:l.length<4611686018427387904)(s:HS):R (.call 146 [.psl (l.map Bs.c),.fn k [] []] s)=.val (.bool (l.any p)) s:=by
 refine aeX ?_;simp[U.Xl,agk p k l h d];by_cases a:∃x,x∈l/\p x=true
 .simp[a,aa]
 simp[a,aa];simpa using a
def YW(p:Ty->Bool)(k:Nat)(l:sq)(h:∀b∈l,∀s,R (.call k [.agg b.c] s)=.val (.bool (p b)) s)(d:l.length<4611686018427387904)(s:HS):R (.call 115 [.psl (l.map Ty.c),.fn k [] []] s)=.val (.bool (l.any p)) s:=by
 refine aew ?_;simp[U.W9,agl p k l h d];by_cases a:∃x,x∈l/\p x=true
 .simp[a,aa]
 simp[a,aa];simpa using a
def Nx{α:Type}(p:α->Bool)(l:List α):(l.any λx=> !p x)= !l.all p:=by induction l with|nil=>rfl|cons x r ih=>simp[ih]
def agn(t:Ty)(k:t.ps.length<4611686018427387904)(s:HS):R (.call 114 [.agg t.c] s)=.val (.bool (fy t)) s:=by
 refine aev ?_;have d:=Ts t.res;simp only[Bs.c]at d;have f:=agm (λb=> !ef b) 145 t.ps (λb _=>agi b) k;rw[Nx]at f;cases g:ef t.res
 .simp-implicitDefEqProofs[U.JV,d,g,aa,fy]
 cases j:t.ps.all ef
 .simp-implicitDefEqProofs[U.JV,d,f,g,j,aa,fy]
 cases i:t.ps.isEmpty
 .have a:¬t.ps.length=0:=by intro h;rw[yA]at h;simp[h]at i
  simp-implicitDefEqProofs[U.JV,d,f,g,j,a,i,aa,fy]
 have a:t.ps.length=0:=by rw[yA];simpa using i
 simp-implicitDefEqProofs[U.JV,d,f,g,j,a,i,aa,fy]
def ago(t:Ty)(a:t.ps.length<4611686018427387904)(s:HS):R (.call 113 [.agg t.c] s)=.val (.bool (!fy t)) s:=by refine aeu ?_;have h:=agn t a;simp at h;simp[U.W8,aa,h]
def w82(a:Ar)(ok:dj a)(s:HS):R (.call 82 [.agg a.c] s)=.val (iV (aB a)) s:=by
 refine q82 ?_;have f:=Ts a.root;simp only[Bs.c]at f;have g:=YW iN 112 a.ids (λt _=>agj t) ok.1;have k:=YW (λt=> !fy t) 113 a.ids (λt h=>ago t (ok.2 t h)) ok.1;by_cases d:(8:Int)<a.ids.length
 .have b:8<a.ids.length:=by omega
  simp-implicitDefEqProofs[U.WY,aa,d,b,aB]
 have b:¬8<a.ids.length:=by omega
 cases i:a.ids.any iN
 .cases j:ef a.root
  .simp-implicitDefEqProofs[U.WY,aa,d,b,aB,f,g,j,i]
  cases h:a.ids.any (λt=> !fy t)<;>simp-implicitDefEqProofs[U.WY,aa,d,b,aB,f,g,k,j,i,h]
 simp-implicitDefEqProofs[U.WY,aa,d,b,aB,g,i]
def w59(t:Ty)(n:t.ps.length<4611686018427387904)(s:HS):R (.call 59 [.agg t.c] s)=.val (.bool (fy t)) s:=by
 refine q59 ?_;have a:=w60 t.res;simp only[Bs.c]at a;simp[U.b59];generalize B:bK R (.loop U.Dv) _ _=o;have C:=aX B t.ps.length
  (λi e s'=>s'=s0/\look e 1=some (.ax t.c)/\look e 3=some (iV i)/\∀j (p:j<i) (n:j<t.ps.length),ef t.ps[j]=true)
  (λo=>(∃g,o=.code .ret g s0/\look g 2=some (.bool false)/\t.ps.all ef=false)∨(∃g,o=.code (.exit 0) g s0/\look g 1=some (.ax t.c)/\t.ps.all ef=true))
  0 (by omega) (by simp)
  (λi e s' r q ⟨w,b,u,f⟩ k=>by
   subst w;have y:=w60 t.ps[i];simp only[Bs.c]at y;cases d:ef t.ps[i]
   .simp[U.Dv,b,u,q,y,d]at k;subst k;exact .inr ⟨by simp,.inl ⟨_,rfl,by simp,by rw[Kp];exact⟨_,bX q,by simp[d]⟩⟩⟩
   simp[U.Dv,b,u,q,bj q (rz n),y,d]at k;subst k;refine .inl ⟨_,_,rfl,rfl,by simp[b],by simp,λj p n=>?_⟩;by_cases z:j=i
   .subst z;exact d
   exact f j (by omega) n)
  (λe s' r ⟨w,b,u,f⟩ k=>by
   subst w;simp[U.Dv,b,u]at k;subst k;refine⟨by simp,.inr ⟨_,rfl,by simp[b],?_⟩⟩;rw[fw];intro x D;obtain⟨j,p,rfl⟩:=eH.1 D;exact f j p p)
 clear B;rcases C with⟨g,rfl,E,d⟩|⟨g,rfl,b,d⟩
 .simp[E,aa,fy,d]
 cases A:ef t.res
 .simp[b,a,A,aa,fy]
 cases f:t.ps.isEmpty
 .have m:¬t.ps.length=0:=by intro h;rw[yA]at h;simp[h]at f
  simp[b,a,A,d,m,f,aa,fy]
 have m:t.ps.length=0:=by rw[yA];simpa using f
 simp[b,a,A,d,m,f,aa,fy]
def VH(a:Ar)(ok:dj a)(s:HS):R (.call 24 [.agg a.c] s)=.val (iV (aB a)) s:=by
 refine q24 ?_;have h:=w60 a.root;simp only[Bs.c]at h;have q:=ok.1;by_cases G:(8:Int)<a.ids.length
 .have m:8<a.ids.length:=by omega
  simp[U.b24,aa,G,m,aB]
 have m:¬8<a.ids.length:=by omega
 simp[U.b24,G];generalize z:bK R (.loop U.Dr) _ _=o;have A:=aX z a.ids.length
  (λi e s'=>s'=s0/\look e 1=some (.ax a.c)/\look e 3=some (iV i)/\∀j (n:j<i) (q:j<a.ids.length),iN a.ids[j]=false)
  (λo=>(∃f,o=.code .ret f s0/\look f 2=some (iV 5)/\a.ids.any iN=true)∨(∃f,o=.code (.exit 0) f s0/\look f 1=some (.ax a.c)/\a.ids.any iN=false))
  0 (by omega) (by simp)
  (λi e s' r k ⟨u,b,p,w⟩ d=>by
   subst u;by_cases g:(5:Int)<a.ids[i].ps.length
   .simp[U.Dr,b,p,k,g]at d;subst d;exact .inr ⟨by simp,.inl ⟨_,rfl,by simp,by rw[mO];exact⟨_,bX k,by simp[iN];omega⟩⟩⟩
   simp[U.Dr,b,p,k,bj k (rz q),g]at d;subst d;refine .inl ⟨_,_,rfl,rfl,by simp[b],by simp,λj n q=>?_⟩;by_cases y:j=i
   .subst y;simp[iN];omega
   exact w j (by omega) q)
  (λe s' r ⟨u,b,p,w⟩ d=>by
   subst u;simp[U.Dr,b,p]at d;subst d;refine⟨by simp,.inr ⟨_,rfl,by simp[b],?_⟩⟩;rw[rA];intro x B;obtain⟨j,n,rfl⟩:=eH.1 B;simp[w j n n])
 clear z;rcases A with⟨f,rfl,C,g⟩|⟨f,rfl,b,g⟩
 .simp[C,aa,aB,g]
 simp;generalize z:bK R (.loop U.Ds) _ _=o;have A:=aX z a.ids.length
  (λi e s'=>s'=s0/\look e 1=some (.ax a.c)/\look e 4=some (iV i)/\∀j (n:j<i) (q:j<a.ids.length),fy a.ids[j]=true)
  (λo=>(∃f,o=.code .ret f s0/\look f 2=some (iV 4)/\(a.ids.any λt=> !fy t)=true)∨(∃f,o=.code (.exit 2) f s0/\look f 1=some (.ax a.c)/\(a.ids.any λt=> !fy t)=false))
  0 (by omega) (by simp[b])
  (λi e s' r k ⟨u,b,p,w⟩ d=>by
   subst u;have D:=w59 a.ids[i] (ok.2 _ (bX k));simp only[Ty.c]at D;cases g:fy a.ids[i]
   .simp[U.Ds,b,p,k,D,g]at d;subst d;exact .inr ⟨by simp,.inl ⟨_,rfl,by simp,by rw[mO];exact⟨_,bX k,by simp[g]⟩⟩⟩
   simp[U.Ds,b,p,k,bj k (rz q),D,g]at d;subst d;refine .inl ⟨_,_,rfl,rfl,by simp[b],by simp,λj n q=>?_⟩;by_cases y:j=i
   .subst y;exact g
   exact w j (by omega) q)
  (λe s' r ⟨u,b,p,w⟩ d=>by
   subst u;simp[U.Ds,b,p]at d;subst d;refine⟨by simp,.inr ⟨_,rfl,by simp[b],?_⟩⟩;rw[rA];intro x B;obtain⟨j,n,rfl⟩:=eH.1 B;simp[w j n n])
 clear z;rcases A with⟨f,rfl,C,E⟩|⟨f,rfl,b,E⟩
 .simp[C,aa,aB,g,E,m]
 cases d:ef a.root<;>simp[b,h,d,aa,aB,g,E,m]
def YX(a:Ar)(ok:dj a)(s:HS):R (.call 117 [.agg a.c] s)=.val (.bN [.agg a.c,iV (aB a)]) s:=by refine aey ?_;have h:=w82 a ok;simp only[Ar.c]at h;simp[U.Xb,h,s0,ah,an,aj];exact aC (.bN (.data (by simp)))
def Ny(l:aQ):ak:=match l.getLast? with|none=>[iV (-1),.bool false]|some n=>[iV n,.bool true]
abbrev iC(n:Int):ak:=[iV n]
abbrev bC(b:Bool):ak:=[.bool b]
@[simp]def VI(l:aQ):eu (l.map iC)=true:=cq (λx=>by simp) l
@[simp]def Tt(l:ck):eu (l.map bC)=true:=cq (λx=>by simp) l
def agp(l:aQ)(a:l.length<=4611686018427387904)(s:HS):R (.call 171 [.agg [.psl (l.map iC)]] s)=.val (.bN (Ny l)) s:=by
 refine afj ?_;rcases ly l with rfl|⟨r,x,rfl⟩
 .simp[U.R3,Ny];exact aC (.bN (.data (by simp)))
 have b:¬((r.length:Int)+1=0):=by omega
 have c:bR .i64 (r.length:Int)=r.length:=bM (by omega) (by simp at a;omega);simp[U.R3,Ny,b,c];exact aC (.bN (.data (by simp)))
def cI(a:Ar)(id arg:Int):Option (Bs×Bool):=
 if id=0/\arg=0 then some (a.root,a.jumps)
 else if 1<=id/\id<=a.ids.length then
  match a.ids[(id-1).toNat]?with|none=>none|some t=>if arg=0 then some (t.res,a.jumps|| !t.ps.isEmpty)else if 1<=arg/\arg<=t.ps.length then(t.ps[(arg-1).toNat]?).map (λb=>(b,true))else none
 else none
def lz(o:Option (Bs×Bool)):ak:=match o with|none=>[.agg [.bool false,.int .i64 0],.bool false]|some (b,_)=>[.agg b.c,.bool true]
def YY(a:Ar)(ok:dj a)(id arg:Int)(s:HS):R (.call 210 [.agg a.c,iV id,iV arg] s)=.val (.bN (lz (cI a id arg))) s:=by
 refine afX ?_;have B:=ok.1;have f:=YU;by_cases h0:id=0/\arg=0
 .obtain⟨rfl,rfl⟩:=h0;simp[U.Fx,cI,lz,s0,ah,an,aj];exact aC (.bN (.data (by simp)))
 by_cases m:id=0
 .subst m;have w:¬arg=0:=λh=>h0 ⟨rfl,h⟩
  simp[U.Fx,cI,lz,s0,ah,an,aj,w,f];exact aC (.bN (.data (by simp)))
 by_cases d:1<=id/\id<=a.ids.length
 case neg=>
  have x:decide (1<=id/\id<=(a.ids.length:Int))=false:=by simpa using d
  simp[U.Fx,cI,lz,s0,ah,an,aj,m,f,d];exact aC (.bN (.data (by simp)))
 obtain⟨i,rfl⟩:∃i:Nat,id=(i:Int)+1:=⟨(id-1).toNat,by omega⟩;have y:i<a.ids.length:=by omega
 have x:decide (1<=(i:Int)+1/\(i:Int)+1<=(a.ids.length:Int))=true:=by simpa using d
 have p:bR .i64 (i:Int)=i:=bM (by omega) (by omega);have n:=aO y;generalize a.ids[i]=t at n;have z:=ok.2 t (cH n);by_cases j:arg=0
 .subst j;simp[U.Fx,cI,lz,s0,ah,an,aj,m,f,d,p,n];exact aC (.bN (.data (by simp)))
 by_cases g:1<=arg/\arg<=t.ps.length
 case neg=>
  have q:decide (1<=arg/\arg<=(t.ps.length:Int))=false:=by simpa using g
  simp[U.Fx,cI,lz,s0,ah,an,aj,m,f,d,p,n,j,g];exact aC (.bN (.data (by simp)))
 obtain⟨k,rfl⟩:∃k:Nat,arg=(k:Int)+1:=⟨(arg-1).toNat,by omega⟩;have A:k<t.ps.length:=by omega
 have q:decide (1<=(k:Int)+1/\(k:Int)+1<=(t.ps.length:Int))=true:=by simpa using g
 have r:bR .i64 (k:Int)=k:=bM (by omega) (by omega);have u:=aO A;generalize t.ps[k]=b at u;simp[U.Fx,cI,lz,s0,ah,an,aj,m,f,d,p,n,j,g,r,u];exact aC (.bN (.data (by simp)))
def sr{a:Ar}(h:aB a=0):ef a.root=true/\∀t∈a.ids,fy t=true:=by
 unfold aB at h
 split at h
 .cases h
 split at h
 .cases h
 rename_i b;simp only[mJ,uB,mO,not_or,Bool.not_eq_false]at b;exact⟨b.1,λt c=>by
  cases d:fy t
  .exact absurd ⟨t,c,d⟩ b.2
  rfl⟩
def iO{a:Ar}(h:aB a=0){id arg:Int}{b:Bs}{zx:Bool}(c:cI a id arg=some (b,zx)):ef b=true:=by
 obtain⟨g,i⟩:=sr h;unfold cI at c
 split at c
 .cases c;exact g
 split at c
 .split at c
  .cases c
  rename_i t j;have d:=i t (cH j);simp only[fy,aL,fw]at d
  split at c
  .cases c;exact d.1.1
  split at c
  .obtain⟨x,k,f⟩:=mK.1 c;cases f;exact d.1.2 _ (cH k)
  cases c
 cases c
def Cd(id arg:Int)(n:Nat):Mv:=⟨id,arg,2,n⟩
def oE(id arg:Int)(n:Nat):Mv:=⟨id,arg,3,n⟩
def dk(b:Bs)(id arg:Int):aP:=⟨id,arg,1,0⟩::(List.range (if b.cell then b.n.toNat else 0)).map (Cd id arg)
def lZ(b:Bs)(zx:Bool)(id arg:Int):aP:=(if zx then [⟨id,arg,3,-1⟩]else [])++(List.range b.n.toNat).map (oE id arg)
def cw(a:Ar)(id arg:Int):aP:=match cI a id arg with|none=>[]|some (b,_)=>dk b id arg
def lA(a:Ar)(id arg:Int):aP:=match cI a id arg with|none=>[]|some (b,e)=>lZ b e id arg
def Sz.mv(l:aP):Sz 4 (l.map Mv.c):=Sz.map (λx=>by simp) l
def pQ{α:Type}(f:Nat->α)(n:Nat):(List.range (n+1)).map f=(List.range n).map f++[f n]:=by rw[FI,eD];rfl
def agq(a:Ar)(ok:dj a)(I:aB a=0)(id arg:Int)(s:HS):R (.call 181 [.agg a.c,iV id,iV arg] s)=.val (.psl ((cw a id arg).map Mv.c)) s:=by
 refine aft ?_;have f:=YY a ok id arg;simp only[Ar.c,iV]at f;unfold cw;cases u:cI a id arg with
 |none=>rw[u]at f;simp only[lz]at f;simp[U.Sf,f,s0,ah,an];exact aC .ai
 |some J=>
 obtain⟨b,M⟩:=J;rw[u]at f;simp only[lz,Bs.c]at f;have N:=iO I u;simp only[ef,bL]at N;simp[U.Sf,f,s0,ah,an];generalize G:bK R (.loop U.xU) _ _=o;have O:=aX G (if b.cell then b.n.toNat else 0)
  (λi e s'=>∃v,look e 1=some (iV id)/\look e 2=some (iV arg)/\look e 7=some (.ptr .e 0)/\look e 9=some v/\look e 10=some (iV i)/\
   ao s'.h .e=some (.cells (cR b.c) 0 2 .e)/\B9 s' v 4 1 (((⟨id,arg,1,0⟩:Mv)::(List.range i).map (Cd id arg)).map Mv.c))
  (λo=>∃w s' v,o=.code (.exit 0) w s'/\look w 9=some v/\B9 s' v 4 1 ((dk b id arg).map Mv.c))
  0 (by omega) ⟨_,by simp,by simp,by simp,by simp;rfl,by simp,by simp,by
   refine⟨Sz.mv _,by simp[Ky.toNat],.inr ⟨.z .e,_,.z .e,[],by simp,rfl,by simp,rfl,by simp[Ky.toNat]⟩⟩⟩
  (λi e s' r x ⟨v,y,A,p,m,g,q,j⟩ k=>by
   have B:i<64:=by split at x<;>omega
   have d:b.cell=true:=by cases Q:b.cell<;>simp[Q]at x ⊢
   have C:(i:Int)<b.n:=by rw[d,ar rfl]at x;omega
   obtain⟨T,V,H,D,t⟩:=j.append (bx:=4398046511104) (new:=[Mv.c (Cd id arg i)]) (Sz.cons rfl Sz.nil) (by simp) (by simp;omega);simp only[Mv.c,Cd]at H;simp[U.xU,y,A,p,m,g,q,d,C,H,bj (n:=64) B (by omega)]at k;subst k;refine .inl ⟨_,_,rfl,T,by simp[y],by simp[A],by simp[p],by simp,by simp,?_,?_⟩
   .rw[t.2.2.1 _ (by decide)];exact q
   rw[pQ,<-List.cons_append,eD];exact D)
  (λe s' r ⟨v,y,A,p,m,g,q,j⟩ k=>by
   cases d:b.cell with
   |false=>simp[U.xU,p,q,d]at k;subst k;refine⟨by simp,_,_,v,rfl,by simp[m],?_⟩;rw[d]at j;unfold dk;rw[d];exact j
   |true=>
    rw[d,ar rfl]at g j;have E:¬(max b.n 0<b.n):=by omega
    simp[U.xU,p,g,q,d,E]at k;subst k;refine⟨by simp,_,_,v,rfl,by simp[m],?_⟩;unfold dk;rw[d];exact j)
 clear G;obtain⟨w,s',v,rfl,m,j⟩:=O;simp[m];exact aC (j.vw (by simp))
def agr(a:Ar)(ok:dj a)(id arg:Int)(b:Bs)(zx:Bool)(d:cI a id arg=some (b,zx))(s:HS):R (.call 211 [.agg a.c,iV id,iV arg] s)=.val (.bool zx) s:=by
 refine afY ?_;have w:=ok.1;unfold cI at d
 split at d
 .rename_i h0;obtain⟨rfl,rfl⟩:=h0;cases d;cases k:a.jumps<;>simp[U.Iw,k,aa]
 rename_i h0
 split at d
 .rename_i y;obtain⟨i,rfl⟩:∃i:Nat,id=(i:Int)+1:=⟨(id-1).toNat,by omega⟩;rw[show((i:Int)+1-1).toNat=i by omega]at d
  split at d
  .cases d
  rename_i t q;have r:bR .i64 (i:Int)=i:=bM (by omega) (by omega);have g:(0:Int)<(i:Int)+1:=by omega
  split at d
  .rename_i u;subst u;cases d;cases k:a.jumps
   .cases m:t.ps.isEmpty
    .have f:t.ps≠ []:=by intro h;simp[h]at m
     have j:0<t.ps.length:=yB.2 f;simp[U.Iw,k,aa,q,r,g,j]
    have f:t.ps.length=0:=by rw[yA];simpa using m
    simp[U.Iw,k,aa,q,r,g,f]
   simp[U.Iw,k,aa]
  split at d
  .rename_i u;obtain⟨x,z,n⟩:=mK.1 d;cases n;have p:(0:Int)<arg:=by omega
   simp[U.Iw,aa,p]
  cases d
 cases d
def ags(a:Ar)(ok:dj a)(W:aB a=0)(id arg:Int)(s:HS):R (.call 182 [.agg a.c,iV id,iV arg,.int .u8 1] s)=.val (.psl ((lA a id arg).map Mv.c)) s:=by
 refine afu ?_;have f:=YY a ok id arg;simp only[Ar.c,iV]at f;unfold lA;cases D:cI a id arg with
 |none=>rw[D]at f;simp only[lz]at f;simp[U.Nc,f,s0,ah,an];exact aC .ai
 |some X=>
 obtain⟨b,k⟩:=X;rw[D]at f;simp only[lz,Bs.c]at f;have g:=agr a ok id arg b k D;simp only[Ar.c,iV]at g;have Y:=iO W D;simp only[ef,bL]at Y;have main:∀(e:En) (s1:HS) (v:HV) (o:Out),bK R (.loop U.rp) e s1=o->look e 1=some (iV id)->look e 2=some (iV arg)->look e 3=some (.int .u8 1)->look e 9=some (.ptr .e 0)->look e 11=some v->look e 12=some (iV 0)->
   ao s1.h .e=some (.cells (cR b.c) 0 2 .e)->B9 s1 v 4 1 ((if k then [⟨id,arg,3,-1⟩]else []:aP).map Mv.c)->
   ∃q s' v,o=.code (.exit 0) q s'/\look q 11=some v/\B9 s' v 4 1 ((lZ b k id arg).map Mv.c):=by
  intro e s1 v o t y A B u d j w p;refine aX t b.n.toNat
   (λi e s'=>∃v,look e 1=some (iV id)/\look e 2=some (iV arg)/\look e 3=some (.int .u8 1)/\look e 9=some (.ptr .e 0)/\look e 11=some v/\look e 12=some (iV i)/\
    ao s'.h .e=some (.cells (cR b.c) 0 2 .e)/\B9 s' v 4 1 (((if k then [⟨id,arg,3,-1⟩]else []:aP)++(List.range i).map (oE id arg)).map Mv.c))
   (λo=>∃q s' v,o=.code (.exit 0) q s'/\look q 11=some v/\B9 s' v 4 1 ((lZ b k id arg).map Mv.c))
   0 (by omega) ⟨v,y,A,B,u,d,j,w,by simpa using p⟩
   (λi e s' r Z ⟨v,y,A,B,u,d,j,w,p⟩ E=>?_) (λe s' r ⟨v,y,A,B,u,d,j,w,p⟩ E=>?_)
  .have H:i<64:=by omega
   have x:(i:Int)<b.n:=by omega
   obtain⟨T,I,G,J,C⟩:=p.append (bx:=4398046511104) (new:=[Mv.c (oE id arg i)]) (Sz.cons rfl Sz.nil) (by simp) (by simp;split<;>simp<;>omega);simp only[Mv.c,oE]at G;have M:r=.code .normal (((e.qw 43 (.bool true)).qw 11 T).qw 12 (iV (i+1))) I:=by
    rw[<-E];rcases Nat.eq_zero_or_pos i with rfl|V
    .have N:bR .i64 1=1:=bM (by omega) (by omega);simp at G j x;simp[U.rp,y,A,u,d,j,w,x,G,N]
    have O:¬i=0:=by omega
    simp[U.rp,y,A,B,u,d,j,w,x,G,bj (n:=64) H (by omega),O]
   subst M;refine .inl ⟨_,_,rfl,T,by simp[y],by simp[A],by simp[B],by simp[u],by simp,by simp,?_,?_⟩
   .rw[C.2.2.1 _ (by decide)];exact w
   rw[pQ,<-List.append_assoc,eD];exact J
  have Q:¬(max b.n 0<b.n):=by omega
  simp[U.rp,u,j,w,Q]at E;subst E;exact⟨by simp,_,_,v,rfl,by simp[d],p⟩
 cases m:k with
 |false=>rw[m]at g main;simp[U.Nc,f,g,s0,ah,an];generalize t:bK R (.loop U.rp) _ _=o;obtain⟨q,s',v,rfl,d,p⟩:=main _ _ _ _ t (by simp) (by simp) (by simp) (by simp) (by simp) (by simp) (by simp) (B9.ai (by simp[Ky.toNat]));clear t;simp[d];exact aC (p.vw (by simp))
 |true=>
  rw[m]at g main;simp[U.Nc,f,g,s0,ah,an];generalize t:bK R (.loop U.rp) _ _=o;obtain⟨q,s',v,rfl,d,p⟩:=main _ _ _ _ t (by simp) (by simp) (by simp) (by simp) (by simp;rfl) (by simp) (by simp)
   ⟨Sz.mv _,by simp[Ky.toNat],.inr ⟨.z .e,_,.z .e,[],by simp,rfl,by simp,rfl,by simp[Ky.toNat]⟩⟩
  clear t;simp[d];exact aC (p.vw (by simp))
def rC(a b:Mv):qB ⟨true,[0,0,0,0]⟩ (.agg a.c) (.agg b.c)=some (decide (a=b)):=by rw[so _ _ _ rfl rfl];simp only[Mv.c];rw[dQ _ _ _ _ _ _ (fm ..) (dQ _ _ _ _ _ _ (fm ..) (dQ _ _ _ _ _ _ (fm ..) (dQ _ _ _ _ _ _ (fm ..) sn)))];cases a;cases b;simp[Kq]
def YZ(l:aP)(k:l.length<4611686018427387904)(m:Mv)(s:HS):R (.call 180 [.psl (l.map Mv.c),.agg m.c] s)=.val (iV (if m∈l then l.findIdx (λx=>x=m)else-1)) s:=by
 refine afs ?_;simp[U.Xy];generalize w:bK R (.loop U.xT) _ _=o;have y:=aX w l.length
  (λi e s'=>s'=s0/\look e 0=some (.psl (l.map Mv.c))/\look e 3=some (.ax m.c)/\look e 5=some (iV i)/\∀j (d:j<i) (k:j<l.length),l[j]≠m)
  (λo=>(∃i h,∃a:i<l.length,o=.code .ret h s0/\look h 4=some (iV i)/\l[i]=m/\∀j (d:j<i) (k:j<l.length),l[j]≠m)∨(∃h,o=.code (.exit 0) h s0/\m ∉ l))
  0 (by omega) (by simp)
  (λi e s' r a ⟨t,h0,p,q,b⟩ f=>by
   subst t;have n:=rC l[i] m;simp only[Mv.c]at n;by_cases g:l[i]=m
   .rw[cV g]at n;simp[U.xT,h0,p,q,a,n]at f;subst f;exact .inr ⟨by simp,.inl ⟨i,_,a,rfl,by simp,g,b⟩⟩
   rw[cu g]at n;simp[U.xT,h0,p,q,a,n,bj a (rz k)]at f;subst f;refine .inl ⟨_,_,rfl,rfl,by simp[h0],by simp[p],by simp,λj d k=>?_⟩;by_cases u:j=i
   .subst u;exact g
   exact b j (by omega) k)
  (λe s' r ⟨t,h0,p,q,b⟩ f=>by
   subst t;simp[U.xT,h0,q]at f;subst f;refine⟨by simp,.inr ⟨_,rfl,λz=>?_⟩⟩;obtain⟨j,d,A⟩:=eH.1 z;exact b j d d A)
 clear w;rcases y with⟨i,h,a,rfl,B,g,b⟩|⟨h,rfl,b⟩
 .simp[B,aa];rw[ar (g▸bX a),(FH a).2 ⟨by simpa using g,λj d=>by simpa using b j d (by omega)⟩]
 simp[aa,b]
def eO(a:Ar)(m:Mv):Bool:=m∈cw a m.id m.arg∨m∈lA a m.id m.arg
def yC{a:Ar}(d:aB a=0)(id arg:Int):(cw a id arg).length<=65:=by
 unfold cw;cases f:cI a id arg with
 |none=>simp
 |some c=>
  have g:=iO d (b:=c.1) (zx:=c.2) f;simp only[ef,bL]at g;simp[dk]
  split<;>omega
def IF{a:Ar}(d:aB a=0)(id arg:Int):(lA a id arg).length<=65:=by
 unfold lA;cases f:cI a id arg with
 |none=>simp
 |some c=>
  have g:=iO d (b:=c.1) (zx:=c.2) f;simp only[ef,bL]at g;simp[lZ]
  split<;>simp<;>omega
def Y0(a:Ar)(ok:dj a)(h:aB a=0)(m:Mv)(s:HS):R (.call 154 [.agg a.c,.agg m.c] s)=.val (.bool (eO a m)) s:=by
 refine ae4 ?_;have i:=agq a ok h m.id m.arg;have k:=ags a ok h m.id m.arg;have d:=YZ (cw a m.id m.arg) (by have:=yC h m.id m.arg;omega) m;have f:=YZ (lA a m.id m.arg) (by have:=IF h m.id m.arg;omega) m;simp only[Ar.c,iV,Mv.c]at i k d f;unfold eO;by_cases g:m∈cw a m.id m.arg
 .have b:(0:Int)<=((cw a m.id m.arg).findIdx (λx=>decide (x=m)):Int):=by omega
  simp only[g,bf]at d;simp[U.MR,i,d,g,b,aa]
 simp only[g,bp]at d;by_cases j:m∈lA a m.id m.arg
 .have b:(0:Int)<=((lA a m.id m.arg).findIdx (λx=>decide (x=m)):Int):=by omega
  simp only[j,bf]at f;simp[U.MR,i,k,d,f,g,j,b,aa]
 simp only[j,bp]at f;simp[U.MR,i,k,d,f,g,j,aa]
structure Eg where
 m:Mv
 to:Nat
 deriving DecidableEq,Inhabited
abbrev bA:=List Eg
structure Fa where
 nx:List bA
 fi:ck
 deriving DecidableEq,Inhabited
@[simp]def Eg.c(e:Eg):ak:=[.int .i64 e.m.id,.int .i64 e.m.arg,.int .u8 e.m.kind,.int .i64 e.m.n,.int .i64 (e.to:Int)]
@[simp]def oM(l:bA):ak:=[.psl (l.map Eg.c)]
@[simp]def Fa.c(x:Fa):ak:=[.psl (x.nx.map oM),.psl (x.fi.map bC)]
structure Ei where
 m:Mv
 to:Int
 deriving DecidableEq,Inhabited
abbrev fH:=List Ei
structure Ax where
 nx:List fH
 fi:ck
 deriving DecidableEq,Inhabited
@[simp]def Ei.c(e:Ei):ak:=[.int .i64 e.m.id,.int .i64 e.m.arg,.int .u8 e.m.kind,.int .i64 e.m.n,.int .i64 e.to]
@[simp]def zy(l:fH):ak:=[.psl (l.map Ei.c)]
@[simp]def Ax.c(x:Ax):ak:=[.psl (x.nx.map zy),.psl (x.fi.map bC)]
@[simp]def abn(l:fH):eu (l.map Ei.c)=true:=cq (λx=>by simp) l
@[simp]def Y1(l:List fH):eu (l.map zy)=true:=cq (λx=>by simp) l
def Eg.i(e:Eg):Ei:=⟨e.m,e.to⟩
def Fa.i(x:Fa):Ax:=⟨x.nx.map (List.map Eg.i),x.fi⟩
def Fa.Y2(x:Fa):x.i.c=x.c:=by
 have h:(zy∘List.map Eg.i)=oM:=funext λl=>by simp[tS,Eg.i]
 simp only[Ax.c,Fa.c,Fa.i,pc,h]
@[simp]def abo(l:bA):eu (l.map Eg.c)=true:=cq (λx=>by simp) l
@[simp]def pR(l:List bA):eu (l.map oM)=true:=cq (λx=>by simp) l
@[simp]def Nz(l:ck):eu (l.map bC)=true:=cq (λx=>by simp) l
def bO(e:En):List (Nat×HV)->Prop
 |[]=>True
 |(k,v)::r=>look e k=some v/\bO e r
@[simp]def ae{e:En}:bO e []=True:=rfl
@[simp]def ab{e:En}{k:Nat}{v:HV}{r:List (Nat×HV)}:bO e ((k,v)::r)=(look e k=some v/\bO e r):=rfl
def OO{c:HC}{e:En}{s:HS}{o:Out}(u:bK R (.loop c) e s=o)(a n:Nat)(P:aG)(L:Nat->List (Nat×HV))(M:List (Nat×HV))(x:Nat)(Q:Nat->Out->Prop)(h0:a<=n)(w:bO e (L a))
  (round:∀i e r,a<=i->i<n->bO e (L i)->bK R c e s=r->(P i/\∃e',r=.code .normal e' s/\bO e' (L (i+1)))∨(¬P i/\gC r/\Q i r))
  (last:∀e r,bO e (L n)->bK R c e s=r->∃e',r=.code (.exit x) e' s/\bO e' M):
  (∃i,a<=i/\i<n/\(∀j,a<=j->j<i->P j)/\¬P i/\Q i o)∨((∀i,a<=i->i<n->P i)/\∃e',o=.code (.exit x) e' s/\bO e' M):=by
 refine aX u n (λi e s'=>s'=s/\a<=i/\bO e (L i)/\∀j,a<=j->j<i->P j) (λo=>(∃i,a<=i/\i<n/\(∀j,a<=j->j<i->P j)/\¬P i/\Q i o)∨((∀i,a<=i->i<n->P i)/\∃e',o=.code (.exit x) e' s/\bO e' M)) a h0 ⟨rfl,aY _,w,λj g b=>by omega⟩ ?_ ?_
 .rintro i e s' r t ⟨rfl,k,g,b⟩ m
  rcases round i e r k t g m with⟨p,e',d,f⟩|⟨p,d,f⟩
  .refine .inl ⟨e',s',d,rfl,by omega,f,λj q y=>?_⟩;by_cases h:j=i
   .subst h;exact p
   exact b j q (by omega)
  exact .inr ⟨d,.inl ⟨i,k,t,b,p,f⟩⟩
 rintro e s' r ⟨rfl,k,g,b⟩ m
 obtain⟨e',d,f⟩:=last e r g m;subst d;exact⟨by simp,.inr ⟨b,e',rfl,f⟩⟩
def jh{c:HC}{e:En}{s:HS}{o:Out}(d:bK R (.loop c) e s=o)(n:Nat)(P:aG)(L:Nat->List (Nat×HV))(M:List (Nat×HV))(x:Nat)(Q:Nat->Out->Prop)(f:bO e (L 0))
  (round:∀i e r,i<n->bO e (L i)->bK R c e s=r->(P i/\∃e',r=.code .normal e' s/\bO e' (L (i+1)))∨(¬P i/\gC r/\Q i r))
  (last:∀e r,bO e (L n)->bK R c e s=r->∃e',r=.code (.exit x) e' s/\bO e' M):
  (∃i,i<n/\(∀j,j<i->P j)/\¬P i/\Q i o)∨((∀i,i<n->P i)/\∃e',o=.code (.exit x) e' s/\bO e' M):=by
 rcases OO d 0 n P L M x Q (fD _) f (λi e r _=>round i e r) last with⟨i,_,a,b,g⟩|⟨a,b⟩
 .exact .inl ⟨i,a,λj=>b j (fD _),g⟩
 exact .inr ⟨λi=>a i (fD _),b⟩
structure my(x:Ax):Prop where
 n:x.nx.length<=400
 f:x.fi.length<=400
 e:(x.nx.map List.length).sum<=6000
def my.row{x:Ax}(h:my x){i:Nat}{l:fH}(b:x.nx[i]?=some l):l.length<=6000:=
 fh (by
  have:=cH b;generalize x.nx=k at this;clear b
  induction k with
  |nil=>cases this
  |cons a r ih=>
   simp only[cL,List.sum_cons];rcases bm.1 this with rfl|h
   .omega
   have:=ih h;omega) h.e
def fz(a b:Mv):Bool:=if a.id≠b.id then a.id<b.id else if a.arg≠b.arg then a.arg<b.arg else if a.kind≠b.kind then a.kind<b.kind else a.n<b.n
def Y3(a b:Mv)(s:HS):R (.call 138 [.agg a.c,.agg b.c] s)=.val (.bool (fz a b)) s:=by
 refine aeR ?_;unfold fz;by_cases d:a.id=b.id
 .by_cases f:a.arg=b.arg
  .by_cases g:a.kind=b.kind<;>simp[U.MC,d,f,g,aa]
  simp[U.MC,d,f,aa]
 simp[U.MC,d,aa]
def pS(l:List fH)(i:Nat):Nat:=((l.map List.length).take i).sum
def tU{l:List fH}{i:Nat}(a:i<l.length):pS l (i+1)=pS l i+l[i].length:=by unfold pS;rw[eW (by simpa using a),Kr];simp
def DN(l:List fH):pS l l.length=(l.map List.length).sum:=by unfold pS;rw[iZ (by simp)]
def Ce{l:List fH}(b:∀r∈l,r.length<=70368744177664):∀k,k<=l.length->pS l k<=k*70368744177664
 |0,_=>by simp[pS]
 |k+1,c=>by
  have a:k<l.length:=by omega
  have:=Ce b k (by omega);have:=b _ (bX a);rw[tU a];omega
def agt(l:List fH)(m:l.length<=400)(f:∀r∈l,r.length<=70368744177664)(s:HS):R (.call 139 [.psl (l.map zy)] s)=.val (iV (l.map List.length).sum) s:=by
 refine aeS ?_;simp[U.Xi];generalize g:bK R (.loop U.BN) _ _=o;have j:=jh g l.length (λ_=>True) (λi=>[(0,.psl (l.map zy)),(3,iV (pS l i)),(4,iV i)]) [(3,iV (pS l l.length))] 0 (λ_ _=>True) (by simp[pS])
  (λi e r c a b=>by
   have d:(i:Int)<l.length:=by omega
   have:=Ce f i (by omega);have:=f _ (bX c);have k:bR .i64 ((pS l i:Int)+(l[i].length:Int))=(pS l (i+1):Nat):=by rw[tU c,bM (by omega) (by omega)];simp
   simp only[ab,ae]at a;simp[U.BN,a,c,d,k,bj (n:=400) (show i<400 by omega) (by omega)]at b;subst b;exact .inl ⟨trivial,_,rfl,by simp[a]⟩)
  (λe r a b=>by
   simp only[ab,ae]at a;simp[U.BN,a]at b;subst b;exact⟨_,rfl,by simp[a]⟩)
 clear g;rcases j with⟨i,_,_,h,_⟩|⟨_,p,rfl,a⟩
 .exact absurd trivial h
 rw[DN]at a;simp only[ab,ae]at a;simp[a,aa]
def agu(x:Ax)(a:my x)(s:HS):R (.call 104 [.agg x.c] s)=.val (.bool false) s:=by
 refine aeo ?_;have b:=agt x.nx a.n (λr d=>by obtain⟨i,g⟩:=uK.1 d;have:=a.row g;omega);have h:¬(400:Int)<x.nx.length:=by have:=a.n;omega
 have j:¬(400:Int)<x.fi.length:=by have:=a.f;omega
 have k:¬(6000:Int)<((x.nx.map List.length).sum:Nat):=by have:=a.e;omega
 simp[U.W3,h,j,k,b,aa]
def mz(x:Ax):Bool:=decide (0<x.nx.length/\x.nx.length=x.fi.length/\∀l∈x.nx,∀e∈l,0<=e.to/\e.to<x.nx.length)
def NA{x:Ax}{i k:Nat}(a:i<x.nx.length)(b:k<x.nx[i].length)(h:¬(0<=(x.nx[i][k]).to/\(x.nx[i][k]).to<=(x.nx.length:Int)-1)):mz x=false:=by
 unfold mz;simp only[As]
 rintro⟨_,_,c⟩
 have:=c _ (bX a) _ (bX b);omega
def agv(x:Ax)(G:my x)(s:HS):R (.call 105 [.agg x.c] s)=.val (.bool (mz x)) s:=by
 refine aep ?_;have H:=G.n;by_cases h0:x.nx.length=0
 .have:mz x=false:=by unfold mz;simp[h0]
  have u:x.nx=[]:=yA.1 h0;rw[this];simp[U.Mq,u,aa]
 by_cases w:x.nx.length=x.fi.length
 case neg=>
  have:mz x=false:=by unfold mz;simp[w]
  have y:¬(x.nx.length:Int)=x.fi.length:=by omega
  rw[this];simp[U.Mq,h0,y,aa]
 simp[U.Mq,h0,w.symm];generalize p:bK R (.loop U.BI) _ _=o;have z:=jh p x.nx.length (λi=>∀h:i<x.nx.length,∀e∈x.nx[i],0<=e.to/\e.to<x.nx.length) (λi=>[(1,.ax x.c),(3,iV i)]) [] 0 (λ_ o=>mz x=false/\∃m,o=.code .ret m s0/\look m 2=some (.bool false)) (by simp)
  (λi e r g a b=>by
   have A:(i:Int)<x.nx.length:=by omega
   have B:=aO g;simp only[ab,ae]at a;simp[U.BI,a,A]at b;generalize p:bK R (.loop U.xD) _ _=o at b;have z:=jh p x.nx[i].length (λk=>∀h:k<x.nx[i].length,0<=(x.nx[i][k]).to/\(x.nx[i][k]).to<=(x.nx.length:Int)-1) (λk=>[(1,.ax x.c),(3,iV i),(4,iV k)]) [(1,.ax x.c),(3,iV i)] 2 (λ_ o=>mz x=false/\∃m,o=.code .ret m s0/\look m 2=some (.bool false)) (by simp[a])
    (λk e r j a b=>by
     have q:(k:Int)<x.nx[i].length:=by omega
     have J:=G.row B;have d:=YU (x.nx[i][k]).to 0 ((x.nx.length:Int)-1);have I:bR .i64 ((x.nx.length:Int)-1)=(x.nx.length:Int)-1:=bM (by omega) (by omega);simp only[ab,ae]at a;by_cases t:0<=(x.nx[i][k]).to/\(x.nx[i][k]).to<=(x.nx.length:Int)-1
     .rw[cV t]at d;simp only[iV]at d;simp[U.xD,a,g,j,q,I,d,bj (n:=6000) (show k<6000 by omega) (by omega)]at b;subst b;exact .inl ⟨λ_=>t,_,rfl,by simp[a]⟩
     rw[cu t]at d;simp only[iV]at d;simp[U.xD,a,g,j,q,I,d]at b;subst b;exact .inr ⟨λh=>t (h j),by simp,NA g j t,_,rfl,by simp⟩)
    (λe r a b=>by
     simp only[ab,ae]at a;simp[U.xD,a,g]at b;subst b;exact⟨_,rfl,by simp[a]⟩)
   clear p;rcases z with⟨k,j,_,H,C,m,rfl,D⟩|⟨f,m,rfl,a⟩
   .simp at b;subst b;refine .inr ⟨λh=>H λj=>?_,by simp,C,_,rfl,D⟩;have:=h g _ (bX j);omega
   simp only[ab,ae]at a;simp[a,bj (n:=400) (show i<400 by omega) (by omega)]at b;subst b;refine .inl ⟨λ_ e E=>?_,_,rfl,by simp[a]⟩;obtain⟨k,j,rfl⟩:=eH.1 E;have:=f k j j;omega)
  (λe r a b=>by
   simp only[ab,ae]at a;simp[U.BI,a]at b;subst b;exact⟨_,rfl,by simp⟩)
 clear p;rcases z with⟨i,g,_,_,C,m,rfl,D⟩|⟨f,m,rfl,_⟩
 .rw[C];simp[D,aa]
 have:mz x=true:=by unfold mz;simp only[bL];refine⟨by omega,w,λl M e E=>?_⟩;obtain⟨i,g,rfl⟩:=eH.1 M;exact f i g g e E
 rw[this];simp[aa]
structure cJ(x:Fa):Prop where
 ok:my x.i
 to:∀l∈x.nx,∀e∈l,e.to<x.nx.length
 nf:x.nx.length=x.fi.length
 pos:0<x.nx.length
def cJ.n{x:Fa}(h:cJ x):x.nx.length<=400:=by have:=h.ok.n;simpa[Fa.i]using this
def cJ.row{x:Fa}(h:cJ x){i:Nat}(a:i<x.nx.length):x.nx[i].length<=6000:=by have:=h.ok.row (i:=i) (l:=x.nx[i].map Eg.i) (by simp[Fa.i,a]);simpa using this
def Tu{x:Ax}(j:my x)(h:mz x=true):∃y:Fa,x=y.i/\cJ y:=by
 unfold mz at h;simp only[bL]at h;obtain⟨k,n,g⟩:=h;refine⟨⟨x.nx.map (List.map λe=>⟨e.m,e.to.toNat⟩),x.fi⟩,?_⟩;have a:x=(Fa.mk (x.nx.map (List.map λe=>⟨e.m,e.to.toNat⟩)) x.fi).i:=by unfold Fa.i;simp only[pc];obtain⟨nx,fi⟩:=x;simp only[Ax.mk.injEq,and_true];symm;refine(Tv λl b=>?_).trans (List.map_id _);simp only[tS,pc];refine(Tv λe a=>?_).trans (List.map_id _);have:=(g l b e a).1;simp only[Eg.i,id];rw[Ks this]
 refine⟨a,⟨a▸j,λl b e c=>?_,by simpa using n,by simpa using k⟩⟩;simp only[dA]at b;obtain⟨p,d,rfl⟩:=b;obtain⟨q,f,rfl⟩:=dA.1 c;have:=g p d q f;simp only[bH];omega
def vC(l:bA):Prop:=∀k,(h:k+1<l.length)->fz l[k].m l[k+1].m=true
def tV(x:Fa):Prop:=∀l∈x.nx,vC l
open Classical in
def agw(x:Fa)(J:cJ x)(s:HS):R (.call 106 [.agg x.c] s)=.val (.bool (decide (tV x))) s:=by
 refine aeq ?_;have M:=J.n;simp[U.W4];generalize u:bK R (.loop U.BJ) _ _=o;have D:=jh u x.nx.length (λi=>∀h:i<x.nx.length,vC x.nx[i]) (λi=>[(1,.ax x.c),(3,iV i)]) [] 0 (λ_ o=>∃p,o=.code .ret p s0/\look p 2=some (.bool false)) (by simp)
  (λi e r f b d=>by
   have E:(i:Int)<x.nx.length:=by omega
   simp only[ab,ae]at b;simp[U.BJ,b,E]at d;generalize u:bK R (.loop U.xE) _ _=o at d;have D:=OO u 1 (max 1 x.nx[i].length) (λk=>∀j,(B:j+1=k)->(h:k<x.nx[i].length)->fz (x.nx[i][j]'(by omega)).m x.nx[i][k].m=true) (λk=>[(1,.ax x.c),(3,iV i),(4,iV k)]) [(1,.ax x.c),(3,iV i)] 2 (λ_ o=>∃p,o=.code .ret p s0/\look p 2=some (.bool false)) (by omega) (by simp[b])
    (λk e r G w b d=>by
     have t:k<x.nx[i].length:=by omega
     have y:(k:Int)<x.nx[i].length:=by omega
     have N:=J.row f;obtain⟨j,B⟩:∃j,j+1=k:=⟨k-1,by omega⟩;have z:j<x.nx[i].length:=by omega
     have A:bR .i64 ((k:Int)-1)=j:=by rw[show(k:Int)-1=j by omega];exact bM (by omega) (by omega)
     have a:=Y3 x.nx[i][j].m x.nx[i][k].m;simp only[ab,ae]at b;cases C:fz x.nx[i][j].m x.nx[i][k].m
     .rw[C]at a;simp only[Mv.c]at a;simp[U.xE,b,f,t,y,z,A,a]at d;subst d;refine .inr ⟨λh=>?_,by simp,_,rfl,by simp⟩;have:=h j B t;rw[C]at this;cases this
     rw[C]at a;simp only[Mv.c]at a;simp[U.xE,b,f,t,y,z,A,a,bj (n:=6000) (show k<6000 by omega) (by omega)]at d;subst d;refine .inl ⟨λO Q _=>?_,_,rfl,by simp[b]⟩;obtain rfl:O=j:=by omega
     exact C)
    (λe r b d=>by
     have H:¬(((max 1 x.nx[i].length:Nat):Int)<x.nx[i].length):=by omega
     simp only[ab,ae]at b;generalize(max 1 x.nx[i].length)=q at*;simp[U.xE,b,f,H]at d;subst d;exact⟨_,rfl,by simp[b]⟩)
   clear u;rcases D with⟨k,G,w,_,M,p,rfl,I⟩|⟨g,p,rfl,b⟩
   .simp at d;subst d;refine .inr ⟨λh=>M λj B w=>?_,by simp,_,rfl,I⟩;subst B;exact h f j w
   simp only[ab,ae]at b;simp[b,bj (n:=400) (show i<400 by omega) (by omega)]at d;subst d;exact .inl ⟨λ_ k w=>g (k+1) (by omega) (by omega) k rfl w,_,rfl,by simp[b]⟩)
  (λe r b d=>by
   simp only[ab,ae]at b;simp[U.BJ,b]at d;subst d;exact⟨_,rfl,by simp⟩)
 clear u;rcases D with⟨i,f,_,T,p,rfl,I⟩|⟨g,p,rfl,_⟩
 .rw[cu λh=>T λf=>h _ (bX f)];simp[I,aa]
 have:tV x:=λl V=>by obtain⟨i,f,rfl⟩:=eH.1 V;exact g i f f
 rw[cV this];simp[aa]
def Tw(a b:Eg):qB ⟨true,[0,0,0,0,0]⟩ (.agg a.c) (.agg b.c)=some (decide (a=b)):=by rw[so _ _ _ rfl rfl];simp only[Eg.c];rw[dQ _ _ _ _ _ _ (fm ..) (dQ _ _ _ _ _ _ (fm ..) (dQ _ _ _ _ _ _ (fm ..) (dQ _ _ _ _ _ _ (fm ..) (dQ _ _ _ _ _ _ (fm ..) sn))))];obtain⟨⟨_,_,_,_⟩,_⟩:=a;obtain⟨⟨_,_,_,_⟩,_⟩:=b;simp[Kq,Int.natCast_inj,FE]
def ix{α:Type}{a b:List α}(h:a.length=b.length)(f:∀i,(c:i<a.length)->(d:i<b.length)->a[i]=b[i]):a=b:=qM h (λi c d=>f i c d)
def agx(x y:Fa)(j:x.nx.length<=400)(q:x.fi.length<=400)(O:∀l∈x.nx,l.length<=6000)(s:HS):R (.call 107 [.agg x.c,.agg y.c] s)=.val (.bool (decide (x=y))) s:=by
 refine aer ?_;have fin:∀(o:Out) (d:En),o=.code .ret d s0->look d 4=some (.bool false)->pN [.tmp 4] o=some (.bool false):=by
  rintro _ d rfl h
  simp[h,aa]
 by_cases G:x.nx.length=y.nx.length
 case neg=>
  rw[cu (λh=>G (by rw[h]))];have I:¬(x.nx.length:Int)=y.nx.length:=by omega
  simp[U.Mr,I,aa]
 by_cases J:x.fi.length=y.fi.length
 case neg=>
  rw[cu (λh=>J (by rw[h]))];have M:¬(x.fi.length:Int)=y.fi.length:=by omega
  simp[U.Mr,G.symm,M,aa]
 simp[U.Mr,G.symm,J.symm];generalize w:bK R (.loop U.xF) _ _=o;have B:=jh w x.fi.length (λi=>∀(j:i<x.fi.length) (q:i<y.fi.length),x.fi[i]=y.fi[i]) (λi=>[(2,.ax x.c),(3,.ax y.c),(5,iV i)]) [(2,.ax x.c),(3,.ax y.c)] 0 (λ_ o=>∃d,o=.code .ret d s0/\look d 4=some (.bool false)) (by simp)
  (λi e r g a b=>by
   have p:(i:Int)<x.fi.length:=by omega
   have t:i<y.fi.length:=by omega
   simp only[ab,ae]at a;by_cases u:x.fi[i]=y.fi[i]
   .simp[U.xF,a,g,p,t,u,bj (n:=400) (show i<400 by omega) (by omega)]at b;subst b;exact .inl ⟨λ_ _=>u,_,rfl,by simp[a]⟩
   have Q:(x.fi[i]==y.fi[i])=false:=by simpa using u
   have N:(x.fi[i] != y.fi[i])=true:=by simpa using u
   simp[U.xF,a,g,p,t,N]at b;subst b;exact .inr ⟨λh=>u (h g t),by simp,_,rfl,by simp⟩)
  (λe r a b=>by
   simp only[ab,ae]at a;simp[U.xF,a]at b;subst b;exact⟨_,rfl,by simp[a]⟩)
 clear w;rcases B with⟨i,g,_,C,d,rfl,D⟩|⟨f,d,rfl,a⟩
 .rw[cu (λh=>C (by subst h;exact λ_ _=>rfl))];simp[D,aa]
 have T:x.fi=y.fi:=ix J (λi j q=>f i j j q);simp only[ab,ae]at a;simp;generalize w:bK R (.loop U.xH) _ _=o;have B:=jh w x.nx.length (λi=>∀(j:i<x.nx.length) (q:i<y.nx.length),x.nx[i]=y.nx[i]) (λi=>[(2,.ax x.c),(3,.ax y.c),(6,iV i)]) [] 2 (λ_ o=>∃d,o=.code .ret d s0/\look d 4=some (.bool false)) (by simp[a])
  (λi e r g a b=>by
   have p:(i:Int)<x.nx.length:=by omega
   have t:i<y.nx.length:=by omega
   have V:=O _ (bX g);simp only[ab,ae]at a;by_cases hlen:x.nx[i].length=y.nx[i].length
   case neg=>
    have z:¬(x.nx[i].length:Int)=y.nx[i].length:=by omega
    simp[U.xH,a,g,p,t,z]at b;subst b;exact .inr ⟨λh=>hlen (by rw[h g t]),by simp,_,rfl,by simp⟩
   simp[U.xH,a,g,p,t,hlen.symm]at b;generalize w:bK R (.loop U.xG) _ _=o at b;have B:=jh w x.nx[i].length (λk=>∀(j:k<x.nx[i].length) (q:k<y.nx[i].length),x.nx[i][k]=y.nx[i][k]) (λk=>[(2,.ax x.c),(3,.ax y.c),(6,iV i),(7,iV k)]) [(2,.ax x.c),(3,.ax y.c),(6,iV i)] 4 (λ_ o=>∃d,o=.code .ret d s0/\look d 4=some (.bool false)) (by simp[a])
    (λk e r H a b=>by
     have E:(k:Int)<x.nx[i].length:=by omega
     have A:k<y.nx[i].length:=by omega
     have m:=Tw x.nx[i][k] y.nx[i][k];simp only[ab,ae]at a;by_cases u:x.nx[i][k]=y.nx[i][k]
     .rw[cV u]at m;simp only[Eg.c]at m;simp[U.xG,a,g,t,H,E,A,m,bj (n:=6000) (show k<6000 by omega) (by omega)]at b;subst b;exact .inl ⟨λ_ _=>u,_,rfl,by simp[a]⟩
     rw[cu u]at m;simp only[Eg.c]at m;simp[U.xG,a,g,t,H,E,A,m]at b;subst b;exact .inr ⟨λh=>u (h H A),by simp,_,rfl,by simp⟩)
    (λe r a b=>by
     simp only[ab,ae]at a;simp[U.xG,a,g]at b;subst b;exact⟨_,rfl,by simp[a]⟩)
   clear w;rcases B with⟨k,H,_,C,d,rfl,D⟩|⟨f,d,rfl,a⟩
   .simp at b;subst b;refine .inr ⟨λh=>C λj q=>?_,by simp,_,rfl,D⟩;simp only[h g t]
   simp only[ab,ae]at a;simp[a,bj (n:=400) (show i<400 by omega) (by omega)]at b;subst b;exact .inl ⟨λ_ _=>ix hlen (λk j q=>f k j j q),_,rfl,by simp[a]⟩)
  (λe r a b=>by
   simp only[ab,ae]at a;simp[U.xH,a]at b;subst b;exact⟨_,rfl,by simp⟩)
 clear w;rcases B with⟨i,g,_,C,d,rfl,D⟩|⟨f,d,rfl,_⟩
 .rw[cu (λh=>C (by subst h;exact λ_ _=>rfl))];simp[D,aa]
 have:x=y:=by have W:x.nx=y.nx:=ix G (λi j q=>f i j j q);cases x;cases y;simp_all
 rw[cV this];simp[aa]
def mY:Fa:=⟨[[]],[false]⟩
def agy(s:HS):R (.call 111 [] s)=.val (.agg mY.c) s:=by refine aes ?_;simp[U.W5,s0,ah,an,aj];exact aC (.agg (.cons (.sl (l:=[.ai]) (l':=[.psl []]) (by simp[aj]) (.cons .ai .nil) (λ_=>rfl) (λh=>by cases h)) (.cons (.sl (l:=[.bool false]) (l':=[.bool false]) (by simp[aj]) (.data rfl) (λ_=>rfl) (λh=>by cases h)) .nil)))
abbrev nC(n:Nat):ak:=[iV n]
@[simp]def VJ(l:ay):eu (l.map nC)=true:=cq (λx=>by simp) l
structure Wk where
 a:Ar
 w:aP
 op:ay
 pt:aQ
 js:aQ
 lost:Bool
 pT:Int
@[simp]def Wk.c(x:Wk):ak:=[.psl (x.a.ids.map Ty.c),.bool x.a.root.cell,.int .i64 x.a.root.n,.bool x.a.jumps,.psl (x.w.map Mv.c),.psl (x.op.map nC),.psl (x.pt.map iC),.psl (x.js.map iC),.bool x.lost,.int .i64 x.pT]
def bk(w:aP):Bool:=match w.getLast? with|none=>false|some m=>bQ m&&decide (0<m.arg)
def fZ(x:Wk):Option Mv:=match x.op.getLast? with|none=>none|some n=>x.w[n]?
def iy(t m:Mv):Bool:=m.id=t.id/\m.arg=t.arg/\m.kind=3/\(t.kind=1∨m.n<=0)
def fA(x:Wk)(m:Mv):Bool:=eO x.a m&&(if x.w=[]then decide (m.id=0)&&cz m else match fZ x with
 |none=>false
 |some t=>if x.lost||bk x.w then iy t m&&bQ m else
  if cz m then(if 0<t.id/\t.arg=0 then m.id=t.id/\0<m.arg else 0<m.id/\m.arg=0)else
  if bQ m/\t.arg=0 then iy t m&&decide (0<t.id)&&x.a.jumps else iy t m)
structure iz(x:Wk):Prop where
 ok:dj x.a
 Y4:aB x.a=0
 len:x.w.length<=400
 op:∀n∈x.op,n<x.w.length
 DO:x.op.length<=x.w.length
 Tx:x.pt.length=x.w.length
 I7:x.js.length=x.w.length
def w65(x:Wk)(f:iz x)(s:HS):R (.call 65 [.ax x.c] s)=.val (.bool (bk x.w)) s:=by
 refine q65 ?_;have b:=f.len;unfold bk;rcases ly x.w with a|⟨r,m,a⟩
 .simp[U.b65,a,aa]
 rw[a]at b ⊢;simp only[yD,cE,dM]at b;have g:(0:Int)<(r.length:Int)+1:=by omega
 have h:bR .i64 (r.length:Int)=r.length:=bM (by omega) (by omega);have d:=Tq m;simp only[Mv.c]at d;cases i:bQ m<;>simp[U.b65,a,aa,g,h,d,i]
def Kt(o:Option Mv):ak:=match o with|none=>[.agg [.int .i64 0,.int .i64 0,.int .u8 0,.int .i64 0],.bool false]|some m=>[.agg m.c,.bool true]
def w95(x:Wk)(d:iz x)(s:HS):R (.call 95 [.ax x.c] s)=.val (.bN (Kt (fZ x))) s:=by
 refine q95 ?_;have j:=d.len;have a:=d.DO;unfold fZ;rcases ly x.op with b|⟨r,n,b⟩
 .simp[U.b95,b,s0,ah,an,aj,Kt];exact aC (.bN (.data (by simp)))
 have g:=d.op n (by rw[b];simp);rw[b]at a ⊢;simp only[yD,cE,dM]at a;have h:¬((r.length:Int)+1=0):=by omega
 have i:bR .i64 (r.length:Int)=r.length:=bM (by omega) (by omega);have f:=aO g;generalize x.w[n]=m at f;simp[U.b95,b,s0,ah,an,aj,Kt,h,i,f];exact aC (.bN (.data (by simp)))
def agz{e:En}{s:HS}{t m:Mv}(a:look e 3=some (.ax m.c))(b:look e 5=some (.ptr .e 0))(d:ao s.h .e=some (.cells (cR t.c) 0 4 .e)):bK R U.jd e s=.code .normal (e.qw 7 (.bool (iy t m))) s:=by
 by_cases f:m.id=t.id
 .by_cases g:m.arg=t.arg
  .by_cases i:m.kind=3
   .by_cases j:t.kind=1<;>simp[a,b,d,f,g,i,j,iy]
   simp[a,b,d,f,g,i,iy]
  simp[a,b,d,f,g,iy]
 simp[a,b,d,f,iy]
def agA(x:Wk)(G:iz x)(m:Mv)(s:HS):R (.call 128 [.ax x.c,.agg m.c] s)=.val (.bool (fA x m)) s:=by
 refine aeJ ?_;have b:=Y0 x.a G.ok G.Y4 m;have g:=YV m;have i:=Tq m;have d:=w95 x G;have A:=w65 x G;have h:=λ(e:En) (s:HS) (t:Mv)=>@agz e s t m
 obtain⟨y,C,mk,mn⟩:=m;simp only[Ar.c,Mv.c,Wk.c]at b g i d A;unfold fA;cases k:eO x.a ⟨y,C,mk,mn⟩
 .simp[U.pI,b,k,aa]
 by_cases n:x.w=[]
 .by_cases I:y=0
  .subst I;simp[U.pI,b,g,k,n,aa]
  simp[U.pI,b,k,n,I,aa]
 have f:¬x.w.length=0:=by simpa using n
 cases J:fZ x with
 |none=>rw[J]at d;simp only[Kt]at d;simp[U.pI,b,d,k,n,f,aa,s0,ah,an]
 |some t=>
  rw[J]at d;have h:=λe s=>h e s t
  obtain⟨D,E,M,N⟩:=t;simp only[Kt,Mv.c]at d h;have p:∀(e:En) (s:HS),look e 0=some (.ax x.c)->bK R U.je e s=.code .normal (e.qw 69 (.bool (x.lost||bk x.w))) s:=by intro e s h0;simp only[Wk.c]at h0;cases H:x.lost<;>rw[H]at h0 A<;>simp[h0,A]
  simp only[Wk.c]at p;cases O:(x.lost||bk x.w)
  .rw[O]at p;cases z:cz ⟨y,C,mk,mn⟩
   .cases q:iy ⟨D,E,M,N⟩ ⟨y,C,mk,mn⟩
    .rw[q]at h;cases B:bQ ⟨y,C,mk,mn⟩
     .simp-implicitDefEqProofs[-U.jd,-U.je,U.pI,b,g,d,i,k,n,f,aa,s0,ah,an,p,h,q,z,B]
     by_cases j:E=0
     .subst j;simp-implicitDefEqProofs[-U.jd,-U.je,U.pI,b,g,d,i,k,n,f,aa,s0,ah,an,p,h,q,z,B]
     simp-implicitDefEqProofs[-U.jd,-U.je,U.pI,b,g,d,i,k,n,f,aa,s0,ah,an,p,h,q,z,B,j]
    rw[q]at h;cases B:bQ ⟨y,C,mk,mn⟩
    .simp-implicitDefEqProofs[-U.jd,-U.je,U.pI,b,g,d,i,k,n,f,aa,s0,ah,an,p,h,q,z,B]
    by_cases j:E=0
    .subst j;by_cases r:0<D<;>simp-implicitDefEqProofs[-U.jd,-U.je,U.pI,b,g,d,i,k,n,f,aa,s0,ah,an,p,h,q,z,B,r]
    simp-implicitDefEqProofs[-U.jd,-U.je,U.pI,b,g,d,i,k,n,f,aa,s0,ah,an,p,h,q,z,B,j]
   by_cases r:0<D
   .by_cases j:E=0
    .subst j;by_cases u:y=D
     .subst u;simp-implicitDefEqProofs[-U.jd,-U.je,U.pI,b,g,d,k,n,f,aa,s0,ah,an,p,h,z,r]
     simp-implicitDefEqProofs[-U.jd,-U.je,U.pI,b,g,d,k,n,f,aa,s0,ah,an,p,h,z,r,u]
    by_cases u:0<y<;>simp-implicitDefEqProofs[-U.jd,-U.je,U.pI,b,g,d,k,n,f,aa,s0,ah,an,p,h,z,r,j,u]
   by_cases u:0<y<;>simp-implicitDefEqProofs[-U.jd,-U.je,U.pI,b,g,d,k,n,f,aa,s0,ah,an,p,h,z,r,u]
  rw[O]at p;cases q:iy ⟨D,E,M,N⟩ ⟨y,C,mk,mn⟩
  .rw[q]at h;simp-implicitDefEqProofs[-U.jd,-U.je,U.pI,b,d,k,n,f,aa,s0,ah,an,p,h,q]
  rw[q]at h;simp-implicitDefEqProofs[-U.jd,-U.je,U.pI,b,d,i,k,n,f,aa,s0,ah,an,p,h,q]
end Go.Proofs.YtclepinjnoiakaaGreatDoor.K.Hm.S
