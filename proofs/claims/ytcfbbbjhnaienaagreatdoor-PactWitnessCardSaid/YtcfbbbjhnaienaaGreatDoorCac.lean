/- PactWitness returns true for every pact, strategy and side, part 3. -/
import Derived.Test.YtcfbbbjhnaienaaGreatDoorCaa
import Derived.Test.YtcfbbbjhnaienaaGreatDoorCab
import Derived.KernelRfl
import Derived.Test.YtcfbbbjhnaienaaGreatDoorProg
set_option linter.all false
open Int renaming ofNat_eq_natCast->ns
open List renaming length_cons->aB,cons_append->bo,nil_append->bq,length_singleton->dB
open Nat renaming add_zero->iB
open Function renaming comp_def->tP
set_option maxRecDepth 10000
noncomputable section
namespace Go.Proofs.YtcfbbbjhnaienaaGreatDoor.K.Hm.U
open Go
abbrev al9:lL:=.alloc [.ah]
abbrev al8:lL:=.alloc [.bool false,.int .i64 0]
abbrev al7:lL:=.alloc [.ah,.bool false,.bool false]
abbrev al6:lL:=.alloc [.ah,.bool false,.int .i64 0,.bool false,.ah,.ah]
abbrev al5:lL:=.alloc [.int .i64 0,.int .i64 0,.bool false,.int .i64 0,.bool false]
abbrev al4:lL:=.alloc [.ah,.bool false,.int .i64 0]
abbrev al3:lL:=.alloc [.ah,.ah]
abbrev al2:lL:=.alloc [.ah,.bool false,.int .i64 0,.bool false]
abbrev al1:lL:=.alloc [.int .i64 0,.int .i64 0,.int .u8 0,.int .i64 0,.int .i64 0]
abbrev al0:lL:=.alloc [.int .i64 0,.int .i64 0,.int .u8 0,.int .i64 0]
abbrev o(d:Nat)(p:lL):aR:=⟨some d,p,none⟩
abbrev e(p:lL):aR:=⟨none,p,none⟩
abbrev G(d:Nat)(p:lL)(t:Nat)(b:Bool):aR:=⟨some d,p,some (t,b)⟩
abbrev m(d x:Nat):aR:=⟨some d,.mv (.t x),none⟩
abbrev l(d x:Nat):aR:=⟨some d,.ld (.t x) none,none⟩
abbrev L(d x n:Nat):aR:=⟨some d,.ld (.t x) (some n),none⟩
abbrev z(d:Nat)(b:BinOp)(x y:Nat):aR:=⟨some d,.bin false b (.t x) (.t y),none⟩
abbrev f(d x n:Nat):aR:=⟨some d,.fa (.t x) n,none⟩
abbrev a(d x y n:Nat):aR:=⟨some d,.ia (.t x) (.t y) n,none⟩
abbrev n(d x:Nat):aR:=⟨some d,.len 0 (.t x),none⟩
abbrev x(d t n:Nat):aR:=⟨some d,.ext (.t t) n,none⟩
abbrev mT(d x:Nat)(y:Nat):aR:=⟨some d,.mv (.t x),some (y,true)⟩
abbrev mF(d x:Nat)(y:Nat):aR:=⟨some d,.mv (.t x),some (y,false)⟩
abbrev lT(d x:Nat)(y:Nat):aR:=⟨some d,.ld (.t x) none,some (y,true)⟩
abbrev lF(d x:Nat)(y:Nat):aR:=⟨some d,.ld (.t x) none,some (y,false)⟩
abbrev LT(d x n:Nat)(y:Nat):aR:=⟨some d,.ld (.t x) (some n),some (y,true)⟩
abbrev LF(d x n:Nat)(y:Nat):aR:=⟨some d,.ld (.t x) (some n),some (y,false)⟩
abbrev fT(d x n:Nat)(y:Nat):aR:=⟨some d,.fa (.t x) n,some (y,true)⟩
abbrev fF(d x n:Nat)(y:Nat):aR:=⟨some d,.fa (.t x) n,some (y,false)⟩
abbrev aT(d x z n:Nat)(y:Nat):aR:=⟨some d,.ia (.t x) (.t z) n,some (y,true)⟩
abbrev aF(d x z n:Nat)(y:Nat):aR:=⟨some d,.ia (.t x) (.t z) n,some (y,false)⟩
abbrev nT(d x:Nat)(y:Nat):aR:=⟨some d,.len 0 (.t x),some (y,true)⟩
abbrev nF(d x:Nat)(y:Nat):aR:=⟨some d,.len 0 (.t x),some (y,false)⟩
abbrev K(d:Nat)(x:Int):aR:=⟨some d,.mv (.k (.int .i64 x)),none⟩
abbrev Z(d:Nat):aR:=⟨some d,.mv (.k (.bool false)),none⟩
abbrev O(d:Nat):aR:=⟨some d,.mv (.k (.bool true)),none⟩
abbrev Q(d:Nat):aR:=⟨some d,.mv (.k .ah),none⟩
abbrev V(d:Nat):aR:=⟨some d,.mv (.k .dE),none⟩
abbrev y(d x z:Nat):aR:=⟨some d,.pick (.t x) (.t z) (.k (.bool false)),none⟩
abbrev yT(d x z:Nat)(y:Nat):aR:=⟨some d,.pick (.t x) (.t z) (.k (.bool false)),some (y,true)⟩
abbrev yF(d x z:Nat)(y:Nat):aR:=⟨some d,.pick (.t x) (.t z) (.k (.bool false)),some (y,false)⟩
abbrev Y(d x z:Nat):aR:=⟨some d,.pick (.t x) (.k (.bool true)) (.t z),none⟩
abbrev YT(d x z:Nat)(y:Nat):aR:=⟨some d,.pick (.t x) (.k (.bool true)) (.t z),some (y,true)⟩
abbrev i(d:Nat)(p:BinOp)(x:Nat)(k:Int):aR:=⟨some d,.bin false p (.t x) (.k (.int .i64 k)),none⟩
abbrev iT(d:Nat)(p:BinOp)(x:Nat)(k:Int)(y:Nat):aR:=⟨some d,.bin false p (.t x) (.k (.int .i64 k)),some (y,true)⟩
abbrev iF(d:Nat)(p:BinOp)(x:Nat)(k:Int)(y:Nat):aR:=⟨some d,.bin false p (.t x) (.k (.int .i64 k)),some (y,false)⟩
abbrev zT(d:Nat)(p:BinOp)(x z:Nat)(y:Nat):aR:=⟨some d,.bin false p (.t x) (.t z),some (y,true)⟩
abbrev zF(d:Nat)(p:BinOp)(x z:Nat)(y:Nat):aR:=⟨some d,.bin false p (.t x) (.t z),some (y,false)⟩
abbrev b(d x:Nat):aR:=⟨some d,.fbx (.t x),none⟩
abbrev j(d k:Nat):aR:=⟨some d,.call k [],none⟩
abbrev c(d k x:Nat):aR:=⟨some d,.call k [.t x],none⟩
abbrev cT(d k x:Nat)(y:Nat):aR:=⟨some d,.call k [.t x],some (y,true)⟩
abbrev cF(d k x:Nat)(y:Nat):aR:=⟨some d,.call k [.t x],some (y,false)⟩
abbrev C(d k x z:Nat):aR:=⟨some d,.call k [.t x,.t z],none⟩
abbrev CT(d k x z:Nat)(y:Nat):aR:=⟨some d,.call k [.t x,.t z],some (y,true)⟩
abbrev CF(d k x z:Nat)(y:Nat):aR:=⟨some d,.call k [.t x,.t z],some (y,false)⟩
abbrev J(d k x z v:Nat):aR:=⟨some d,.call k [.t x,.t z,.t v],none⟩
abbrev p(d k n x z:Nat):aR:=⟨some d,.app k n none (.t x) (.t z),none⟩
abbrev k(d x:Nat):aR:=⟨some d,.nck (.t x),none⟩
abbrev N(d x:Nat):aR:=⟨some d,.un .not (.t x),none⟩
abbrev NT(d x:Nat)(y:Nat):aR:=⟨some d,.un .not (.t x),some (y,true)⟩
abbrev NF(d x:Nat)(y:Nat):aR:=⟨some d,.un .not (.t x),some (y,false)⟩
abbrev q(d k x:Nat):aR:=⟨some d,.fbl k [.t x],none⟩
abbrev s(n x z:Nat):aR:=⟨none,.st n (.t x) (.t z),none⟩
abbrev h(n p:Nat)(k:az)(r:List Rs)(c:HC):HF:=⟨n,p,k,r,c,true⟩
abbrev h0(n p:Nat)(k:az)(r:List Rs)(c:HC):HF:=⟨n,p,k,r,c,false⟩
abbrev R:HC:=.ret
abbrev W:HC:=.skip
abbrev g(x:az)(l:List aR):HC:=.rg x l
abbrev t(x a b:Nat):HC:=.rg [x] [m a x,i b .add a 1,m x b]
abbrev d(x:az)(l:List dY)(k:List aR):HC:=.Li x l k
abbrev I(t:Nat)(a b:HC):HC:=.cond (.t t) a b
abbrev F(x:az)(l:List aR):HC:=.seq (.rg x l) .ret
abbrev A(x:az)(l:List aR)(t:Nat)(a b:HC):HC:=.seq (.rg x l) (.cond (.t t) a b)
abbrev S(a b:HC):HC:=.seq a b
abbrev T(n:Nat)(c:HC):HC:=.block n c
abbrev M(c:HC):HC:=.loop c
abbrev X(n:Nat):HC:=.exit n
abbrev r(n:Nat)(h:aR):dY:=⟨n,h,.r⟩
abbrev v(n:Nat)(h:aR):dY:=⟨n,h,.a⟩
abbrev u(n:Nat)(h:aR):dY:=⟨n,h,.e⟩
abbrev w(n:Nat)(h:aR)(x y:Nat):dY:=⟨n,h,.l x y⟩
@[simp]def aji:=g [3,4,6] [b 3 0,b 4 1,Z 6]
@[simp]def ajj:=g [35] [L 20 3 6,c 21 4 20,N 22 21,m 23 22,LF 24 4 6 23,cF 25 4 24 23,NF 26 25 23,Y 27 23 26,m 28 27,fF 29 3 0 28,LF 30 29 4 28,fF 31 4 0 28,LF 32 31 4 28,CF 33 5 30 32 28,NF 34 33 28,Y 35 28 34]
@[simp]def ajk:=g [6] [j 36 6,m 6 36]
@[simp]def ajl:=d [7,8] [w 0 (L 38 3 6) 0 0,u 1 (c 39 8 38),w 2 (L 40 4 6) 0 1,u 3 (c 41 8 40),r 4 (m 42 2),u 5 (J 43 7 39 41 42),r 6 (m 37 43),r 7 (x 44 37 0),r 8 (x 45 37 1),r 9 (m 7 44)] [m 8 45]
@[simp]def ajm:=d [9,10] [w 0 (L 47 3 6) 0 0,u 1 (c 48 8 47),w 2 (L 49 4 6) 0 1,u 3 (c 50 8 49),r 4 (m 51 2),u 5 (J 52 9 48 50 51),r 6 (m 46 52),r 7 (x 53 46 0),r 8 (x 54 46 1),r 9 (m 9 53)] [m 10 54]
@[simp]def ajn:=g [70] [m 55 8,i 56 .neq 55 0,m 57 56,mF 58 10 57,iF 59 .neq 58 0 57,mF 60 59 57,mT 61 10 60,iT 62 .neq 61 7 60,yF 63 60 62 57,Y 64 57 63,m 65 64,mF 66 7 65,mF 67 10 65,iF 68 .eql 67 7 65,G 69 (.bin true .neq (.t 66) (.t 68)) 65 false,Y 70 65 69]
@[simp]def ajo:=g [6] [Z 6]
@[simp]def ajp:=g [72] [m 71 10,i 72 .eql 71 0]
@[simp]def ajq:=g [97] [m 73 9,n 74 73,i 75 .eql 74 0,m 76 75,mF 77 9 76,nF 78 77 76,iF 79 .gtr 78 400 76,Y 80 76 79,m 81 80,LF 82 4 6 81,mF 83 9 81,CF 84 10 82 83 81,NF 85 84 81,Y 86 81 85,m 87 86,mF 88 9 87,mF 89 9 87,nF 90 89 87,iF 91 .sub 90 1 87,aF 92 88 91 4 87,LF 93 92 4 87,cF 94 11 93 87,mF 95 2 87,G 96 (.bin true .neq (.t 94) (.t 95)) 87 false,Y 97 87 96]
@[simp]def ajr:=g [6] [Z 6]
@[simp]def aiQ:=g [11,12,13] [L 99 3 6,c 100 8 99,m 101 9,c 102 13 101,C 103 12 100 102,m 98 103,x 104 98 0,x 105 98 1,x 106 98 2,m 11 104,m 12 105,m 13 106]
@[simp]def aiR:=g [120] [m 107 13,i 108 .neq 107 0,m 109 108,mF 110 11 109,mF 111 9 109,nF 112 111 109,iF 113 .sub 112 1 109,zF 114 .neq 110 113 109,Y 115 109 114,m 116 115,mF 117 12 116,mF 118 2 116,G 119 (.bin true .neq (.t 117) (.t 118)) 116 false,Y 120 116 119]
@[simp]def aiS:=g [6] [Z 6]
@[simp]def aiT:=g [14] [f 122 4 4,L 123 122 2,o 124 (.call 14 [.t 123,.k (.int .i64 20)]),m 121 124,x 125 121 0,x 126 121 1,m 14 125,m 15 126]
@[simp]def aiU:=g [16] [K 16 0]
@[simp]def aiV:=g [130] [m 127 16,m 128 14,n 129 128,z 130 .lss 127 129]
@[simp]def aiW:=d [17,18,19] [w 0 (L 134 3 6) 0 0,u 1 (c 135 8 134),r 2 (m 136 14),r 3 (m 137 16),r 4 (a 138 136 137 1),w 5 (l 139 138) 0 1,u 6 (c 140 13 139),u 7 (C 141 12 135 140),r 8 (m 133 141),r 9 (x 142 133 0),r 10 (x 143 133 1),r 11 (x 144 133 2),r 12 (m 17 142),r 13 (m 18 143)] [m 19 144]
@[simp]def aiX:=g [165] [m 145 19,i 146 .neq 145 0,m 147 146,mF 148 17 147,iF 149 .geq 148 0 147,mF 150 149 147,mT 151 18 150,mT 152 2 150,G 153 (.bin true .eql (.t 151) (.t 152)) 150 true,yF 154 150 153 147,mF 155 154 147,mT 156 7 155,mT 157 156 155,mF 158 17 157,iF 159 .add 158 1 157,mF 160 9 157,nF 161 160 157,zF 162 .lss 159 161 157,YT 163 157 162 155,yF 164 155 163 147,Y 165 147 164]
@[simp]def aiY:=g [6] [Z 6]
def ah6:=T 1 (S aiW (S aiX (I 165 (S aiY R) W)))
@[simp]def aiZ:=t 16 131 132
def ahz:=S (S aiV (I 130 W (X 0))) (S ah6 aiZ)
def aiw:=T 0 (M ahz)
@[simp]def ai0:=g [6] [j 166 6,m 6 166]
def b8:=S aji (S (S ajj (I 35 (S ajk R) W)) (S ajl (S ajm (S (S ajn (I 70 (S ajo R) W)) (S (S ajp (I 72 (S (S ajq (I 97 (S ajr R) W)) (S aiQ (S aiR (I 120 (S aiS R) W)))) W)) (S aiT (S (S aiU aiw) (S ai0 R))))))))
def f8:=h 167 3 [0,1,2,3,4,6,7,8,9,10,11,12,13,14,16,17,18,19,35,70,72,97,120,130,165] [.tmp 6] b8
@[simp]def Vt:=g [2] [L 3 1 6,c 4 15 3,m 5 4,LT 6 1 6 5,cT 7 16 6 5,iT 8 .eql 7 0 5,y 9 5 8,m 2 9]
def Ua:=S (g [1,2] [b 1 0,Z 2]) (S Vt R)
def f29:=h 10 1 [0,1,2] [.tmp 2] Ua
@[simp]def Vu:=g [26] [f 6 2 0,l 7 6,n 8 7,f 9 3 0,l 10 9,n 11 10,z 12 .neq 8 11,m 13 12,fF 14 2 1 13,LF 15 14 2 13,fF 16 3 1 13,LF 17 16 2 13,G 18 (.eqs ⟨true,[1,0]⟩ true (.t 15) (.t 17)) 13 false,Y 19 13 18,m 20 19,fF 21 2 3 20,lF 22 21 20,fF 23 3 3 20,lF 24 23 20,G 25 (.bin true .neq (.t 22) (.t 24)) 20 false,Y 26 20 25]
def C7:=S (A [31] [m 27 5,f 28 2 0,l 29 28,n 30 29,z 31 .lss 27 30] 31 W (X 0)) (S (T 1 (S (d [45] [r 0 (f 34 2 0),w 1 (l 35 34) 0 0,r 2 (m 36 5),r 3 (a 37 35 36 3),w 4 (L 38 37 3) 0 0,r 5 (f 39 3 0),w 6 (l 40 39) 0 0,r 7 (m 41 5),r 8 (a 42 40 41 3),w 9 (L 43 42 3) 0 0] [C 44 17 38 43,N 45 44]) (I 45 (F [4] [Z 4]) W))) (t 5 32 33))
def Vv:=S (g [2,3,4] [b 2 0,b 3 1,Z 4]) (S (S Vu (I 26 (F [4] [Z 4]) W)) (S (S (g [5] [K 5 0]) (T 0 (M C7))) (F [4] [O 4])))
def f30:=h 46 2 [0,1,2,3,4,5,26,31,45] [.tmp 4] Vv
def b33:=S (g [3,4,6,7] [b 3 0,b 4 1,Z 6,K 7 0]) (S (S (g [8] [L 11 3 6,L 12 4 6,C 13 26 11 12,m 8 13]) (A [15] [m 14 8,i 15 .neq 14 0] 15 (F [6,7] [m 16 8,Z 6,m 7 16]) W)) (S (g [10] [L 18 3 6,L 19 4 6,m 20 2,J 21 27 18 19 20,m 17 21,x 22 17 0,x 23 17 1,m 9 22,m 10 23]) (F [6,7] [m 24 10,N 25 24,m 6 25,K 7 0])))
def f33:=h 26 3 [0,1,2,3,4,6,7,8,10,15] [.tmp 6,.tmp 7] b33
def b32:=S (g [1,2] [b 1 0,o 2 al6]) (S (d [] [r 0 (f 3 1 0),w 1 (L 4 3 4) 0 0,u 2 (c 5 28 4),r 3 (f 6 1 4),w 4 (L 7 6 2) 0 1] [c 8 29 7,o 9 (.build [.x (.t 5) 4,.x (.t 8) 2]),s 6 2 9]) R)
def f32:=h 10 1 [0,1,2] [.cell 2 (some 6)] b32
def b34:=S (g [3,4,6,7] [b 3 0,b 4 1,Q 6,K 7 0]) (S (S (g [8] [L 11 3 6,L 12 4 6,C 13 26 11 12,m 8 13]) (A [15] [m 14 8,i 15 .neq 14 0] 15 (F [6,7] [m 16 8,Q 6,m 7 16]) W)) (S (g [9,10] [L 18 3 6,L 19 4 6,m 20 2,J 21 27 18 19 20,m 17 21,x 22 17 0,x 23 17 1,m 9 22,m 10 23]) (S (A [25] [m 24 10,N 25 24] 25 (F [6,7] [Q 6,K 7 7]) W) (F [6,7] [m 26 9,m 6 26,K 7 0]))))
def f34:=h 27 3 [0,1,2,3,4,6,7,8,9,10,15,25] [.tmp 6,.tmp 7] b34
def b37:=S (g [2,4] [b 2 0,Z 4]) (F [4] [f 5 2 4,L 6 5 2,m 7 1,C 8 30 6 7,i 9 .geq 8 0,m 4 9])
def f37:=h 10 2 [0,1,2,4] [.tmp 4] b37
def b38:=S (g [1,2] [b 1 0,Z 2]) (S (d [2] [r 0 (f 3 1 0),w 1 (l 4 3) 0 0,r 2 (i 5 .gtr 4 0),r 3 (m 6 5),w 8 (L 11 1 4) 0 0,u 9 (c 12 31 11),r 4 (fT 7 1 1 6),w 5 (lT 8 7 6) 0 1,r 6 (iT 9 .eql 8 0 6),r 7 (y 10 6 9)] [o 13 (.bin true .neq (.t 10) (.t 12)),m 2 13]) R)
def f38:=h 14 1 [0,1,2] [.tmp 2] b38
def b31:=S (g [2,4,5,6] [b 2 0,K 4 0,Z 5,K 6 0]) (S (g [7,6] [L 12 2 6,m 13 1,C 14 32 12 13,m 11 14,x 15 11 0,x 16 11 1,o 7 al3,s 2 7 15,m 6 16]) (S (A [18] [m 17 6,i 18 .neq 17 0] 18 (F [4,5,6] [m 19 6,K 4 0,Z 5,m 6 19]) W) (S (g [8] [j 20 33,o 8 (.alloc [.int .i64 0,.bool false]),s 2 8 20]) (S (S (g [9,10] [L 22 7 2,m 23 1,C 24 34 22 23,m 21 24,x 25 21 0,x 26 21 1,m 9 25,m 10 26]) (A [28] [m 27 9,i 28 .eql 27 (-1)] 28 (g [] [m 29 10,m 30 1,m 31 10,a 32 30 31 4,L 33 32 4,c 34 35 33,o 35 (.build [.x (.t 29) 1,.x (.t 34) 1]),s 2 8 35]) W)) (S (d [4,5,6] [r 0 (f 36 8 0),w 1 (l 37 36) 0 0,r 2 (f 38 8 1),w 3 (l 39 38) 0 0,r 4 (m 4 37)] [m 5 39,K 6 0]) R)))))
def f31:=h 40 2 [0,1,2,4,5,6,7,8,9,10,18,28] [.tmp 4,.tmp 5,.tmp 6] b31
def b15:=S (g [2] [Q 2]) (F [2] [o 3 (.bsl 4 []),m 4 0,p 5 4 4398046511104 3 4,m 2 5])
def f15:=h 6 1 [0,2] [.tmp 2] b15
@[simp]def ai1:=g [39] [m 31 13,m 32 10,z 33 .leq 31 32,m 34 33,mT 35 12 34,nT 36 35 34,mT 37 1 34,zT 38 .lss 36 37 34,y 39 34 38]
def aho:=S (S ai1 (I 39 W (X 0))) (S (T 1 (A [48] [m 42 11,m 43 13,a 44 42 43 1,l 45 44,o 46 (.ia (.t 45) (.k (.int .i64 0)) 1),l 47 46,i 48 .gtr 47 0] 48 (g [12] [L 49 2 2,m 50 11,m 51 13,m 52 12,m 53 1,o 54 (.call 40 [.t 49,.t 50,.t 51,.k (.int .i64 0),.k .ah,.t 52,.t 53]),m 12 54]) W)) (t 13 40 41))
@[simp]def ai2:=g [67] [m 55 12,n 56 55,m 57 1,z 58 .lss 56 57,m 59 58,mT 60 9 59,NT 61 60 59,mT 62 61 59,mF 63 8 62,mF 64 10 62,zF 65 .gtr 63 64 62,YT 66 62 65 59,y 67 59 66]
def b39:=S (g [2,4,5] [b 2 0,Q 4,K 5 0]) (S (S (g [6] [L 14 2 2,c 15 36 14,m 6 15]) (A [17] [m 16 6,i 17 .neq 16 0] 17 (F [4,5] [m 18 6,Q 4,m 5 18]) W)) (S (A [21] [m 19 1,o 20 (.call 37 [.t 19,.k (.int .i64 0),.k (.int .i64 200)]),N 21 20] 21 (F [4,5] [Q 4,K 5 3]) W) (S (g [8,9] [L 23 2 2,c 24 38 23,m 22 24,x 25 22 0,x 26 22 1,x 27 22 2,m 7 25,m 8 26,m 9 27]) (S (g [10] [K 10 400]) (S (g [11] [L 28 2 2,m 29 10,o 30 (.call 39 [.t 28,.t 29,.k (.int .i64 1000)]),m 11 30]) (S (g [12] [Q 12]) (S (S (g [13] [K 13 0]) (T 0 (M aho))) (S (S ai2 (I 67 (F [4,5] [Q 4,K 5 5]) W)) (F [4,5] [m 68 12,m 4 68,K 5 0])))))))))
def f39:=h 69 2 [0,1,2,4,5,6,8,9,10,11,12,13,17,21,39,48,67] [.tmp 4,.tmp 5] b39
@[simp]def Vy:=g [22] [f 5 1 0,L 6 5 4,c 7 41 6,N 8 7,m 9 8,fF 10 1 4 9,fF 11 10 0 9,lF 12 11 9,nF 13 12 9,iF 14 .gtr 13 24 9,Y 15 9 14,m 16 15,fF 17 1 4 16,fF 18 17 1 16,lF 19 18 16,nF 20 19 16,iF 21 .gtr 20 26 16,Y 22 16 21]
def Gn:=S (A [28] [m 23 4,f 24 1 4,f 25 24 0,l 26 25,n 27 26,z 28 .lss 23 27] 28 W (X 0)) (S (T 1 (g [3] [m 31 3,f 32 1 4,f 33 32 0,l 34 33,m 35 4,a 36 34 35 1,l 37 36,n 38 37,z 39 .add 31 38,m 3 39])) (t 4 29 30))
def Gj:=S (g [1,2] [b 1 0,Z 2]) (S (S Vy (I 22 (F [2] [Z 2]) W)) (S (g [3] [K 3 0]) (S (S (g [4] [K 4 0]) (T 0 (M Gn))) (F [2] [m 40 3,i 41 .leq 40 120,m 2 41]))))
def f10:=h 42 1 [0,1,2,3,4,22,28] [.tmp 2] Gj
def ZK:=S (g [1,2] [b 1 0,K 2 0]) (S (S (g [3] [f 7 1 0,L 8 7 4,c 9 42 8,m 3 9]) (A [11] [m 10 3,i 11 .neq 10 0] 11 (F [2] [m 12 3,m 2 12]) W)) (S (S (g [4] [f 13 1 4,L 14 13 2,c 15 36 14,m 4 15]) (A [17] [m 16 4,i 17 .neq 16 0] 17 (F [2] [m 18 4,m 2 18]) W)) (S (S (g [6] [f 20 1 0,L 21 20 4,f 22 1 4,L 23 22 2,C 24 43 21 23,m 19 24,x 25 19 0,x 26 19 1,m 5 25,m 6 26]) (A [28] [m 27 6,N 28 27] 28 (F [2] [K 2 13]) W)) (F [2] [K 2 0]))))
def f66:=h 29 1 [0,1,2,3,4,6,11,17,28] [.tmp 2] ZK
@[simp]def Vz:=g [19] [f 6 2 0,l 7 6,n 8 7,f 9 3 0,l 10 9,n 11 10,z 12 .neq 8 11,m 13 12,fF 14 2 1 13,LF 15 14 2 13,fF 16 3 1 13,LF 17 16 2 13,G 18 (.eqs ⟨true,[1,0]⟩ true (.t 15) (.t 17)) 13 false,Y 19 13 18]
def C8:=S (A [24] [m 20 5,f 21 2 0,l 22 21,n 23 22,z 24 .lss 20 23] 24 W (X 0)) (S (T 1 (S (d [37] [r 0 (f 27 2 0),w 1 (l 28 27) 0 0,r 2 (m 29 5),r 3 (a 30 28 29 2),w 4 (L 31 30 2) 0 0,r 5 (f 32 3 0),w 6 (l 33 32) 0 0,r 7 (m 34 5),r 8 (a 35 33 34 2),w 9 (L 36 35 2) 0 0] [o 37 (.eqs ⟨true,[1,0]⟩ true (.t 31) (.t 36))]) (I 37 (F [4] [Z 4]) W))) (t 5 25 26))
def ZL:=S (g [2,3,4] [b 2 0,b 3 1,Z 4]) (S (S Vz (I 19 (F [4] [Z 4]) W)) (S (S (g [5] [K 5 0]) (T 0 (M C8))) (F [4] [O 4])))
def f67:=h 38 2 [0,1,2,3,4,5,19,24,37] [.tmp 4] ZL
def C9:=S (A [14] [m 11 5,m 12 0,n 13 12,z 14 .lss 11 13] 14 W (X 0)) (S (T 1 (S (d [25] [r 0 (m 17 0),r 1 (m 18 5),r 2 (a 19 17 18 4),w 3 (L 20 19 4) 0 0,r 4 (m 21 1),r 5 (m 22 5),r 6 (a 23 21 22 4),w 7 (L 24 23 4) 0 0] [o 25 (.eqs ⟨true,[0,0,0,0]⟩ true (.t 20) (.t 24))]) (I 25 (F [4] [Z 4]) W))) (t 5 15 16))
def b23:=S (g [4] [Z 4]) (S (A [10] [m 6 0,n 7 6,m 8 1,n 9 8,z 10 .neq 7 9] 10 (F [4] [Z 4]) W) (S (S (g [5] [K 5 0]) (T 0 (M C9))) (F [4] [O 4])))
def f23:=h 26 2 [0,1,4,5,10,14,25] [.tmp 4] b23
def Da:=S (g [13] [z 13 .lss 12 11]) (S (I 13 W (X 0)) (S (T 1 (S (g [6] [a 14 10 12 6,L 15 14 6,o 6 al6,s 6 6 15]) (S (g [7] [L 16 6 6,c 17 51 16,m 7 17]) (A [19] [m 18 7,i 19 .neq 18 0] 19 (F [4] [m 20 7,m 4 20]) W)))) (g [12] [i 21 .add 12 1,m 12 21])))
def b70:=S (g [2,3,4] [b 2 0,b 3 1,K 4 0]) (S (S (g [10,11,12] [L 8 2 6,L 9 3 6,o 10 (.bsl 6 [.t 8,.t 9]),n 11 10,K 12 0]) (T 0 (M Da))) (S (A [27] [f 22 2 0,L 23 22 4,f 24 3 0,L 25 24 4,C 26 52 23 25,N 27 26] 27 (F [4] [K 4 11]) W) (F [4] [K 4 0])))
def f70:=h 28 2 [0,1,2,3,4,6,7,10,11,12,13,19,27] [.tmp 4] b70
def b71:=S (g [3,4,6,7] [b 3 0,b 4 1,Q 6,Z 7]) (S (d [8,9] [r 0 (f 14 3 4),w 1 (L 15 14 2) 0 2,r 2 (o 16 (.build [.x (.t 15) 2])),v 6 (o 8 al3),v 7 (o 9 al3),u 8 (s 2 8 16),r 3 (f 17 4 4),w 4 (L 18 17 2) 0 3,r 5 (o 19 (.build [.x (.t 18) 2]))] [s 2 9 19]) (S (g [10] [o 20 (.mkf 53 [] [.t 9,.t 8]),m 10 20]) (S (g [11,12] [m 22 10,m 23 2,o 24 (.build [.z [.int .i64 0,.int .i64 0],.x (.k (.fn 56 [] [])) 1,.x (.t 22) 1,.z [.int .i64 0],.x (.t 23) 1]),c 25 58 24,m 21 25,x 26 21 0,x 27 21 1,x 28 21 2,m 11 26,m 12 27,m 13 28]) (F [6,7] [m 29 11,m 30 12,m 6 29,m 7 30]))))
def f71:=h 31 3 [0,1,2,3,4,6,7,8,9,10,11,12] [.tmp 6,.tmp 7] b71
def Gp:=S (A [14] [m 10 4,f 11 1 0,l 12 11,n 13 12,z 14 .lss 10 13] 14 W (X 0)) (S (T 1 (d [] [r 2 (f 19 1 0),w 3 (l 20 19) 0 0,r 4 (m 21 4),r 5 (a 22 20 21 3),w 6 (L 23 22 3) 0 0,u 7 (c 24 59 23),r 0 (f 17 3 0),w 1 (l 18 17) 0 1,r 8 (q 25 3 24)] [p 26 3 3518437208883 18 25,f 27 3 0,s 1 27 26])) (t 4 15 16))
def ZM:=S (g [1,2] [b 1 0,o 2 al2]) (S (g [3] [f 5 1 1,L 6 5 2,f 7 1 3,l 8 7,o 9 (.build [.z [.ah],.x (.t 6) 2,.x (.t 8) 1]),o 3 al2,s 4 3 9]) (S (S (g [4] [K 4 0]) (T 0 (M Gp))) (F [] [L 28 3 4,s 4 2 28])))
def f18:=h 29 1 [0,1,2,3,4,14] [.cell 2 (some 4)] ZM
def Db:=S (A [14] [m 10 4,f 11 1 0,l 12 11,n 13 12,z 14 .lss 10 13] 14 W (X 0)) (S (T 1 (d [] [v 2 (o 19 (.bsl 5 [])),r 3 (f 20 1 0),w 4 (l 21 20) 0 1,r 5 (m 22 4),r 6 (a 23 21 22 1),w 7 (l 24 23) 0 1,u 8 (p 25 5 3518437208883 19 24),r 0 (f 17 3 0),w 1 (l 18 17) 0 2,r 9 (q 26 1 25)] [p 27 1 5864062014805 18 26,f 28 3 0,s 1 28 27])) (t 4 15 16))
def b69:=S (g [1,2] [b 1 0,o 2 al3]) (S (g [3] [o 5 (.bsl 1 []),f 6 1 1,l 7 6,p 8 1 140737488355328 5 7,o 9 (.build [.z [.ah],.x (.t 8) 1]),o 3 al3,s 2 3 9]) (S (S (g [4] [K 4 0]) (T 0 (M Db))) (F [] [L 29 3 2,s 2 2 29])))
def f69:=h 30 1 [0,1,2,3,4,14] [.cell 2 (some 2)] b69
@[simp]def ai3:=g [14] [m 7 6,m 8 1,n 9 8,z 10 .lss 7 9,m 11 10,mT 12 5 11,iT 13 .geq 12 0 11,y 14 11 13]
def ahA:=S (S ai3 (I 14 W (X 0))) (S (T 1 (d [5] [w 0 (L 17 2 2) 0 0,r 1 (m 18 5),r 2 (m 19 1),r 3 (m 20 6),r 4 (a 21 19 20 4),w 5 (L 22 21 4) 0 0] [J 23 60 17 18 22,m 5 23])) (t 6 15 16))
def b74:=S (g [2,4] [b 2 0,K 4 0]) (S (g [5] [K 5 0]) (S (S (g [6] [K 6 0]) (T 0 (M ahA))) (F [4] [m 24 5,m 4 24])))
def f74:=h 25 2 [0,1,2,4,5,6,14] [.tmp 4] b74
@[simp]def VX:=g [2] [f 3 1 2,l 4 3,o 5 (.bin false .eql (.t 4) (.k (.int .u8 1))),m 6 5,fF 7 1 2 6,lF 8 7 6,G 9 (.bin false .eql (.t 8) (.k (.int .u8 2))) 6 false,Y 10 6 9,m 2 10]
def b75:=S (g [1,2] [b 1 0,Z 2]) (S VX R)
def f75:=h 11 1 [0,1,2] [.tmp 2] b75
def b68:=S (g [2,4,5] [b 2 0,o 4 al3,K 5 0]) (S (g [6] [L 7 2 6,c 8 51 7,m 6 8]) (S (A [10] [m 9 6,i 10 .eql 9 0] 10 (g [6] [f 12 2 0,L 13 12 4,m 14 1,C 15 50 13 14,m 11 15,x 16 11 0,x 17 11 1,m 6 17]) W) (F [5] [f 18 2 4,L 19 18 2,o 20 (.build [.x (.t 19) 2]),m 21 6,s 2 4 20,m 5 21])))
def f68:=h 22 2 [0,1,2,4,5,6,10] [.cell 4 (some 2),.tmp 5] b68
def b46:=S (g [0] [o 0 (.alloc [.int .i64 0,.bool false])]) (F [] [o 1 (.build [.x (.k (.int .i64 (-1))) 1,.z [.bool false]]),s 2 0 1])
def f46:=h 2 0 [0] [.cell 0 (some 2)] b46
def Zs:=S (g [11] [z 11 .lss 10 9]) (S (I 11 W (X 0)) (S (T 1 (S (g [7,6] [m 12 10,a 13 8 10 4,L 14 13 4,o 7 al0,m 6 12,s 4 7 14]) (S (g [4] [L 15 2 2,m 16 4,L 17 7 4,J 18 55 15 16 17,m 4 18]) (A [20] [m 19 4,i 20 .eql 19 (-1)] 20 (F [4,5] [m 21 6,K 4 (-1),m 5 21]) W)))) (g [10] [i 22 .add 10 1,m 10 22])))
def b48:=S (g [2,4,5] [b 2 0,K 4 0,K 5 0]) (S (S (g [8,9,10] [m 8 1,n 9 8,K 10 0]) (T 0 (M Zs))) (F [4,5] [m 23 4,m 24 1,n 25 24,m 4 23,m 5 25]))
def f48:=h 26 2 [0,1,2,4,5,6,7,8,9,10,11,20] [.tmp 4,.tmp 5] b48
@[simp]def VB:=g [2] [f 3 1 2,l 4 3,o 5 (.bin false .eql (.t 4) (.k (.int .u8 3))),f 6 1 0,l 7 6,i 8 .gtr 7 0,m 9 8,fT 10 1 1 9,lT 11 10 9,iT 12 .eql 11 0 9,y 13 9 12,o 14 (.bin true .eql (.t 5) (.t 13)),m 2 14]
def b50:=S (g [1,2] [b 1 0,Z 2]) (S VB R)
def f50:=h 15 1 [0,1,2] [.tmp 2] b50
def VA:=S (g [1,2] [b 1 0,K 2 0]) (S (A [4] [L 3 1 2,c 4 61 3] 4 (F [2] [K 2 5]) W) (S (S (d [19] [w 0 (L 5 1 2) 0 0,u 1 (c 6 62 5),r 2 (N 7 6),r 3 (m 8 7),w 4 (LF 9 1 2 8) 1 1,u 5 (cF 10 63 9 8),r 6 (NF 11 10 8),r 7 (Y 12 8 11),r 8 (m 13 12),w 9 (LF 14 1 2 13) 2 2,u 10 (cF 15 65 14 13),w 11 (LF 16 1 2 13) 2 3] [CF 17 64 15 16 13,NF 18 17 13,Y 19 13 18]) (I 19 (F [2] [K 2 4]) W)) (F [2] [K 2 0])))
def f76:=h 20 1 [0,1,2,4,19] [.tmp 2] VA
@[simp]def VC:=g [6] [m 7 0,m 8 1,z 9 .geq 7 8,m 10 9,mT 11 0 10,mT 12 2 10,zT 13 .leq 11 12 10,y 14 10 13,m 6 14]
def b62:=S (g [6] [Z 6]) (S VC R)
def f62:=h 15 3 [0,1,2,6] [.tmp 6] b62
def ahB:=S (A [16] [m 13 6,m 14 5,n 15 14,z 16 .lss 13 15] 16 W (X 0)) (S (T 1 (A [25] [m 19 5,m 20 6,a 21 19 20 1,l 22 21,o 23 (.ia (.t 22) (.k (.int .i64 0)) 1),l 24 23,i 25 .gtr 24 0] 25 (g [2,3] [m 26 6,O 2,m 3 26]) W)) (t 6 17 18))
def b77:=S (g [1,2,3,4] [b 1 0,Z 2,K 3 0,Z 4]) (S (g [5] [L 7 1 2,f 8 1 0,l 9 8,n 10 9,o 11 (.bin false .mul (.k (.int .i64 2)) (.t 10)),o 12 (.call 39 [.t 7,.t 11,.k (.int .i64 1)]),m 5 12]) (S (S (g [6] [K 6 0]) (T 0 (M ahB))) (S (A [31] [m 27 3,f 28 1 0,l 29 28,n 30 29,z 31 .geq 27 30] 31 (F [2,3,4] [O 2,K 3 0,Z 4]) W) (F [2,3,4] [m 32 2,m 33 3,m 2 32,m 3 33,O 4]))))
def f77:=h 34 1 [0,1,2,3,4,5,6,16,25,31] [.tmp 2,.tmp 3,.tmp 4] b77
def ahp:=S (A [21] [m 18 8,m 19 7,n 20 19,z 21 .lss 18 20] 21 W (X 0)) (S (T 1 (A [28] [f 24 3 1,l 25 24,m 26 8,a 27 25 26 1,l 28 27] 28 (g [] [m 29 7,m 30 8,a 31 29 30 1,e (.st 1 (.t 31) (.k (.int .i64 1)))]) W)) (t 8 22 23))
def ahC:=S (A [56] [m 49 13,f 50 3 0,l 51 50,m 52 12,a 53 51 52 1,l 54 53,n 55 54,z 56 .lss 49 55] 56 W (X 6)) (S (T 7 (d [] [r 0 (m 59 11),r 1 (m 60 12),r 2 (m 61 2),r 3 (m 62 11),r 4 (m 63 12),r 5 (a 64 62 63 1),w 6 (l 65 64) 0 0,r 7 (m 66 9),r 8 (m 67 10),r 9 (a 68 66 67 1),w 10 (l 69 68) 0 0,r 11 (f 70 3 0),w 12 (l 71 70) 0 0,r 13 (m 72 12),r 14 (a 73 71 72 1),w 15 (l 74 73) 0 0,r 16 (m 75 13),r 17 (a 76 74 75 5),r 18 (f 77 76 4),w 19 (l 78 77) 0 0,r 20 (a 79 69 78 1),w 21 (l 80 79) 0 0,r 22 (z 81 .add 65 80),r 23 (o 82 (.mm false (.t 61) (.t 81)))] [a 83 59 60 1,s 1 83 82])) (t 13 57 58))
def ahD:=S (A [46] [m 43 12,m 44 11,n 45 44,z 46 .lss 43 45] 46 W (X 4)) (S (T 5 (S (g [13] [K 13 0]) (T 6 (M ahC)))) (t 12 47 48))
def ahE:=S (A [36] [m 34 10,m 35 1,z 36 .lss 34 35] 36 W (X 2)) (S (T 3 (S (g [11] [f 39 3 0,l 40 39,n 41 40,o 42 (.mks 1 17592186044416 [.int .i64 0] (.t 41) (.t 41)),m 11 42]) (S (S (g [12] [K 12 0]) (T 4 (M ahD))) (g [9] [m 84 9,m 85 11,q 86 1 85,p 87 1 5864062014805 84 86,m 9 87])))) (t 10 37 38))
def b78:=S (g [3,6] [b 3 0,Q 6]) (S (g [7] [f 14 3 0,l 15 14,n 16 15,o 17 (.mks 1 17592186044416 [.int .i64 0] (.t 16) (.t 16)),m 7 17]) (S (S (g [8] [K 8 0]) (T 0 (M ahp))) (S (g [9] [m 32 7,o 33 (.bsl 1 [.t 32]),m 9 33]) (S (S (g [10] [K 10 0]) (T 2 (M ahE))) (F [6] [m 88 9,m 6 88])))))
def f78:=h 89 3 [0,1,2,3,6,7,8,9,10,11,12,13,21,28,36,46,56] [.tmp 6] b78
@[simp]def ai4:=g [38] [m 25 15,f 26 7 0,l 27 26,m 28 3,a 29 27 28 1,l 30 29,n 31 30,z 32 .lss 25 31,m 33 32,mT 34 5 33,nT 35 34 33,mT 36 6 33,zT 37 .lss 35 36 33,y 38 33 37]
def ahq:=S (S ai4 (I 38 W (X 0))) (S (T 1 (S (g [16] [f 41 7 0,l 42 41,m 43 3,a 44 42 43 1,l 45 44,m 46 15,a 47 45 46 5,L 48 47 5,o 16 al1,s 5 16 48]) (S (d [58] [r 0 (m 49 1),r 1 (m 50 2),r 2 (i 51 .sub 50 1),r 3 (a 52 49 51 1),w 4 (l 53 52) 0 0,r 5 (f 54 16 4),w 6 (l 55 54) 0 0] [a 56 53 55 1,l 57 56,i 58 .gtr 57 0]) (I 58 (d [5] [v 6 (o 65 (.bsl 4 [])),r 7 (m 66 4),u 8 (p 67 4 4398046511104 65 66),r 9 (f 68 16 0),w 10 (L 69 68 4) 0 2,r 11 (q 70 4 69),u 12 (p 71 4 4398046511104 67 70),w 0 (L 59 7 2) 0 3,r 1 (m 60 1),r 2 (m 61 2),r 3 (i 62 .sub 61 1),r 4 (f 63 16 4),w 5 (l 64 63) 0 3,r 13 (m 72 5),r 14 (m 73 6)] [o 74 (.call 40 [.t 59,.t 60,.t 62,.t 64,.t 71,.t 72,.t 73]),m 5 74]) W)))) (t 15 39 40))
def b79:=S (g [7,14] [b 7 0,Q 14]) (S (A [18] [m 17 2,i 18 .eql 17 0] 18 (F [14] [m 19 5,o 20 (.bsl 4 []),m 21 4,p 22 4 4398046511104 20 21,q 23 1 22,p 24 1 5864062014805 19 23,m 14 24]) W) (S (S (g [15] [K 15 0]) (T 0 (M ahq))) (F [14] [m 75 5,m 14 75])))
def f79:=h0 76 7 [0,1,2,3,4,5,6,7,14,15,16,18,38,58] [.tmp 14] b79
@[simp]def aaw:=g [22] [f 7 1 1,f 8 7 1,l 9 8,i 10 .gtr 9 8,m 11 10,fT 12 1 1 11,fT 13 12 1 11,lT 14 13 11,iT 15 .leq 14 64 11,y 16 11 15,m 17 16,fF 18 1 0 17,lF 19 18 17,nF 20 19 17,iF 21 .gtr 20 9 17,Y 22 17 21]
@[simp]def aax:=g [52] [m 37 4,i 38 .gtr 37 8,m 39 38,mT 40 4 39,iT 41 .leq 40 64 39,y 42 39 41,m 43 42,fF 44 1 0 43,lF 45 44 43,mF 46 3 43,aF 47 45 46 3 43,fF 48 47 0 43,lF 49 48 43,nF 50 49 43,iF 51 .gtr 50 6 43,Y 52 43 51]
@[simp]def aay:=g [79] [m 74 6,i 75 .gtr 74 8,m 76 75,mT 77 6 76,iT 78 .leq 77 64 76,y 79 76 78]
def Bb:=S (A [61] [m 53 5,f 54 1 0,l 55 54,m 56 3,a 57 55 56 3,f 58 57 0,l 59 58,n 60 59,z 61 .lss 53 60] 61 W (X 2)) (S (T 3 (S (g [6] [f 64 1 0,l 65 64,m 66 3,a 67 65 66 3,f 68 67 0,l 69 68,m 70 5,a 71 69 70 2,f 72 71 1,l 73 72,m 6 73]) (S aay (I 79 (F [2] [Z 2]) W)))) (t 5 62 63))
def zt:=S (A [27] [m 23 3,f 24 1 0,l 25 24,n 26 25,z 27 .lss 23 26] 27 W (X 0)) (S (T 1 (S (S (g [4] [f 30 1 0,l 31 30,m 32 3,a 33 31 32 3,f 34 33 1,f 35 34 1,l 36 35,m 4 36]) (S aax (I 52 (F [2] [Z 2]) W))) (S (g [5] [K 5 0]) (T 2 (M Bb))))) (t 3 28 29))
def b9:=S (g [1,2] [b 1 0,Z 2]) (S (S aaw (I 22 (F [2] [Z 2]) W)) (S (S (g [3] [K 3 0]) (T 0 (M zt))) (F [2] [O 2])))
def f9:=h 80 1 [0,1,2,3,4,5,6,22,27,52,61,79] [.tmp 2] b9
def Dd:=S (A [13] [m 9 3,f 10 1 0,l 11 10,n 12 11,z 13 .lss 9 12] 13 W (X 0)) (S (T 1 (A [23] [f 16 1 0,l 17 16,m 18 3,a 19 17 18 3,f 20 19 0,l 21 20,n 22 21,i 23 .gtr 22 5] 23 (F [2] [K 2 5]) W)) (t 3 14 15))
def De:=S (A [28] [m 24 4,f 25 1 0,l 26 25,n 27 26,z 28 .lss 24 27] 28 W (X 2)) (S (T 3 (A [37] [f 31 1 0,l 32 31,m 33 4,a 34 32 33 3,L 35 34 3,c 36 66 35,N 37 36] 37 (F [2] [K 2 4]) W)) (t 4 29 30))
def b24:=S (g [1,2] [b 1 0,K 2 0]) (S (A [8] [f 5 1 0,l 6 5,n 7 6,i 8 .gtr 7 8] 8 (F [2] [K 2 5]) W) (S (S (g [3] [K 3 0]) (T 0 (M Dd))) (S (S (g [4] [K 4 0]) (T 2 (M De))) (S (A [41] [f 38 1 1,L 39 38 2,c 40 67 39,N 41 40] 41 (F [2] [K 2 4]) W) (F [2] [K 2 0])))))
def f24:=h 42 1 [0,1,2,3,4,8,13,23,28,37,41] [.tmp 2] b24
def Aa:=S (A [128] [m 125 15,m 126 8,n 127 126,z 128 .lss 125 127] 128 W (X 4)) (S (T 5 (d [14] [r 0 (m 131 14),r 1 (m 132 131),r 2 (mF 133 8 132),r 3 (mF 134 15 132),r 4 (aF 135 133 134 5 132),w 5 (LF 136 135 5 132) 0 0,w 6 (LF 137 13 5 132) 0 0] [CF 138 72 136 137 132,Y 139 132 138,m 14 139])) (t 15 129 130))
def Ab:=S (A [98] [m 90 11,f 91 3 0,l 92 91,f 93 10 0,l 94 93,a 95 92 94 1,l 96 95,n 97 96,z 98 .lss 90 97] 98 W (X 2)) (S (T 3 (S (g [12] [f 101 3 0,l 102 101,f 103 10 0,l 104 103,a 105 102 104 1,l 106 105,m 107 11,a 108 106 107 5,L 109 108 5,o 12 al1,s 5 12 109]) (S (A [116] [f 110 10 1,L 111 110 4,L 112 2 4,f 113 12 0,L 114 113 4,J 115 70 111 112 114,N 116 115] 116 (F [4,5] [Q 4,Z 5]) W) (S (d [13] [r 2 (f 119 10 1),w 3 (L 120 119 4) 0 0,r 4 (f 121 12 0),w 5 (L 122 121 4) 0 0,u 6 (C 123 71 120 122),r 0 (f 117 12 4),w 1 (l 118 117) 0 2,r 7 (o 124 (.build [.x (.t 118) 1,.x (.t 123) 4])),v 8 (o 13 (.alloc [.int .i64 0,.ah,.bool false,.bool false,.bool false]))] [s 5 13 124]) (S (g [14] [Z 14]) (S (S (g [15] [K 15 0]) (T 4 (M Aa))) (A [141] [m 140 14,N 141 140] 141 (g [8] [m 142 8,L 143 13 5,q 144 5 143,p 145 5 3518437208883 142 144,m 8 145]) W))))))) (t 11 99 100))
def lW:=S (A [29] [m 26 9,m 27 8,n 28 27,z 29 .lss 26 28] 29 W (X 0)) (S (T 1 (S (g [10] [m 32 8,m 33 9,a 34 32 33 5,L 35 34 5,o 10 (.alloc [.int .i64 0,.ah,.bool false,.bool false,.bool false]),s 5 10 35]) (S (S (d [78] [r 0 (m 36 7),r 1 (f 37 10 0),w 2 (l 38 37) 0 0,r 3 (a 39 36 38 1),w 4 (l 40 39) 0 0,r 5 (m 41 40),r 6 (mT 42 6 41),r 7 (fT 43 10 0 41),w 8 (lT 44 43 41) 0 0,r 9 (aT 45 42 44 1 41),w 10 (lT 46 45 41) 0 0,r 11 (fT 47 10 1 41),r 12 (fT 48 47 0 41),w 13 (lT 49 48 41) 0 0,u 14 (CT 50 68 46 49 41),r 15 (NT 51 50 41),r 16 (y 52 41 51),r 17 (m 53 52),r 24 (fF 60 10 1 53),w 25 (LF 61 60 4 53) 1 1,u 26 (cF 62 69 61 53),r 18 (fF 54 3 1 53),w 19 (lF 55 54 53) 1 2,r 20 (fF 56 10 0 53),w 21 (lF 57 56 53) 1 2,r 22 (aF 58 55 57 1 53),w 23 (lF 59 58 53) 1 2] [G 63 (.bin true .neq (.t 59) (.t 62)) 53 false,mF 64 63 53,fT 65 3 0 64,lT 66 65 64,nT 67 66 64,iT 68 .eql 67 1 64,mT 69 68 64,fT 70 3 1 69,lT 71 70 69,G 72 (.ia (.t 71) (.k (.int .i64 0)) 1) 69 true,lT 73 72 69,NT 74 73 69,yT 75 69 74 64,NT 76 75 64,yF 77 64 76 53,Y 78 53 77]) (I 78 (F [4,5] [Q 4,Z 5]) W)) (S (d [] [r 0 (m 79 6),r 1 (f 80 10 0),w 2 (l 81 80) 0 0,r 6 (f 85 10 1),r 7 (f 86 85 0),w 8 (l 87 86) 0 0,r 9 (a 88 79 81 1),u 10 (s 1 88 87),r 3 (m 82 7),r 4 (f 83 10 0),w 5 (l 84 83) 0 1] [a 89 82 84 1,e (.st 1 (.t 89) (.k (.bool true)))]) (S (g [11] [K 11 0]) (T 2 (M Ab))))))) (t 9 30 31))
def b96:=S (g [2,3,4,5] [b 2 0,b 3 1,Q 4,Z 5]) (S (g [6] [f 16 3 0,l 17 16,n 18 17,o 19 (.mks 1 5864062014805 [.ah] (.t 18) (.t 18)),m 6 19]) (S (g [7] [f 20 3 0,l 21 20,n 22 21,o 23 (.mks 1 140737488355328 [.bool false] (.t 22) (.t 22)),m 7 23]) (S (g [8] [o 24 (.build [.z [.int .i64 0],.z [.ah,.bool false,.bool false,.bool false]]),o 25 (.bsl 5 [.t 24]),m 8 25]) (S (S (g [9] [K 9 0]) (T 0 (M lW))) (F [4,5] [m 146 6,m 4 146,O 5])))))
def f96:=h 147 2 [0,1,2,3,4,5,6,7,8,9,10,11,12,13,14,15,29,78,98,116,128,141] [.tmp 4,.tmp 5] b96
def b45:=S (g [2,4,5] [b 2 0,K 4 0,K 5 0]) (S (g [6,5] [L 8 2 4,m 9 1,C 10 82 8 9,m 7 10,x 11 7 0,x 12 7 1,m 6 11,m 5 12]) (S (T 0 (A [13] [m 14 5,i 15 .neq 14 0,m 13 15] 13 (F [4,5] [m 16 5,K 4 0,m 5 16]) (A [17] [m 18 6,k 19 18,f 20 19 4,l 21 20,n 22 21,m 23 1,n 24 23,z 25 .lss 22 24,m 17 25] 17 (F [4,5] [m 26 6,k 27 26,f 28 27 4,l 29 28,n 30 29,m 4 30,K 5 13]) W))) (F [4,5] [K 4 0,K 5 0])))
def f45:=h 31 2 [0,1,2,4,5,6,13,17] [.tmp 4,.tmp 5] b45
def b84:=S (g [1,2] [b 1 0,K 2 0]) (S (g [4] [L 6 1 6,c 7 83 6,m 5 7,x 8 5 0,x 9 5 1,m 3 8,m 4 9]) (F [2] [m 10 4,m 2 10]))
def f84:=h 11 1 [0,1,2,4] [.tmp 2] b84
@[simp]def VD:=g [4] [f 6 2 1,L 7 6 2,f 8 3 1,L 9 8 2,o 10 (.eqs ⟨true,[1,0]⟩ false (.t 7) (.t 9)),m 11 10,fT 12 2 3 11,lT 13 12 11,fT 14 3 3 11,lT 15 14 11,G 16 (.bin true .eql (.t 13) (.t 15)) 11 true,y 17 11 16,m 18 17,fT 19 2 0 18,lT 20 19 18,fT 21 3 0 18,lT 22 21 18,mT 23 5 18,G 24 (.call 86 [.t 20,.t 22,.t 23]) 18 true,y 25 18 24,m 4 25]
def ZN:=S (g [2,3,4] [b 2 0,b 3 1,Z 4]) (S (g [5] [o 5 (.mv (.k (.fn 84 [] [])))]) (S VD R))
def f85:=h 26 2 [0,1,2,3,4,5] [.tmp 4] ZN
def ZO:=S (g [3,4] [o 3 (.box (.t 0)),o 4 (.mv (.k .gY))]) (F [4] [o 5 (.mkf 54 [] [.t 1,.t 3,.t 2]),m 4 5])
def f97:=h0 6 3 [0,1,2,3,4] [.tmp 4] ZO
@[simp]def VE:=g [14,15,16] [f 8 1 0,f 9 8 0,l 10 9,f 11 2 0,l 12 11,a 13 10 12 1,l 14 13,n 15 14,K 16 0]
@[simp]def VF:=g [17] [z 17 .lss 16 15]
@[simp]def VG:=g [6] [a 18 14 16 5,L 19 18 5,o 6 al1,s 5 6 19]
@[simp]def VH:=d [7] [w 2 (L 22 3 2) 0 0,r 3 (f 23 2 1),w 4 (l 24 23) 0 0,r 5 (f 25 6 0),w 6 (L 26 25 4) 0 0,u 7 (J 27 55 22 24 26),r 0 (f 20 6 4),w 1 (l 21 20) 0 1] [o 28 (.build [.x (.t 21) 1,.x (.t 27) 1]),o 29 (.box (.t 28)),m 7 29]
@[simp]def VI:=g [34] [m 30 7,k 31 30,f 32 31 1,l 33 32,i 34 .eql 33 (-1)]
@[simp]def VJ:=g [7] [V 7]
@[simp]def VL:=g [40] [m 35 0,f 36 6 0,L 37 36 4,m 38 7,o 39 (.dyn (.t 35) [.t 37,.t 38]),N 40 39]
def Jl:=T 1 (S VG (S VH (S (S VI (I 34 VJ W)) (S VL (I 40 R W)))))
@[simp]def VM:=g [16] [i 41 .add 16 1,m 16 41]
def Df:=S VF (S (I 17 W (X 0)) (S Jl VM))
def N3:=T 0 (M Df)
def ZP:=S VE N3
def f98:=h0 42 4 [0,1,2,3,6,7,14,15,16,17,34,40] [] ZP
def Dc:=S (g [17] [z 17 .lss 16 15]) (S (I 17 W (X 0)) (S (T 1 (S (g [8] [a 18 14 16 5,L 19 18 5,o 8 al1,s 5 8 19]) (A [23] [f 20 8 0,L 21 20 4,L 22 5 4,o 23 (.eqs ⟨true,[0,0,0,0]⟩ false (.t 21) (.t 22))] 23 (F [6] [f 24 8 4,l 25 24,m 6 25]) W))) (g [16] [i 26 .add 16 1,m 16 26])))
def b90:=S (g [3,5,6] [b 3 0,b 5 2,K 6 0]) (S (S (g [14,15,16] [f 9 3 0,f 10 9 0,l 11 10,m 12 1,a 13 11 12 1,l 14 13,n 15 14,K 16 0]) (T 0 (M Dc))) (F [6] [K 6 (-1)]))
def f90:=h 27 3 [0,1,2,3,5,6,8,14,15,16,17,23] [.tmp 6] b90
def b99:=S (g [1,2] [b 1 0,o 2 (.mv (.k (.str [])))]) (F [2] [f 3 1 0,l 4 3,f 5 1 1,l 6 5,o 7 (.bsl 1 [.t 4,.t 6]),c 8 57 7,m 2 8])
def f99:=h 9 1 [0,1,2] [.tmp 2] b99
def tC:=S (A [13] [m 12 5,i 13 .gtr 12 0] 13 W (X 2)) (S (T 3 (g [] [m 16 5,i 17 .rem 16 2,o 18 (.bin false .add (.k (.int .i64 48)) (.t 17)),o 19 (.cnv .u8 (.t 18)),C 20 87 3 19])) (g [5] [m 14 5,i 15 .quo 14 2,m 5 15]))
def Bc:=S (g [9] [z 9 .lss 8 7]) (S (I 9 W (X 0)) (S (T 1 (S (g [5] [a 10 6 8 1,l 11 10,m 5 11]) (S (T 2 (M tC)) (g [] [o 21 (.call 87 [.t 3,.k (.int .u8 44)])])))) (g [8] [i 22 .add 8 1,m 8 22])))
def VN:=S (g [2] [o 2 (.mv (.k (.str [])))]) (S (g [3] [o 3 (.alb 166 [.dE,.ah])]) (S (S (g [6,7,8] [m 6 0,n 7 6,K 8 0]) (T 0 (M Bc))) (F [2] [c 23 88 3,m 2 23])))
def aaz:=h 24 1 [0,2,3,5,6,7,8,9,13] [.tmp 2] VN
@[simp]def ES:=g [1,2,3,4] [b 1 0,o 2 al9,o 3 (.alloc [.bool false]),o 4 (.alloc [.int .i64 0])]
@[simp]def ET:=g [5] [o 10 .mkm,f 11 1 2,l 12 11,f 13 1 0,L 14 13 2,o 15 (.dyn (.t 12) [.t 14]),e (.mup ⟨false,[2]⟩ (.t 10) (.t 15) (.k (.bool true))),m 16 10,o 5 (.alloc [.fS]),s 1 5 16]
@[simp]def Bd:=g [6] [f 17 1 0,L 18 17 2,o 19 (.build [.x (.t 18) 2,.z [.ah]]),o 20 (.bsl 3 [.t 19]),o 6 al9,s 1 6 20]
@[simp]def EU:=g [23] [l 21 6,n 22 21,i 23 .gtr 22 0]
@[simp]def EV:=d [32] [r 0 (f 26 1 3),w 1 (l 27 26) 0 0,w 2 (l 28 6) 0 0,r 3 (o 29 (.ia (.t 28) (.k (.int .i64 0)) 3)),r 4 (f 30 29 0),w 5 (L 31 30 2) 0 0] [o 32 (.dyn (.t 27) [.t 31])]
@[simp]def hX:=g [7] [o 7 al0,s 4 7 33]
@[simp]def hY:=g [8] [m 8 34]
@[simp]def EW:=d [9] [w 0 (l 35 6) 0 0,r 1 (o 36 (.ia (.t 35) (.k (.int .i64 0)) 3)),r 2 (f 37 36 2),w 3 (l 38 37) 0 0,u 4 (c 39 89 38),w 5 (L 40 7 4) 0 1,r 6 (q 41 4 40)] [p 42 4 4398046511104 39 41,m 9 42]
@[simp]def PN:=g [43] [m 44 8,o 45 (.niq 3 false (.t 44)),m 43 45]
@[simp]def PO:=d [54] [w 0 (l 46 3) 0 0,r 1 (N 47 46),r 2 (m 48 47),w 3 (LT 49 7 4 48) 0 0,u 4 (cT 50 35 49 48),r 5 (fT 51 1 5 48),w 6 (lT 52 51 48) 0 1] [G 53 (.bin true .eql (.t 50) (.t 52)) 48 true,y 54 48 53]
@[simp]def LL:=g [] [m 55 9,s 1 2 55,e (.st 1 (.t 3) (.k (.bool true)))]
@[simp]def LM:=d [56] [r 1 (f 58 1 2),w 2 (l 59 58) 0 0,r 3 (m 60 8),r 4 (k 61 60),w 5 (L 62 61 2) 0 0,u 6 (o 63 (.dyn (.t 59) [.t 62])),w 0 (l 57 5) 0 1] [o 64 (.lkp ⟨false,[2]⟩ (.t 57) (.t 63) (.bool false) false),N 65 64,m 56 65]
@[simp]def LN:=d [] [r 1 (f 67 1 2),w 2 (l 68 67) 0 0,r 3 (m 69 8),r 4 (k 70 69),w 5 (L 71 70 2) 0 0,u 6 (o 72 (.dyn (.t 68) [.t 71])),w 0 (l 66 5) 0 1] [e (.mup ⟨false,[2]⟩ (.t 66) (.t 72) (.k (.bool true)))]
@[simp]def LO:=d [] [w 0 (l 73 6) 0 0,r 1 (m 74 8),r 2 (k 75 74),w 3 (L 76 75 2) 0 0,r 4 (m 77 9),r 5 (o 78 (.build [.x (.t 76) 2,.x (.t 77) 1])),r 6 (q 79 3 78)] [p 80 3 3518437208883 73 79,s 1 6 80]
def iG:=T 4 (S PN (I 43 (S PO (I 54 LL W)) (S LM (I 56 (S LN LO) W))))
@[simp]def Be:=g [90] [f 81 1 4,l 82 81,i 83 .gtr 82 0,m 84 83,lT 85 5 84,G 86 (.len 2 (.t 85)) 84 true,fT 87 1 4 84,lT 88 87 84,zT 89 .gtr 86 88 84,y 90 84 89]
@[simp]def LP:=g [] [e (.st 1 (.t 2) (.k .ah)),e (.st 1 (.t 3) (.k (.bool false))),e (.st 1 (.t 4) (.k (.int .i64 5)))]
def gH:=T 3 (S EW (S iG (S Be (I 90 (S LP R) W))))
def Jm:=T 2 (.rf (.t 32) [33,34] (S hX hY) gH)
def EX:=T 1 (S EV Jm)
@[simp]def Bf:=g [91] [l 91 6]
@[simp]def Bg:=g [6] [o 6 al9,s 1 6 91]
@[simp]def Bh:=g [] [l 24 6,o 25 (.slc (.t 24) (some (.k (.int .i64 1))) none none 3),s 1 6 25]
def ag6:=S (S EU (I 23 W (X 0))) (S EX (S (S Bf Bg) Bh))
def EY:=T 0 (M ag6)
@[simp]def Bi:=d [] [w 0 (l 92 2) 0 0,u 2 (s 1 2 92),w 1 (l 93 3) 0 1] [s 1 3 93,e (.st 1 (.t 4) (.k (.int .i64 0)))]
def PQ:=S ES (S ET (S (S Bd EY) (S Bi R)))
def aaA:=h0 94 1 [0,1,2,3,4,5,6,7,8,9,23,32,33,34,43,54,56,90,91] [.cell 2 none,.cell 3 none,.cell 4 none] PQ
def b57:=S (g [1,2] [b 1 0,o 2 al4]) (S (d [] [v 0 (o 3 (.bsl 2 [])),r 1 (f 4 1 0),w 2 (l 5 4) 0 1,u 3 (p 6 2 8796093022208 3 5),r 4 (f 7 1 1),w 5 (L 8 7 2) 0 2] [o 9 (.build [.x (.t 6) 1,.x (.t 8) 2]),s 3 2 9]) R)
def f57:=h 10 1 [0,1,2] [.cell 2 (some 3)] b57
def ahF:=S (A [15] [m 8 7,f 9 3 0,l 10 9,m 11 1,a 12 10 11 1,l 13 12,n 14 13,z 15 .lss 8 14] 15 W (X 0)) (S (T 1 (S (d [28] [r 0 (f 18 3 0),w 1 (l 19 18) 0 0,r 2 (m 20 1),r 3 (a 21 19 20 1),w 4 (l 22 21) 0 0,r 5 (m 23 7),r 6 (a 24 22 23 5),r 7 (f 25 24 0),w 8 (L 26 25 4) 0 0,w 9 (L 27 5 4) 0 0] [o 28 (.eqs ⟨true,[0,0,0,0]⟩ false (.t 26) (.t 27))]) (I 28 (F [6] [f 29 3 0,l 30 29,m 31 1,a 32 30 31 1,l 33 32,m 34 7,a 35 33 34 5,f 36 35 4,l 37 36,m 6 37]) W))) (t 7 16 17))
def b93:=S (g [3,5,6] [b 3 0,b 5 2,K 6 0]) (S (S (g [7] [K 7 0]) (T 0 (M ahF))) (F [6] [K 6 (-1)]))
def f93:=h 38 3 [0,1,2,3,5,6,7,15,28] [.tmp 6] b93
@[simp]def PR:=g [2] [f 3 1 0,l 4 3,n 5 4,i 6 .gtr 5 400,m 7 6,fF 8 1 1 7,lF 9 8 7,nF 10 9 7,iF 11 .gtr 10 400 7,Y 12 7 11,m 13 12,fF 14 1 0 13,lF 15 14 13,cF 16 90 15 13,iF 17 .gtr 16 6000 13,Y 18 13 17,m 2 18]
def VP:=S (g [1,2] [b 1 0,Z 2]) (S PR R)
def ajs:=h 19 1 [0,1,2] [.tmp 2] VP
@[simp]def PS:=g [17] [f 5 1 0,l 6 5,n 7 6,i 8 .eql 7 0,m 9 8,fF 10 1 0 9,lF 11 10 9,nF 12 11 9,fF 13 1 1 9,lF 14 13 9,nF 15 14 9,zF 16 .neq 12 15 9,Y 17 9 16]
def wW:=S (A [32] [m 25 4,f 26 1 0,l 27 26,m 28 3,a 29 27 28 1,l 30 29,n 31 30,z 32 .lss 25 31] 32 W (X 2)) (S (T 3 (S (d [49] [r 0 (f 35 1 0),w 1 (l 36 35) 0 0,r 2 (m 37 3),r 3 (a 38 36 37 1),w 4 (l 39 38) 0 0,r 5 (m 40 4),r 6 (a 41 39 40 5),r 7 (f 42 41 4),w 8 (l 43 42) 0 0,r 9 (f 44 1 0),w 10 (l 45 44) 0 0,w 11 (n 46 45) 0 0,r 12 (i 47 .sub 46 1)] [o 48 (.call 37 [.t 43,.k (.int .i64 0),.t 47]),N 49 48]) (I 49 (F [2] [Z 2]) W))) (t 4 33 34))
def Bj:=S (A [22] [m 18 3,f 19 1 0,l 20 19,n 21 20,z 22 .lss 18 21] 22 W (X 0)) (S (T 1 (S (g [4] [K 4 0]) (T 2 (M wW)))) (t 3 23 24))
def LQ:=S (g [1,2] [b 1 0,Z 2]) (S (S PS (I 17 (F [2] [Z 2]) W)) (S (S (g [3] [K 3 0]) (T 0 (M Bj))) (F [2] [O 2])))
def aaB:=h 50 1 [0,1,2,3,4,17,22,32,49] [.tmp 2] LQ
def wX:=S (A [19] [m 12 4,f 13 1 0,l 14 13,m 15 3,a 16 14 15 1,l 17 16,n 18 17,z 19 .lss 12 18] 19 W (X 2)) (S (T 3 (S (d [42] [r 0 (f 22 1 0),w 1 (l 23 22) 0 0,r 2 (m 24 3),r 3 (a 25 23 24 1),w 4 (l 26 25) 0 0,r 5 (m 27 4),r 6 (i 28 .sub 27 1),r 7 (a 29 26 28 5),r 8 (f 30 29 0),w 9 (L 31 30 4) 0 0,r 10 (f 32 1 0),w 11 (l 33 32) 0 0,r 12 (m 34 3),r 13 (a 35 33 34 1),w 14 (l 36 35) 0 0,r 15 (m 37 4),r 16 (a 38 36 37 5),r 17 (f 39 38 0),w 18 (L 40 39 4) 0 0] [C 41 91 31 40,N 42 41]) (I 42 (F [2] [Z 2]) W))) (t 4 20 21))
def Bk:=S (A [9] [m 5 3,f 6 1 0,l 7 6,n 8 7,z 9 .lss 5 8] 9 W (X 0)) (S (T 1 (S (g [4] [K 4 1]) (T 2 (M wX)))) (t 3 10 11))
def VQ:=S (g [1,2] [b 1 0,Z 2]) (S (S (g [3] [K 3 0]) (T 0 (M Bk))) (F [2] [O 2]))
def aaC:=h 43 1 [0,1,2,3,4,9,19,42] [.tmp 2] VQ
@[simp]def PT:=g [23] [f 8 2 0,l 9 8,n 10 9,f 11 3 0,l 12 11,n 13 12,z 14 .neq 10 13,m 15 14,fF 16 2 1 15,lF 17 16 15,nF 18 17 15,fF 19 3 1 15,lF 20 19 15,nF 21 20 15,zF 22 .neq 18 21 15,Y 23 15 22]
def wY:=S (A [28] [m 24 5,f 25 2 1,l 26 25,n 27 26,z 28 .lss 24 27] 28 W (X 0)) (S (T 1 (S (d [41] [r 0 (f 31 2 1),w 1 (l 32 31) 0 0,r 2 (m 33 5),r 3 (a 34 32 33 1),w 4 (l 35 34) 0 0,r 5 (f 36 3 1),w 6 (l 37 36) 0 0,r 7 (m 38 5),r 8 (a 39 37 38 1),w 9 (l 40 39) 0 0] [o 41 (.bin true .neq (.t 35) (.t 40))]) (I 41 (F [4] [Z 4]) W))) (t 5 29 30))
def wZ:=S (A [69] [m 62 7,f 63 2 0,l 64 63,m 65 6,a 66 64 65 1,l 67 66,n 68 67,z 69 .lss 62 68] 69 W (X 4)) (S (T 5 (S (d [88] [r 0 (f 72 2 0),w 1 (l 73 72) 0 0,r 2 (m 74 6),r 3 (a 75 73 74 1),w 4 (l 76 75) 0 0,r 5 (m 77 7),r 6 (a 78 76 77 5),w 7 (L 79 78 5) 0 0,r 8 (f 80 3 0),w 9 (l 81 80) 0 0,r 10 (m 82 6),r 11 (a 83 81 82 1),w 12 (l 84 83) 0 0,r 13 (m 85 7),r 14 (a 86 84 85 5),w 15 (L 87 86 5) 0 0] [o 88 (.eqs ⟨true,[0,0,0,0,0]⟩ true (.t 79) (.t 87))]) (I 88 (F [4] [Z 4]) W))) (t 7 70 71))
def w4:=S (A [46] [m 42 6,f 43 2 0,l 44 43,n 45 44,z 46 .lss 42 45] 46 W (X 2)) (S (T 3 (S (S (d [61] [r 0 (f 49 2 0),w 1 (l 50 49) 0 0,r 2 (m 51 6),r 3 (a 52 50 51 1),w 4 (l 53 52) 0 0,w 5 (n 54 53) 0 0,r 6 (f 55 3 0),w 7 (l 56 55) 0 0,r 8 (m 57 6),r 9 (a 58 56 57 1),w 10 (l 59 58) 0 0,w 11 (n 60 59) 0 0] [z 61 .neq 54 60]) (I 61 (F [4] [Z 4]) W)) (S (g [7] [K 7 0]) (T 4 (M wZ))))) (t 6 47 48))
def LR:=S (g [2,3,4] [b 2 0,b 3 1,Z 4]) (S (S PT (I 23 (F [4] [Z 4]) W)) (S (S (g [5] [K 5 0]) (T 0 (M wY))) (S (S (g [6] [K 6 0]) (T 2 (M w4))) (F [4] [O 4]))))
def aaD:=h 89 2 [0,1,2,3,4,5,6,7,23,28,41,46,61,69,88] [.tmp 4] LR
def qT:=S (S (d [61] [r 0 (m 51 12),r 1 (f 52 1 0),w 2 (l 53 52) 0 0,r 3 (m 54 6),r 4 (m 55 7),r 5 (a 56 54 55 1),w 6 (l 57 56) 0 0,r 7 (a 58 53 57 1),w 8 (l 59 58) 0 0,w 9 (n 60 59) 0 0] [z 61 .lss 51 60]) (I 61 W (X 4))) (S (T 5 (S (d [13] [r 0 (f 64 1 0),w 1 (l 65 64) 0 1,r 2 (m 66 6),r 3 (m 67 7),r 4 (a 68 66 67 1),w 5 (l 69 68) 0 1,r 6 (a 70 65 69 1),w 7 (l 71 70) 0 1,r 8 (m 72 12),r 9 (a 73 71 72 5),w 10 (L 74 73 5) 0 1,v 11 (o 13 al1)] [s 5 13 74]) (S (d [88] [r 0 (f 75 13 0),w 1 (L 76 75 4) 0 0,r 2 (m 77 9),r 3 (m 78 10),r 4 (a 79 77 78 4),w 5 (L 80 79 4) 0 0,r 6 (o 81 (.eqs ⟨true,[0,0,0,0]⟩ false (.t 76) (.t 80))),r 7 (m 82 81),r 8 (mT 83 3 82),r 9 (fT 84 13 4 82),w 10 (lT 85 84 82) 0 0] [aT 86 83 85 1 82,lT 87 86 82,y 88 82 87]) (I 88 (g [11] [f 89 13 4,l 90 89,m 11 90]) W)))) (t 12 62 63))
def tD:=S (S (d [110] [r 0 (m 93 14),r 1 (m 94 6),w 2 (n 95 94) 0 0,r 3 (z 96 .lss 93 95),r 4 (m 97 96),r 5 (mT 98 4 97),r 6 (mT 99 6 97),r 7 (mT 100 14 97),r 8 (aT 101 99 100 1 97),w 9 (lT 102 101 97) 0 0,r 10 (aT 103 98 102 1 97),w 11 (lT 104 103 97) 0 0,r 12 (mT 105 4 97),r 13 (mT 106 11 97),r 14 (aT 107 105 106 1 97),w 15 (lT 108 107 97) 0 0] [zT 109 .neq 104 108 97,y 110 97 109]) (I 110 W (X 6))) (T 7 (t 14 111 112))
def w5:=S (A [48] [m 45 10,m 46 9,n 47 46,z 48 .lss 45 47] 48 W (X 2)) (S (T 3 (S (g [11] [K 11 (-1)]) (S (S (g [12] [K 12 0]) (T 4 (M qT))) (S (A [92] [m 91 11,i 92 .lss 91 0] 92 (X 3) W) (S (g [14] [K 14 0]) (S (T 6 (M tD)) (S (A [116] [m 113 14,m 114 6,n 115 114,z 116 .eql 113 115] 116 (g [6] [m 117 6,m 118 11,q 119 1 118,p 120 1 17592186044416 117 119,m 6 120]) W) (g [8] [m 121 8,m 122 9,m 123 10,a 124 122 123 4,L 125 124 4,m 126 14,o 127 (.build [.x (.t 125) 4,.x (.t 126) 1]),q 128 5 127,p 129 5 3518437208883 121 128,m 8 129])))))))) (t 10 49 50))
def tE:=S (A [33] [m 30 7,m 31 6,n 32 31,z 33 .lss 30 32] 33 W (X 0)) (S (T 1 (S (g [8] [Q 8]) (S (d [9] [r 0 (f 36 1 0),w 1 (l 37 36) 0 0,r 2 (o 38 (.build [.x (.t 37) 1,.z [.ah],.z [.ah]])),r 3 (m 39 6),r 4 (m 40 7),r 5 (a 41 39 40 1),w 6 (l 42 41) 0 0,r 7 (q 43 1 42)] [C 44 94 38 43,m 9 44]) (S (S (g [10] [K 10 0]) (T 2 (M w5))) (d [] [r 0 (f 130 5 0),w 1 (l 131 130) 0 0,r 2 (m 132 8),r 3 (q 133 1 132),u 4 (p 134 1 5864062014805 131 133),r 5 (f 135 5 1),w 6 (l 136 135) 0 1,r 7 (f 137 1 1),w 8 (l 138 137) 0 1,r 9 (m 139 6),r 10 (m 140 7),r 11 (a 141 139 140 1),w 12 (l 142 141) 0 1,r 13 (a 143 138 142 1),w 14 (l 144 143) 0 1,r 15 (q 145 1 144),u 16 (p 146 1 140737488355328 136 145),r 17 (f 147 5 0)] [s 1 147 134,f 148 5 1,s 1 148 146]))))) (t 7 34 35))
def PU:=S (g [1,2] [b 1 0,o 2 al3]) (S (g [3] [L 15 1 2,c 16 92 15,m 3 16]) (S (A [20] [m 17 3,o 18 (.ia (.t 17) (.k (.int .i64 0)) 1),l 19 18,N 20 19] 20 (F [] [j 21 75,s 2 2 21]) W) (S (g [4] [L 22 1 2,m 23 3,C 24 93 22 23,m 4 24]) (S (A [26] [m 25 4,o 26 (.niq 0 false (.t 25))] 26 (F [] [o 27 (.mks 1 5864062014805 [.ah] (.k (.int .i64 401)) (.k (.int .i64 401))),o 28 (.build [.x (.t 27) 1,.z [.ah]]),s 2 2 28]) W) (S (g [5] [o 5 al3]) (S (g [6] [o 29 (.bsl 1 [.k (.int .i64 0)]),m 6 29]) (S (S (g [7] [K 7 0]) (T 0 (M tE))) (F [] [L 149 5 2,s 2 2 149]))))))))
def aaE:=h 150 1 [0,1,2,3,4,5,6,7,8,9,10,11,12,13,14,20,26,33,48,61,88,92,110,116] [.cell 2 (some 2)] PU
def Dg:=S (A [8] [m 4 3,f 5 1 0,l 6 5,n 7 6,z 8 .lss 4 7] 8 W (X 0)) (S (T 1 (A [17] [f 11 1 0,l 12 11,m 13 3,a 14 12 13 2,L 15 14 2,c 16 67 15,N 17 16] 17 (F [2] [Z 2]) W)) (t 3 9 10))
@[simp]def VO:=g [2] [f 18 1 1,L 19 18 2,c 20 67 19,m 21 20,fT 22 1 0 21,lT 23 22 21,nT 24 23 21,iT 25 .eql 24 0 21,mT 26 25 21,fF 27 1 1 26,fF 28 27 0 26,lF 29 28 26,NF 30 29 26,YT 31 26 30 21,y 32 21 31,m 2 32]
def b59:=S (g [1,2] [b 1 0,Z 2]) (S (S (g [3] [K 3 0]) (T 0 (M Dg))) (S VO R))
def f59:=h 33 1 [0,1,2,3,8,17] [.tmp 2] b59
def b60:=S (g [1,2] [b 1 0,Z 2]) (F [2] [f 3 1 1,l 4 3,o 5 (.call 37 [.t 4,.k (.int .i64 1),.k (.int .i64 64)]),m 2 5])
def f60:=h 6 1 [0,1,2] [.tmp 2] b60
def tF:=S (A [14] [m 11 5,m 12 0,n 13 12,z 14 .lss 11 13] 14 W (X 0)) (S (T 1 (S (d [40] [r 0 (m 17 0),r 1 (m 18 5),r 2 (a 19 17 18 4),r 3 (f 20 19 0),w 4 (l 21 20) 0 0,r 5 (m 22 1),r 6 (m 23 5),r 7 (a 24 22 23 4),r 8 (f 25 24 0),w 9 (l 26 25) 0 0,r 10 (z 27 .neq 21 26),r 11 (m 28 27),r 12 (mF 29 0 28),r 13 (mF 30 5 28),r 14 (aF 31 29 30 4 28),r 15 (fF 32 31 1 28),w 16 (lF 33 32 28) 0 0,r 17 (mF 34 1 28),r 18 (mF 35 5 28),r 19 (aF 36 34 35 4 28),r 20 (fF 37 36 1 28),w 21 (lF 38 37 28) 0 0] [zF 39 .neq 33 38 28,Y 40 28 39]) (I 40 (F [4] [Z 4]) W))) (t 5 15 16))
def PV:=S (g [4] [Z 4]) (S (A [10] [m 6 0,n 7 6,m 8 1,n 9 8,z 10 .neq 7 9] 10 (F [4] [Z 4]) W) (S (S (g [5] [K 5 0]) (T 0 (M tF))) (F [4] [O 4])))
def f130:=h 41 2 [0,1,4,5,10,14,40] [.tmp 4] PV
@[simp]def PW:=g [2] [f 3 1 3,l 4 3,m 5 4,fT 6 1 0 5,lT 7 6 5,nT 8 7 5,iT 9 .eql 8 0 5,y 10 5 9,m 2 10]
def LS:=S (g [1,2] [b 1 0,Z 2]) (S PW R)
def f131:=h 11 1 [0,1,2] [.tmp 2] LS
@[simp]def PX:=g [6] [f 16 5 0,l 17 16,i 18 .eql 17 0,m 19 18,LT 20 5 4 19,cT 21 31 20 19,y 22 19 21,m 6 22]
@[simp]def fP:=g [8] [f 35 5 0,l 36 35,f 37 7 0,l 38 37,z 39 .eql 36 38,m 40 39,fT 41 5 1 40,lT 42 41 40,fT 43 7 1 40,lT 44 43 40,zT 45 .eql 42 44 40,y 46 40 45,m 47 46,fT 48 5 2 47,lT 49 48 47,G 50 (.bin false .eql (.t 49) (.k (.int .u8 3))) 47 true,y 51 47 50,m 52 51,fT 53 7 2 52,lT 54 53 52,G 55 (.bin false .eql (.t 54) (.k (.int .u8 1))) 52 true,mT 56 55 52,fF 57 5 3 56,lF 58 57 56,iF 59 .leq 58 0 56,YT 60 56 59 52,y 61 52 60,m 8 61]
@[simp]def PY:=g [67] [f 62 3 1,l 63 62,m 64 63,fF 65 3 2 64,lF 66 65 64,Y 67 64 66]
@[simp]def PZ:=g [6] [m 68 8,m 69 68,LT 70 5 4 69,cT 71 96 70 69,y 72 69 71,m 6 72]
@[simp]def P0:=g [82] [f 75 7 0,l 76 75,i 77 .gtr 76 0,m 78 77,fT 79 7 1 78,lT 80 79 78,iT 81 .eql 80 0 78,y 82 78 81]
@[simp]def P1:=g [6] [f 83 5 0,l 84 83,f 85 7 0,l 86 85,z 87 .eql 84 86,m 88 87,fT 89 5 1 88,lT 90 89 88,iT 91 .gtr 90 0 88,y 92 88 91,m 6 92]
@[simp]def P2:=g [6] [f 93 5 0,l 94 93,i 95 .gtr 94 0,m 96 95,fT 97 5 1 96,lT 98 97 96,iT 99 .eql 98 0 96,y 100 96 99,m 6 100]
@[simp]def P3:=g [107] [L 101 5 4,c 102 96 101,m 103 102,fT 104 7 1 103,lT 105 104 103,iT 106 .eql 105 0 103,y 107 103 106]
@[simp]def P4:=g [6] [m 108 8,m 109 108,fT 110 7 0 109,lT 111 110 109,iT 112 .gtr 111 0 109,y 113 109 112,m 114 113,fT 115 4 3 114,lT 116 115 114,y 117 114 116,m 6 117]
def HQ:=S (g [3,4,5,6] [b 3 0,b 4 1,b 5 2,Z 6]) (S (A [12] [L 9 4 4,L 10 5 4,C 11 95 9 10,N 12 11] 12 (F [6] [Z 6]) W) (S (A [15] [f 13 3 3,l 14 13,N 15 14] 15 (S PX R) W) (S (A [26] [f 23 3 0,l 24 23,n 25 24,i 26 .eql 25 0] 26 (F [6] [Z 6]) W) (S (g [7] [f 27 3 0,l 28 27,f 29 3 0,l 30 29,n 31 30,i 32 .sub 31 1,a 33 28 32 4,L 34 33 4,o 7 al0,s 4 7 34]) (S fP (S (S PY (I 67 (S PZ R) W)) (S (A [74] [L 73 5 4,c 74 31 73] 74 (S (S P0 (I 82 (S P1 R) W)) (S P2 R)) W) (S (S P3 (I 107 (S P4 R) W)) (F [6] [m 118 8,m 6 118])))))))))
def f132:=h 119 3 [0,1,2,3,4,5,6,7,8,12,15,26,67,74,82,107] [.tmp 6] HQ
@[simp]def EZ:=g [] [L 30 3 4,c 31 96 30,m 32 31,fT 33 3 1 32,lT 34 33 32,iT 35 .gtr 34 0 32,y 36 32 35,f 37 5 2,s 1 37 36]
@[simp]def E0:=g [] [f 38 2 1,l 39 38,m 40 39,LF 41 3 4 40,cF 42 96 41 40,mF 43 42 40,fT 44 3 0 43,lT 45 44 43,iT 46 .gtr 45 0 43,yF 47 43 46 40,mF 48 47 40,fT 49 3 1 48,lT 50 49 48,iT 51 .eql 50 0 48,yF 52 48 51 40,mF 53 52 40,fT 54 2 2 53,lT 55 54 53,NT 56 55 53,yF 57 53 56 40,Y 58 40 57,f 59 5 1,s 1 59 58]
def P5:=S (g [2,3,4] [b 2 0,b 3 1,o 4 (.alloc [.ah,.bool false,.bool false,.bool false])]) (S (g [5] [f 6 2 1,l 7 6,o 8 (.build [.z [.ah],.x (.t 7) 1,.z [.bool false],.x (.k (.bool true)) 1]),o 5 (.alloc [.ah,.bool false,.bool false,.bool false]),s 4 5 8]) (S (A [10] [L 9 3 4,c 10 31 9] 10 (S (d [] [v 0 (o 11 (.bsl 4 [])),r 1 (f 12 2 0),w 2 (l 13 12) 0 1,u 3 (p 14 4 4398046511104 11 13),w 4 (L 15 3 4) 0 2,r 5 (q 16 4 15)] [p 17 4 4398046511104 14 16,f 18 5 0,s 1 18 17]) (F [] [L 19 5 4,s 4 4 19])) W) (S (g [] [o 20 (.bsl 4 []),f 21 2 0,l 22 21,f 23 2 0,l 24 23,n 25 24,i 26 .sub 25 1,o 27 (.slc (.t 22) none (some (.t 26)) none 4),p 28 4 4398046511104 20 27,f 29 5 0,s 1 29 28]) (S EZ (S E0 (F [] [L 60 5 4,s 4 4 60]))))))
def f133:=h 61 2 [0,1,2,3,4,5,10] [.cell 4 (some 4)] P5
@[simp]def P6:=g [4] [f 5 2 0,l 6 5,f 7 3 0,l 8 7,z 9 .eql 6 8,m 10 9,fT 11 2 1 10,fT 12 11 1 10,lT 13 12 10,fT 14 3 1 10,fT 15 14 1 10,lT 16 15 10,G 17 (.bin true .eql (.t 13) (.t 16)) 10 true,y 18 10 17,m 19 18,fT 20 2 1 19,fT 21 20 2 19,lT 22 21 19,fT 23 3 1 19,fT 24 23 2 19,lT 25 24 19,G 26 (.bin true .eql (.t 22) (.t 25)) 19 true,y 27 19 26,m 28 27,fT 29 2 1 28,fT 30 29 3 28,lT 31 30 28,fT 32 3 1 28,fT 33 32 3 28,lT 34 33 28,G 35 (.bin true .eql (.t 31) (.t 34)) 28 true,y 36 28 35,m 37 36,fT 38 2 1 37,fT 39 38 0 37,lT 40 39 37,fT 41 3 1 37,fT 42 41 0 37,lT 43 42 37,CT 44 25 40 43 37,y 45 37 44,m 4 45]
def P7:=S (g [2,3,4] [b 2 0,b 3 1,Z 4]) (S P6 R)
def f134:=h 46 2 [0,1,2,3,4] [.tmp 4] P7
def VR:=S (g [0] [o 0 al3]) (F [] [o 1 (.bsl 1 [.k .ah]),o 2 (.bsl 1 [.k (.bool false)]),o 3 (.build [.x (.t 1) 1,.x (.t 2) 1]),s 2 0 3])
def aaF:=h 4 0 [0] [.cell 0 (some 2)] VR
@[simp]def VS:=g [5] [f 6 1 0,l 7 6,n 8 7,i 9 .gtr 8 8,m 10 9,fF 11 1 0 10,lF 12 11 10,mF 13 3 10,CF 14 104 12 13 10,Y 15 10 14,m 5 15]
@[simp]def VT:=g [16] [f 17 1 1,L 18 17 2,c 19 105 18,N 20 19,m 21 20,fF 22 1 0 21,lF 23 22 21,mF 24 4 21,CF 25 104 23 24 21,Y 26 21 25,m 16 26]
def VU:=S (g [1,2] [b 1 0,K 2 0]) (S (g [3] [o 3 (.mv (.k (.fn 101 [] [])))]) (S (g [4] [o 4 (.mv (.k (.fn 102 [] [])))]) (S (T 0 (S VS (I 5 (F [2] [K 2 5]) (S VT (I 16 (F [2] [K 2 4]) W))))) (F [2] [K 2 0]))))
def f82:=h 27 1 [0,1,2,3,4,5,16] [.tmp 2] VU
def b86:=S (g [2,4,5] [b 2 0,V 4,K 5 0]) (S (S (g [6] [L 7 2 4,c 8 80 7,m 6 8]) (A [10] [m 9 6,i 10 .neq 9 0] 10 (F [4,5] [m 11 6,V 4,m 5 11]) W)) (S (A [14] [m 12 1,n 13 12,i 14 .gtr 13 400] 14 (F [4,5] [V 4,K 5 5]) W) (F [4,5] [L 15 2 4,m 16 1,C 17 110 15 16,m 4 17,K 5 0])))
def f86:=h 18 2 [0,1,2,4,5,6,10,14] [.tmp 4,.tmp 5] b86
def LV:=S (g [1,2,3] [b 1 0,V 2,K 3 0]) (S (S (g [4] [f 8 1 0,L 9 8 4,c 10 80 9,m 4 10]) (A [12] [m 11 4,i 12 .neq 11 0] 12 (F [2,3] [m 13 4,V 2,m 3 13]) W)) (S (S (g [5] [f 14 1 4,L 15 14 2,c 16 111 15,m 5 16]) (A [18] [m 17 5,i 18 .neq 17 0] 18 (F [2,3] [m 19 5,V 2,m 3 19]) W)) (S (g [6,7] [L 21 1 6,c 22 112 21,m 20 22,x 23 20 0,x 24 20 1,m 6 23,m 7 24]) (S (A [26] [m 25 7,N 26 25] 26 (F [2,3] [V 2,K 3 13]) W) (F [2,3] [m 27 6,m 2 27,K 3 0])))))
def aaG:=h0 28 1 [0,1,2,3,4,5,6,7,12,18,26] [.tmp 2,.tmp 3] LV
@[simp]def P8:=g [4] [f 5 2 1,L 6 5 2,f 7 3 1,L 8 7 2,o 9 (.eqs ⟨true,[1,0]⟩ false (.t 6) (.t 8)),m 10 9,fT 11 2 0 10,lT 12 11 10,fT 13 3 0 10,lT 14 13 10,CT 15 85 12 14 10,y 16 10 15,m 4 16]
def P9:=S (g [2,3,4] [b 2 0,b 3 1,Z 4]) (S P8 R)
def aaH:=h 17 2 [0,1,2,3,4] [.tmp 4] P9
def w6:=S (g [14] [z 14 .lss 13 12]) (S (I 14 W (X 0)) (S (T 1 (S (g [5] [m 15 13,m 5 15]) (S (d [24] [r 0 (m 16 0),r 1 (m 17 5),r 2 (a 18 16 17 2),w 3 (L 19 18 2) 0 0,r 4 (m 20 1),r 5 (m 21 5),r 6 (a 22 20 21 2),w 7 (L 23 22 2) 0 0] [o 24 (.eqs ⟨true,[1,0]⟩ true (.t 19) (.t 23))]) (I 24 (F [4] [Z 4]) W)))) (g [13] [i 25 .add 13 1,m 13 25])))
def Qa:=S (g [4] [Z 4]) (S (A [10] [m 6 0,n 7 6,m 8 1,n 9 8,z 10 .neq 7 9] 10 (F [4] [Z 4]) W) (S (S (g [12,13] [m 11 0,n 12 11,K 13 0]) (T 0 (M w6))) (F [4] [O 4])))
def aaI:=h 26 2 [0,1,4,5,10,12,13,14,24] [.tmp 4] Qa
def w7:=S (g [18] [z 18 .lss 17 16]) (S (I 18 W (X 0)) (S (T 1 (S (g [8,7] [m 19 17,a 20 15 17 3,L 21 20 3,o 8 al4,m 7 19,s 3 8 21]) (S (g [9] [m 22 1,m 23 7,a 24 22 23 3,L 25 24 3,o 9 al4,s 3 9 25]) (A [30] [m 26 2,L 27 8 3,L 28 9 3,o 29 (.dyn (.t 26) [.t 27,.t 28]),N 30 29] 30 (F [6] [Z 6]) W)))) (g [17] [i 31 .add 17 1,m 17 31])))
def Qb:=S (g [6] [Z 6]) (S (A [14] [m 10 0,n 11 10,m 12 1,n 13 12,z 14 .neq 11 13] 14 (F [6] [Z 6]) W) (S (S (g [15,16,17] [m 15 0,n 16 15,K 17 0]) (T 0 (M w7))) (F [6] [O 6])))
def aaJ:=h 32 3 [0,1,2,6,7,8,9,14,15,16,17,18,30] [.tmp 6] Qb
def LW:=S (g [4] [o 4 (.mv (.k .fU))]) (S (g [] [m 5 0,c 6 113 5]) (S (g [] [m 7 0,m 8 0,k 9 8,f 10 9 1,l 11 10,m 12 1,q 13 1 12,o 14 (.app 1 140737488355328 (some 5) (.t 11) (.t 13)),k 15 7,f 16 15 1,s 1 16 14]) (F [4] [o 4 (.mv (.k .fU))])))
def aaK:=h0 17 2 [0,1,4] [.tmp 4] LW
def E3:=S (g [2] [Q 2]) (S (A [4] [m 3 0,o 4 (.niq 0 false (.t 3))] 4 (F [2] [Q 2]) W) (F [2] [o 5 (.bsl 4 []),m 6 0,p 7 4 4398046511104 5 6,m 2 7]))
def f137:=h0 8 1 [0,2,4] [.tmp 2] E3
def Bl:=S (A [8] [m 5 4,m 6 0,n 7 6,z 8 .lss 5 7] 8 W (X 0)) (S (T 1 (g [3] [m 11 3,m 12 0,m 13 4,a 14 12 13 1,l 15 14,n 16 15,z 17 .add 11 16,m 3 17])) (t 4 9 10))
def VV:=S (g [2] [K 2 0]) (S (g [3] [K 3 0]) (S (S (g [4] [K 4 0]) (T 0 (M Bl))) (F [2] [m 18 3,m 2 18])))
def aaL:=h 19 1 [0,2,3,4,8] [.tmp 2] VV
def LX:=S (g [2,3,4] [b 2 0,b 3 1,Z 4]) (S (A [9] [f 5 2 0,l 6 5,f 7 3 0,l 8 7,z 9 .neq 6 8] 9 (F [4] [f 10 2 0,l 11 10,f 12 3 0,l 13 12,z 14 .lss 11 13,m 4 14]) W) (S (A [19] [f 15 2 1,l 16 15,f 17 3 1,l 18 17,z 19 .neq 16 18] 19 (F [4] [f 20 2 1,l 21 20,f 22 3 1,l 23 22,z 24 .lss 21 23,m 4 24]) W) (S (A [29] [f 25 2 2,l 26 25,f 27 3 2,l 28 27,z 29 .neq 26 28] 29 (F [4] [f 30 2 2,l 31 30,f 32 3 2,l 33 32,z 34 .lss 31 33,m 4 34]) W) (F [4] [f 35 2 3,l 36 35,f 37 3 3,l 38 37,z 39 .lss 36 38,m 4 39]))))
def aaM:=h 40 2 [0,1,2,3,4,9,19,29] [.tmp 4] LX
@[simp]def Qc:=g [47] [m 29 3,m 30 5,a 31 29 30 1,l 32 31,N 33 32,m 34 33,mT 35 3 34,fT 36 1 0 34,lT 37 36 34,mT 38 5 34,aT 39 37 38 1 34,lT 40 39 34,mT 41 6 34,aT 42 40 41 5 34,fT 43 42 4 34,lT 44 43 34,aT 45 35 44 1 34,lT 46 45 34,y 47 34 46]
def qU:=S (A [26] [m 19 6,f 20 1 0,l 21 20,m 22 5,a 23 21 22 1,l 24 23,n 25 24,z 26 .lss 19 25] 26 W (X 4)) (S (T 5 (S Qc (I 47 (g [4] [m 48 3,m 49 5,a 50 48 49 1,e (.st 1 (.t 50) (.k (.bool true))),O 4]) W))) (t 6 27 28))
def w8:=S (A [16] [m 12 5,f 13 1 0,l 14 13,n 15 14,z 16 .lss 12 15] 16 W (X 2)) (S (T 3 (S (g [6] [K 6 0]) (T 4 (M qU)))) (t 5 17 18))
def Bm:=S (A [11] [m 11 4] 11 W (X 0)) (T 1 (S (g [4] [Z 4]) (S (g [5] [K 5 0]) (T 2 (M w8)))))
def Qd:=S (g [1,2] [b 1 0,Q 2]) (S (g [3] [o 7 (.bsl 1 []),f 8 1 1,l 9 8,p 10 1 140737488355328 7 9,m 3 10]) (S (S (g [4] [O 4]) (T 0 (M Bm))) (F [2] [m 51 3,m 2 51])))
def aaN:=h 52 1 [0,1,2,3,4,5,6,11,16,26,47] [.tmp 2] Qd
def pz:=S (A [19] [m 16 6,m 17 5,n 18 17,z 19 .lss 16 18] 19 W (X 0)) (S (T 1 (S (A [25] [m 22 1,m 23 6,a 24 22 23 1,l 25 24] 25 (g [] [m 26 5,m 27 6,a 28 26 27 1,e (.st 1 (.t 28) (.k (.int .i64 1)))]) W) (A [33] [f 29 2 1,l 30 29,m 31 6,a 32 30 31 1,l 33 32] 33 (g [] [m 34 5,m 35 6,a 36 34 35 1,e (.st 1 (.t 36) (.k (.int .i64 2)))]) W))) (t 6 20 21))
def tG:=S (S (d [61] [r 0 (m 46 11),r 1 (m 47 9),w 2 (n 48 47) 0 0,r 3 (z 49 .lss 46 48),r 4 (m 50 49),w 5 (LT 51 2 2 50) 0 0,r 6 (mT 52 5 50),r 7 (mT 53 1 50),r 8 (mT 54 9 50),r 9 (mT 55 11 50),r 10 (aT 56 54 55 1 50),w 11 (lT 57 56 50) 0 0,r 12 (mT 58 10 50)] [G 59 (.call 114 [.t 51,.t 52,.t 53,.t 57,.t 58]) 50 true,NT 60 59 50,y 61 50 60]) (I 61 W (X 6))) (T 7 (t 11 62 63))
def xh:=S (A [43] [m 40 10,m 41 5,n 42 41,z 43 .lss 40 42] 43 W (X 4)) (S (T 5 (S (g [11] [K 11 0]) (S (T 6 (M tG)) (S (A [67] [m 64 11,m 65 9,n 66 65,z 67 .eql 64 66] 67 (g [9] [m 68 9,m 69 10,q 70 1 69,p 71 1 17592186044416 68 70,m 9 71]) W) (S (A [74] [m 72 9,n 73 72,i 74 .gtr 73 401] 74 (F [4] [Q 4]) W) (g [] [m 75 8,m 76 10,m 77 11,a 78 75 76 1,s 1 78 77])))))) (t 10 44 45))
def E5:=T 3 (S (g [8] [m 37 5,n 38 37,o 39 (.mks 1 17592186044416 [.int .i64 0] (.t 38) (.t 38)),m 8 39]) (S (g [9] [Q 9]) (S (S (g [10] [K 10 0]) (T 4 (M xh))) (S (A [82] [m 79 9,n 80 79,m 81 7,z 82 .eql 80 81] 82 (F [4] [m 83 8,m 4 83]) W) (g [5,7] [m 84 8,m 85 9,n 86 85,m 5 84,m 7 86])))))
def Qe:=S (g [2,4] [b 2 0,Q 4]) (S (g [5] [f 12 2 0,l 13 12,n 14 13,o 15 (.mks 1 17592186044416 [.int .i64 0] (.t 14) (.t 14)),m 5 15]) (S (S (g [6] [K 6 0]) (T 0 (M pz))) (S (g [7] [K 7 0]) (T 2 (M E5)))))
def aaO:=h 87 2 [0,1,2,4,5,6,7,8,9,10,11,19,25,33,43,61,67,74,82] [.tmp 4] Qe
def Bn:=S (S (d [24] [r 0 (m 14 7),r 1 (f 15 2 0),w 2 (l 16 15) 0 0,r 3 (m 17 1),r 4 (m 18 6),r 5 (a 19 17 18 1),w 6 (l 20 19) 0 0,r 7 (a 21 16 20 1),w 8 (l 22 21) 0 0,w 9 (n 23 22) 0 0] [z 24 .lss 14 23]) (I 24 W (X 2))) (S (T 3 (d [5] [r 0 (m 27 5),r 1 (f 28 2 0),w 2 (l 29 28) 0 0,r 3 (m 30 1),r 4 (m 31 6),r 5 (a 32 30 31 1),w 6 (l 33 32) 0 0,r 7 (a 34 29 33 1),w 8 (l 35 34) 0 0,r 9 (m 36 7),r 10 (a 37 35 36 5),r 11 (f 38 37 0),w 12 (L 39 38 4) 0 0] [C 40 115 27 39,m 5 40])) (t 7 25 26))
def Bo:=S (A [11] [m 8 6,m 9 1,n 10 9,z 11 .lss 8 10] 11 W (X 0)) (S (T 1 (S (g [7] [K 7 0]) (T 2 (M Bn)))) (t 6 12 13))
def VW:=S (g [2,4] [b 2 0,Q 4]) (S (g [5] [Q 5]) (S (S (g [6] [K 6 0]) (T 0 (M Bo))) (F [4] [m 41 5,m 4 41])))
def f142:=h 42 2 [0,1,2,4,5,6,7,11,24] [.tmp 4] VW
def LY:=S (g [2,3,4] [b 2 0,b 3 1,Z 4]) (S (d [4] [w 0 (L 5 2 4) 0 0,r 1 (f 6 3 0),w 2 (l 7 6) 0 0,r 3 (f 8 3 1),w 4 (l 9 8) 0 0,u 5 (J 10 117 5 7 9),w 6 (L 11 3 4) 0 1,u 7 (C 12 116 10 11),r 8 (i 13 .geq 12 0),r 9 (m 14 13),w 10 (LF 15 2 4 14) 2 2,r 11 (fF 16 3 0 14),w 12 (lF 17 16 14) 2 2,r 13 (fF 18 3 1 14),w 14 (lF 19 18 14) 2 2,u 15 (G 20 (.call 118 [.t 15,.t 17,.t 19,.k (.int .u8 1)]) 14 false),w 16 (LF 21 3 4 14) 2 3] [CF 22 116 20 21 14,iF 23 .geq 22 0 14,Y 24 14 23,m 4 24]) R)
def aaP:=h 25 2 [0,1,2,3,4] [.tmp 4] LY
@[simp]def VY:=g [2] [f 3 1 2,l 4 3,o 5 (.bin false .eql (.t 4) (.k (.int .u8 3))),m 6 5,fT 7 1 3 6,lT 8 7 6,iT 9 .eql 8 (-1) 6,y 10 6 9,m 2 10]
def b28:=S (g [1,2] [b 1 0,Z 2]) (S VY R)
def f28:=h 11 1 [0,1,2] [.tmp 2] b28
def VZ:=S (g [1,2] [b 1 0,Z 2]) (F [2] [f 3 1 0,l 4 3,n 5 4,i 6 .gtr 5 5,m 2 6])
def aaQ:=h 7 1 [0,1,2] [.tmp 2] VZ
def V0:=S (g [1,2] [b 1 0,Z 2]) (F [2] [L 3 1 3,c 4 103 3,N 5 4,m 2 5])
def f113:=h 6 1 [0,1,2] [.tmp 2] V0
@[simp]def Qf:=g [2] [f 4 1 1,L 5 4 2,c 6 105 5,m 7 6,fT 8 1 0 7,lT 9 8 7,mT 10 3 7,CT 11 121 9 10 7,NT 12 11 7,y 13 7 12,m 14 13,fT 15 1 0 14,lT 16 15 14,nT 17 16 14,iT 18 .eql 17 0 14,mT 19 18 14,fF 20 1 1 19,fF 21 20 0 19,lF 22 21 19,NF 23 22 19,YT 24 19 23 14,y 25 14 24,m 2 25]
def Jn:=S (g [1,2] [b 1 0,Z 2]) (S (g [3] [o 3 (.mv (.k (.fn 120 [] [])))]) (S Qf R))
def aaS:=h 26 1 [0,1,2,3] [.tmp 2] Jn
def V1:=S (g [4] [Z 4]) (F [4] [m 5 0,m 6 1,C 7 122 5 6,i 8 .geq 7 0,m 4 8])
def aaT:=h 9 2 [0,1,4] [.tmp 4] V1
@[simp]def Qg:=g [2] [f 3 1 1,l 4 3,i 5 .geq 4 1,m 6 5,fT 7 1 1 6,lT 8 7 6,iT 9 .leq 8 64 6,y 10 6 9,m 2 10]
def V2:=S (g [1,2] [b 1 0,Z 2]) (S Qg R)
def aaU:=h 11 1 [0,1,2] [.tmp 2] V2
def V3:=S (g [1,2,3] [b 1 0,o 2 al2,K 3 0]) (S (d [3] [w 2 (L 6 1 4) 0 0,u 3 (c 7 80 6),w 0 (L 4 1 4) 0 1,r 1 (o 5 (.build [.x (.t 4) 4]))] [s 4 2 5,m 3 7]) R)
def aaV:=h 8 1 [0,1,2,3] [.cell 2 (some 4),.tmp 3] V3
@[simp]def Qh:=g [3,4,5,6,7] [b 3 0,b 4 1,b 5 2,o 6 al5,o 7 (.alloc [.bool false])]
@[simp]def Qi:=g [10] [L 9 3 4,o 10 (.mkf 123 [.t 9] [])]
@[simp]def ew:=g [8] [o 8 al5,s 5 8 11]
@[simp]def Qj:=g [21] [f 12 8 0,l 13 12,l 14 4,z 15 .eql 13 14,m 16 15,fT 17 8 1 16,lT 18 17 16,lT 19 5 16,zT 20 .eql 18 19 16,y 21 16 20]
@[simp]def Qk:=g [] [L 22 8 5,s 5 6 22,e (.st 1 (.t 7) (.k (.bool true)))]
def ee:=T 1 (S Qj (I 21 (S Qk R) W))
def Jo:=T 0 (.rf (.t 10) [11] ew ee)
@[simp]def Ql:=g [] [o 23 (.build [.z [.int .i64 0],.z [.int .i64 0],.z [.bool false,.int .i64 0],.z [.bool false]]),s 5 6 23,e (.st 1 (.t 7) (.k (.bool false)))]
def V4:=S Qh (S (S Qi Jo) (S Ql R))
def aaW:=h 24 3 [0,1,2,3,4,5,6,7,8,10,11,21] [.cell 6 (some 5),.cell 7 none] V4
@[simp]def TH:=g [36] [m 25 9,i 26 .neq 25 0,m 27 26,mF 28 8 27,NF 29 28 27,Y 30 27 29,m 31 30,mF 32 5 31,LF 33 7 4 31,CF 34 125 32 33 31,NF 35 34 31,Y 36 31 35]
def TI:=S (g [16] [z 16 .lss 15 14]) (S (I 16 W (X 0)) (S (T 1 (S (g [7] [a 17 13 15 4,L 18 17 4,o 7 al0,s 4 7 18]) (S (S (g [8,9] [L 20 2 4,L 21 7 4,C 22 124 20 21,m 19 22,x 23 19 0,x 24 19 1,m 8 23,m 9 24]) (S TH (I 36 (X 0) W))) (g [] [m 37 5,L 38 7 4,C 39 126 37 38])))) (g [15] [i 40 .add 15 1,m 15 40])))
def ai5:=S (g [2,4] [b 2 0,V 4]) (S (g [5] [L 10 2 4,o 11 (.build [.x (.t 10) 4,.z [.ah],.z [.ah],.z [.ah],.z [.ah],.z [.ah],.z [.bool false],.z [.bool false],.z [.int .i64 0]]),o 12 (.box (.t 11)),m 5 12]) (S (S (g [13,14,15] [m 13 1,n 14 13,K 15 0]) (T 0 (M TI))) (F [4] [m 41 5,m 4 41])))
def agn:=h 42 2 [0,1,2,4,5,7,8,9,13,14,15,16,36] [.tmp 4] ai5
def V5:=S (g [1,2] [b 1 0,K 2 0]) (S (g [3] [o 3 (.mv (.k (.fn 127 [] [])))]) (S (T 0 (A [4] [L 5 1 2,c 6 129 5,m 4 6] 4 (F [2] [K 2 5]) (S (d [7] [w 0 (L 8 1 2) 0 0,u 1 (c 9 130 8),r 2 (N 10 9),r 3 (m 11 10),r 4 (fF 12 1 0 11),w 5 (lF 13 12 11) 1 1,r 6 (mF 14 3 11),u 7 (CF 15 131 13 14 11),r 8 (Y 16 11 15),r 9 (m 17 16),w 11 (LF 19 1 2 17) 2 2,u 12 (cF 20 134 19 17),u 13 (cF 21 133 20 17),w 10 (LF 18 1 2 17) 2 4] [CF 22 132 18 21 17,NF 23 22 17,Y 24 17 23,m 7 24]) (I 7 (F [2] [K 2 4]) W)))) (F [2] [K 2 0])))
def aaX:=h 25 1 [0,1,2,3,4,7] [.tmp 2] V5
@[simp]def Qm:=g [1,2,3] [b 1 0,V 2,Z 3]
@[simp]def Qn:=g [4] [o 21 (.build [.z [.int .i64 0],.z [.str []]]),o 4 (.alloc [.int .i64 0,.str []]),s 2 4 21]
@[simp]def Qo:=g [5] [o 22 .mkm,L 23 4 2,o 24 (.build [.z [.ah],.z [.bool false],.z [.bool false]]),e (.mup ⟨true,[0,2]⟩ (.t 22) (.t 23) (.t 24)),m 25 22,o 26 .mkm,o 27 (.build [.x (.t 25) 1,.x (.t 26) 1,.z [.int .i64 0]]),o 28 (.box (.t 27)),m 5 28]
@[simp]def Qp:=g [6] [o 29 .mkm,e (.mup ⟨false,[0]⟩ (.t 29) (.k (.int .i64 0)) (.k (.str []))),m 30 29,m 6 30]
@[simp]def Qq:=g [7] [L 31 4 2,o 32 (.bsl 2 [.t 31]),m 7 32]
@[simp]def E8:=g [35] [m 33 7,n 34 33,i 35 .gtr 34 0]
@[simp]def E9:=g [8] [m 36 7,o 37 (.ia (.t 36) (.k (.int .i64 0)) 2),L 38 37 2,o 8 (.alloc [.int .i64 0,.str []]),s 2 8 38]
@[simp]def Fb:=g [7] [m 39 7,o 40 (.slc (.t 39) (some (.k (.int .i64 1))) none none 2),m 7 40]
@[simp]def Fc:=d [9] [r 0 (m 41 5),r 1 (k 42 41),r 2 (f 43 42 0),w 3 (l 44 43) 0 1,w 4 (L 45 8 2) 0 1,w 5 (o 46 (.lkp ⟨true,[0,2]⟩ (.t 44) (.t 45) (.agg [.ah,.bool false,.bool false]) false)) 0 1,v 6 (o 9 al7)] [s 3 9 46]
@[simp]def Fe:=d [] [r 0 (m 47 5),r 1 (m 48 5),r 2 (k 49 48),r 3 (f 50 49 2),w 4 (l 51 50) 0 0,r 5 (f 52 9 0),w 6 (l 53 52) 0 0,w 7 (n 54 53) 0 0,r 8 (o 55 (.mm true (.t 51) (.t 54)))] [k 56 47,f 57 56 2,s 1 57 55]
@[simp]def vD:=g [75] [f 58 1 4,f 59 58 1,l 60 59,f 61 8 0,l 62 61,a 63 60 62 1,l 64 63,m 65 64,fT 66 9 0 65,lT 67 66 65,nT 68 67 65,iT 69 .gtr 68 0 65,mT 70 69 65,LF 71 8 2 70,LF 72 4 2 70,G 73 (.eqs ⟨true,[0,2]⟩ false (.t 71) (.t 72)) 70 false,YT 74 70 73 65,y 75 65 74]
@[simp]def Gq:=g [2,3] [V 2,Z 3]
@[simp]def ahr:=g [82,83,84] [f 76 1 4,f 77 76 0,l 78 77,f 79 8 0,l 80 79,a 81 78 80 1,l 82 81,n 83 82,K 84 0]
@[simp]def Bq:=g [85] [z 85 .lss 84 83]
@[simp]def Br:=g [11] [a 86 82 84 5,L 87 86 5,o 11 al1,s 5 11 87]
@[simp]def Bu:=d [12,13] [w 0 (L 89 9 3) 0 0,r 1 (f 90 1 0),w 2 (L 91 90 4) 0 0,r 3 (f 92 11 0),w 4 (L 93 92 4) 0 0,w 5 (L 94 8 2) 0 0,w 6 (L 95 4 2) 0 0,r 7 (o 96 (.eqs ⟨true,[0,2]⟩ false (.t 94) (.t 95))),u 8 (o 97 (.call 135 [.t 89,.t 91,.t 93,.t 96])),r 9 (m 88 97),r 10 (x 98 88 0),v 12 (o 12 al7),u 13 (s 3 12 98),r 11 (x 99 88 1)] [m 13 99]
@[simp]def Bv:=g [14,15] [L 101 12 3,c 102 136 101,m 100 102,x 103 100 0,x 104 100 1,m 14 103,m 15 104]
@[simp]def vE:=g [16,17] [m 106 6,f 107 11 4,l 108 107,o 109 (.lkp ⟨false,[0]⟩ (.t 106) (.t 108) (.str []) true),m 105 109,x 110 105 0,x 111 105 1,m 16 110,m 17 111]
@[simp]def vG:=g [132] [m 112 13,N 113 112,m 114 113,mF 115 17 114,mF 116 115 114,mT 117 16 116,mT 118 14 116,zT 119 .neq 117 118 116,yF 120 116 119 114,Y 121 114 120,m 122 121,fF 123 12 0 122,lF 124 123 122,nF 125 124 122,fF 126 1 4 122,fF 127 126 0 122,lF 128 127 122,nF 129 128 122,G 130 (.mm true (.k (.int .i64 2)) (.t 129)) 122 false,zF 131 .geq 125 130 122,Y 132 122 131]
@[simp]def Gr:=g [2,3] [V 2,Z 3]
@[simp]def ahs:=g [] [m 133 6,f 134 11 4,l 135 134,m 136 14,e (.mup ⟨false,[0]⟩ (.t 133) (.t 135) (.t 136))]
@[simp]def Bx:=g [18] [f 137 11 4,l 138 137,m 139 15,o 140 (.build [.x (.t 138) 1,.x (.t 139) 1]),o 18 (.alloc [.int .i64 0,.str []]),s 2 18 140]
@[simp]def vH:=d [20] [r 0 (m 142 5),r 1 (k 143 142),r 2 (f 144 143 0),w 3 (l 145 144) 0 1,w 4 (L 146 18 2) 0 1,w 5 (o 147 (.lkp ⟨true,[0,2]⟩ (.t 145) (.t 146) (.agg [.ah,.bool false,.bool false]) true)) 0 1,r 6 (m 141 147),r 7 (x 148 141 0),v 9 (o 19 al7),u 10 (s 3 19 148),r 8 (x 149 141 1)] [m 20 149]
@[simp]def vI:=g [151] [m 150 20,N 151 150]
@[simp]def vJ:=d [] [r 0 (m 152 5),r 1 (k 153 152),r 2 (f 154 153 0),w 3 (l 155 154) 0 0,w 4 (L 156 18 2) 0 0,w 5 (L 157 12 3) 0 0] [e (.mup ⟨true,[0,2]⟩ (.t 155) (.t 156) (.t 157))]
@[simp]def vK:=g [7] [m 158 7,L 159 18 2,q 160 2 159,p 161 2 5864062014805 158 160,m 7 161]
@[simp]def qg:=d [] [r 0 (m 162 5),r 1 (k 163 162),r 2 (f 164 163 1),w 3 (l 165 164) 0 0,w 4 (L 166 8 2) 0 0,r 5 (f 168 11 0),w 6 (L 169 168 4) 0 0,w 7 (L 170 18 2) 0 0,r 8 (o 171 (.build [.x (.t 169) 4,.x (.t 170) 2])),r 9 (q 172 6 171),u 10 (o 173 (.men ⟨true,[0,2]⟩ (.t 165) (.t 166) .ah)),r 11 (x 167 173 0),u 12 (p 174 6 2513169434916 167 172),r 13 (x 175 173 1)] [e (.mes (.t 165) (.t 175) (.t 174))]
def Jp:=T 3 (S Br (S Bu (S Bv (S (S vE (S vG (I 132 (S Gr R) W))) (S ahs (S Bx (S (S vH (S vI (I 151 (S vJ vK) W))) qg)))))))
@[simp]def By:=g [84] [i 176 .add 84 1,m 84 176]
def tH:=S Bq (S (I 85 W (X 2)) (S Jp By))
def Jq:=T 2 (M tH)
def Bz:=T 1 (S E9 (S Fb (S Fc (S Fe (S (S vD (I 75 (S Gq R) W)) (S ahr Jq))))))
def qV:=S (S E8 (I 35 W (X 0))) Bz
def Jr:=T 0 (M qV)
@[simp]def LZ:=g [2,3] [m 177 5,m 2 177,O 3]
def L9:=S Qm (S Qn (S Qo (S Qp (S Qq (S Jr (S LZ R))))))
def aaY:=h0 178 1 [0,1,2,3,4,5,6,7,8,9,11,12,13,14,15,16,17,18,20,35,75,82,83,84,85,132,151] [.tmp 2,.tmp 3] L9
def xA:=S (A [32] [m 29 12,m 30 11,n 31 30,z 32 .lss 29 31] 32 W (X 0)) (S (T 1 (S (d [53] [w 0 (L 35 5 2) 0 0,r 1 (m 36 1),r 2 (m 37 2),r 3 (m 38 3),r 4 (m 39 11),r 5 (m 40 12),r 6 (a 41 39 40 4),w 7 (L 42 41 4) 0 0,u 8 (o 43 (.call 138 [.t 35,.t 36,.t 37,.t 38,.t 42])),w 9 (L 44 5 2) 0 1,r 10 (m 45 1),r 11 (m 46 2),r 12 (m 47 4),r 13 (m 48 11),r 14 (m 49 12),r 15 (a 50 48 49 4),w 16 (L 51 50 4) 0 1] [o 52 (.call 138 [.t 44,.t 45,.t 46,.t 47,.t 51]),z 53 .neq 43 52]) (I 53 (F [10] [Z 10]) W))) (t 12 33 34))
def Qr:=S (g [5,10] [b 5 0,Z 10]) (S (S (d [21] [r 0 (m 13 1),r 1 (m 14 3),r 2 (a 15 13 14 1),w 3 (l 16 15) 0 0,r 4 (m 17 1),r 5 (m 18 4),r 6 (a 19 17 18 1),w 7 (l 20 19) 0 0] [z 21 .neq 16 20]) (I 21 (F [10] [Z 10]) W)) (S (g [11] [f 22 5 0,l 23 22,o 24 (.build [.x (.t 23) 1,.z [.ah],.z [.ah]]),m 25 3,m 26 4,o 27 (.fbl 1 [.t 25,.t 26]),C 28 94 24 27,m 11 28]) (S (S (g [12] [K 12 0]) (T 0 (M xA))) (F [10] [O 10]))))
def aaZ:=h 54 5 [0,1,2,3,4,5,10,11,12,21,32,53] [.tmp 10] Qr
def xB:=S (S (d [18] [r 0 (m 7 5),r 1 (m 8 0),w 2 (n 9 8) 0 0,r 3 (z 10 .lss 7 9),r 4 (m 11 10),r 5 (mT 12 0 11),r 6 (mT 13 5 11),r 7 (aT 14 12 13 4 11),w 8 (LT 15 14 4 11) 0 0,w 9 (LT 16 3 4 11) 0 0] [CT 17 91 15 16 11,y 18 11 17]) (I 18 W (X 0))) (T 1 (t 5 19 20))
def V6:=S (g [3,4] [b 3 1,Q 4]) (S (g [5] [K 5 0]) (S (T 0 (M xB)) (S (S (d [32] [r 0 (m 21 5),r 1 (m 22 0),w 2 (n 23 22) 0 0,r 3 (z 24 .lss 21 23),r 4 (m 25 24),r 5 (mT 26 0 25),r 6 (mT 27 5 25),r 7 (aT 28 26 27 4 25),w 8 (LT 29 28 4 25) 0 0,w 9 (LT 30 3 4 25) 0 0] [G 31 (.eqs ⟨true,[0,0,0,0]⟩ false (.t 29) (.t 30)) 25 true,y 32 25 31]) (I 32 (F [4] [m 33 0,m 4 33]) W)) (S (g [6] [o 34 (.bsl 4 []),m 35 0,m 36 5,o 37 (.slc (.t 35) none (some (.t 36)) none 4),p 38 4 4398046511104 34 37,m 6 38]) (S (d [4] [r 0 (m 39 6),w 1 (L 40 3 4) 0 0,r 2 (q 41 4 40),u 3 (p 42 4 4398046511104 39 41),r 4 (m 43 0),r 5 (m 44 5),r 6 (o 45 (.slc (.t 43) (some (.t 44)) none none 4))] [p 46 4 4398046511104 42 45,m 4 46]) R)))))
def f157:=h 47 2 [0,1,3,4,5,6,18,32] [.tmp 4] V6
def xC:=S (A [9] [m 6 5,m 7 0,n 8 7,z 9 .lss 6 8] 9 W (X 0)) (S (T 1 (S (d [17] [r 0 (m 12 0),r 1 (m 13 5),r 2 (a 14 12 13 4),w 3 (L 15 14 4) 0 0,w 4 (L 16 3 4) 0 0] [o 17 (.eqs ⟨true,[0,0,0,0]⟩ false (.t 15) (.t 16))]) (I 17 (F [4] [m 18 5,m 4 18]) W))) (t 5 10 11))
def V7:=S (g [3,4] [b 3 1,K 4 0]) (S (S (g [5] [K 5 0]) (T 0 (M xC))) (F [4] [K 4 (-1)]))
def aa0:=h 19 2 [0,1,3,4,5,9,17] [.tmp 4] V7
@[simp]def Qs:=g [31] [f 24 7 0,l 25 24,m 26 25,mT 27 10 26,fT 28 7 1 26,lT 29 28 26,zT 30 .lss 27 29 26,y 31 26 30]
def xD:=S (S Qs (I 31 W (X 0))) (S (T 1 (g [9] [m 34 9,m 35 1,m 36 2,m 37 10,o 38 (.build [.x (.t 35) 1,.x (.t 36) 1,.x (.k (.int .u8 2)) 1,.x (.t 37) 1]),q 39 4 38,p 40 4 4398046511104 34 39,m 9 40])) (t 10 32 33))
def Qt:=S (g [3,6] [b 3 0,Q 6]) (S (g [7,8] [L 12 3 4,m 13 1,m 14 2,J 15 139 12 13 14,m 11 15,x 16 11 0,x 17 11 1,o 7 al8,s 2 7 16,m 8 17]) (S (A [19] [m 18 8,N 19 18] 19 (F [6] [Q 6]) W) (S (g [9] [m 20 1,m 21 2,o 22 (.build [.x (.t 20) 1,.x (.t 21) 1,.x (.k (.int .u8 1)) 1,.z [.int .i64 0]]),o 23 (.bsl 4 [.t 22]),m 9 23]) (S (S (g [10] [K 10 0]) (T 0 (M xD))) (F [6] [m 41 9,m 6 41])))))
def aa1:=h 42 3 [0,1,2,3,6,7,8,9,10,19,31] [.tmp 6] Qt
@[simp]def Qu:=g [43] [m 32 12,f 33 9 1,l 34 33,z 35 .lss 32 34,m 36 35,mT 37 12 36,iT 38 .eql 37 0 36,mT 39 38 36,mF 40 3 39,G 41 (.bin false .eql (.t 40) (.k (.int .u8 1))) 39 false,YT 42 39 41 36,y 43 36 42]
def qW:=S (S Qu (I 43 W (X 0))) (S (T 1 (g [11] [m 46 11,m 47 1,m 48 2,m 49 12,o 50 (.build [.x (.t 47) 1,.x (.t 48) 1,.x (.k (.int .u8 3)) 1,.x (.t 49) 1]),q 51 4 50,p 52 4 4398046511104 46 51,m 11 52])) (t 12 44 45))
def Ma:=S (g [4,8] [b 4 0,Q 8]) (S (g [9,10] [L 14 4 4,m 15 1,m 16 2,J 17 139 14 15 16,m 13 17,x 18 13 0,x 19 13 1,o 9 al8,s 2 9 18,m 10 19]) (S (A [21] [m 20 10,N 21 20] 21 (F [8] [Q 8]) W) (S (g [11] [Q 11]) (S (A [25] [L 22 4 4,m 23 1,m 24 2,J 25 140 22 23 24] 25 (g [11] [m 26 11,m 27 1,m 28 2,o 29 (.build [.x (.t 27) 1,.x (.t 28) 1,.x (.k (.int .u8 3)) 1,.x (.k (.int .i64 (-1))) 1]),q 30 4 29,p 31 4 4398046511104 26 30,m 11 31]) W) (S (S (g [12] [K 12 0]) (T 0 (M qW))) (F [8] [m 53 11,m 8 53]))))))
def aa2:=h 54 4 [0,1,2,3,4,8,9,10,11,12,21,25,43] [.tmp 8] Ma
def V8:=S (g [1,2] [b 1 0,Z 2]) (F [2] [L 3 1 2,c 4 105 3,N 5 4,m 2 5])
def aa3:=h 6 1 [0,1,2] [.tmp 2] V8
def V9:=S (g [4] [Z 4]) (F [4] [m 5 0,m 6 1,C 7 142 5 6,i 8 .geq 7 0,m 4 8])
def aa4:=h 9 2 [0,1,4] [.tmp 4] V9
def xE:=S (g [9] [z 9 .lss 8 7]) (S (I 9 W (X 0)) (S (T 1 (S (g [5] [m 10 8,m 5 10]) (A [16] [m 11 1,m 12 0,m 13 5,a 14 12 13 3,L 15 14 3,o 16 (.dyn (.t 11) [.t 15])] 16 (F [4] [m 17 5,m 4 17]) W))) (g [8] [i 18 .add 8 1,m 8 18])))
def Wa:=S (g [4] [K 4 0]) (S (S (g [7,8] [m 6 0,n 7 6,K 8 0]) (T 0 (M xE))) (F [4] [K 4 (-1)]))
def aa5:=h 19 2 [0,1,4,5,7,8,9,16] [.tmp 4] Wa
@[simp]def Qv:=g [43] [m 27 1,m 28 4,i 29 .add 28 1,f 30 5 1,L 31 30 2,f 32 2 0,f 33 32 3,l 34 33,m 35 34,fF 36 5 0 35,lF 37 36 35,nF 38 37 35,iF 39 .gtr 38 0 35,Y 40 35 39,o 41 (.build [.x (.t 29) 1,.x (.k (.int .i64 0)) 1,.x (.t 31) 2,.x (.t 40) 1]),o 42 (.dyn (.t 27) [.t 41]),N 43 42]
def pC:=S (g [48] [z 48 .lss 47 46]) (S (I 48 W (X 2)) (S (T 3 (S (g [7,6] [m 49 47,a 50 45 47 2,L 51 50 2,o 7 al8,m 6 49,s 2 7 51]) (A [60] [m 52 1,m 53 4,i 54 .add 53 1,m 55 6,i 56 .add 55 1,L 57 7 2,o 58 (.build [.x (.t 54) 1,.x (.t 56) 1,.x (.t 57) 2,.x (.k (.bool true)) 1]),o 59 (.dyn (.t 52) [.t 58]),N 60 59] 60 R W))) (g [47] [i 61 .add 47 1,m 47 61])))
def pD:=S (g [23] [z 23 .lss 22 21]) (S (I 23 W (X 0)) (S (T 1 (S (g [5,4] [m 24 22,a 25 20 22 3,L 26 25 3,o 5 al4,m 4 24,s 3 5 26]) (S (S Qv (I 43 R W)) (S (g [45,46,47] [f 44 5 0,l 45 44,n 46 45,K 47 0]) (T 2 (M pC)))))) (g [22] [i 62 .add 22 1,m 22 62])))
def Mb:=S (g [2] [b 2 0]) (S (A [17] [m 8 1,f 9 2 0,f 10 9 1,L 11 10 2,f 12 2 0,f 13 12 3,l 14 13,o 15 (.build [.x (.k (.int .i64 0)) 1,.x (.k (.int .i64 0)) 1,.x (.t 11) 2,.x (.t 14) 1]),o 16 (.dyn (.t 8) [.t 15]),N 17 16] 17 R W) (S (g [20,21,22] [f 18 2 0,f 19 18 0,l 20 19,n 21 20,K 22 0]) (T 0 (M pD))))
def aa6:=h0 63 2 [0,1,2,4,5,6,7,17,20,21,22,23,43,45,46,47,48,60] [] Mb
def Mc:=S (g [2,3,4,5] [b 2 0,b 3 1,Z 4,K 5 0]) (S (g [6,7] [L 11 2 4,c 12 106 11,m 10 12,x 13 10 0,x 14 10 1,o 6 al2,s 4 6 13,m 7 14]) (S (A [16] [m 15 7,i 16 .neq 15 0] 16 (F [4,5] [m 17 7,Z 4,m 5 17]) W) (S (g [9] [L 19 6 4,L 20 3 4,C 21 143 19 20,m 18 21,x 22 18 0,x 23 18 1,o 8 al5,s 5 8 22,m 9 23]) (F [4,5] [m 24 9,m 4 24,K 5 0]))))
def aa7:=h 25 2 [0,1,2,3,4,5,6,7,9,16] [.tmp 4,.tmp 5] Mc
@[simp]def TJ:=g [4] [m 18 0,k 19 18,f 20 19 4,l 21 20,n 22 21,i 23 .eql 22 0,m 24 23,LT 25 3 4 24,cT 26 145 25 24,y 27 24 26,m 28 27,LT 29 3 4 28,cT 30 146 29 28,NT 31 30 28,y 32 28 31,m 4 32]
@[simp]def TK:=g [4] [L 42 3 4,f 43 7 0,l 44 43,f 45 7 1,l 46 45,J 47 147 42 44 46,m 48 47,mT 49 0 48,LT 50 7 4 48,LT 51 3 4 48,G 52 (.call 148 [.t 49,.t 50,.t 51]) 48 true,y 53 48 52,m 4 53]
@[simp]def TL:=g [63] [m 54 0,k 55 54,f 56 55 9,l 57 56,m 58 57,mF 59 0 58,G 60 (.nck (.t 59)) 58 false,fF 61 60 10 58,lF 62 61 58,Y 63 58 62]
@[simp]def TM:=g [4] [L 69 3 4,c 70 151 69,m 71 70,fT 72 3 0 71,lT 73 72 71,fT 74 7 0 71,lT 75 74 71,zT 76 .eql 73 75 71,y 77 71 76,m 4 77]
def aht:=S (g [3,4] [b 3 1,Z 4]) (S (g [5,6] [m 9 0,k 10 9,f 11 10 8,L 12 11 1,c 13 144 12,m 8 13,x 14 8 0,x 15 8 1,m 5 14,m 6 15]) (S (A [17] [m 16 6,N 17 16] 17 (S TJ R) W) (S (g [7] [m 33 0,k 34 33,f 35 34 4,l 36 35,m 37 5,a 38 36 37 4,L 39 38 4,o 7 al0,s 4 7 39]) (S (A [41] [L 40 3 4,c 41 146 40] 41 (S TK R) W) (S (S TL (I 63 (F [4] [Z 4]) W)) (S (A [66] [m 64 0,c 65 149 64,o 66 (.bin false .eql (.t 65) (.k (.int .u8 2)))] 66 (F [4] [L 67 3 4,c 68 150 67,m 4 68]) W) (S TM R)))))))
def agp:=h 78 2 [0,1,3,4,5,6,7,17,41,63,66] [.tmp 4] aht
@[simp]def TN:=g [3] [b 3 1]
@[simp]def TO:=g [4] [m 10 0,k 11 10,f 12 11 8,L 13 12 1,c 14 144 13,m 9 14,x 15 9 0,x 16 9 1,m 4 15,m 5 16]
@[simp]def aix:=g [6] [m 17 0,k 18 17,f 19 18 4,l 20 19,n 21 20,m 6 21]
@[simp]def aiy:=g [7,8] [K 7 (-1),K 8 (-1)]
@[simp]def aiz:=g [22] [L 23 3 4,c 24 146 23,m 22 24]
@[simp]def aiA:=g [7,8] [m 25 4,m 26 4,m 7 25,m 8 26]
@[simp]def aiB:=g [] [m 27 0,k 28 27,f 29 28 5,l 30 29,m 31 4,m 32 6,a 33 30 31 1,s 1 33 32]
@[simp]def aiC:=d [] [r 0 (m 34 0),r 1 (m 35 0),r 2 (k 36 35),r 3 (f 37 36 8),r 4 (f 38 37 0),w 5 (l 39 38) 0 0,r 6 (m 40 0),r 7 (k 41 40),r 8 (f 42 41 8),r 9 (f 43 42 0),w 10 (l 44 43) 0 0,w 11 (n 45 44) 0 0,r 12 (i 46 .sub 45 1),r 13 (o 47 (.slc (.t 39) none (some (.t 46)) none 1))] [k 48 34,f 49 48 8,f 50 49 0,s 1 50 47]
@[simp]def aiD:=g [51] [L 52 3 4,c 53 150 52,m 51 53]
@[simp]def aiE:=g [8] [K 8 0]
@[simp]def ah7:=g [54] [L 55 3 4,c 56 151 55,m 54 56]
@[simp]def ah8:=g [8] [m 57 4,m 8 57]
def ahb:=T 0 (S aiz (I 22 (S aiA (S aiB aiC)) (S aiD (I 51 aiE (S ah7 (I 54 ah8 W))))))
@[simp]def ah9:=d [] [r 1 (m 59 0),r 2 (k 60 59),r 3 (f 61 60 7),w 4 (l 62 61) 0 0,r 5 (m 63 0),r 6 (k 64 63),r 7 (f 65 64 9),w 8 (l 66 65) 0 0,r 9 (q 67 1 66),u 10 (p 68 1 140737488355328 62 67),r 0 (m 58 0)] [k 69 58,f 70 69 7,s 1 70 68]
@[simp]def ahj:=g [83] [L 71 3 4,c 72 152 71,m 73 72,LT 74 3 4 73,cT 75 150 74 73,y 76 73 75,m 77 76,mT 78 0 77,G 79 (.nck (.t 78)) 77 true,fT 80 79 9 77,lT 81 80 77,NT 82 81 77,y 83 77 82]
@[simp]def ahu:=g [] [m 84 0,k 85 84,f 86 85 10,e (.st 1 (.t 86) (.k (.bool true)))]
@[simp]def aia:=g [] [m 87 0,L 88 3 4,c 89 152 88,m 90 89,LT 91 3 4 90,cT 92 151 91 90,y 93 90 92,k 94 87,f 95 94 9,s 1 95 93]
@[simp]def aib:=d [] [r 1 (m 97 0),r 2 (k 98 97),r 3 (f 99 98 4),w 4 (l 100 99) 0 0,w 5 (L 101 3 4) 0 0,r 6 (q 102 4 101),u 7 (p 103 4 4398046511104 100 102),r 0 (m 96 0)] [k 104 96,f 105 104 4,s 1 105 103]
@[simp]def aic:=d [] [r 2 (m 108 0),r 3 (k 109 108),r 4 (f 110 109 5),w 5 (l 111 110) 0 0,r 6 (m 112 7),r 7 (q 113 1 112),u 8 (p 114 1 17592186044416 111 113),r 9 (m 115 0),r 10 (k 116 115),r 11 (f 117 116 6),w 12 (l 118 117) 0 1,r 13 (m 119 8),r 14 (q 120 1 119),u 15 (p 121 1 17592186044416 118 120),r 0 (m 106 0),r 16 (k 122 106),r 17 (f 123 122 5),u 18 (s 1 123 114),r 1 (m 107 0)] [k 124 107,f 125 124 6,s 1 125 121]
@[simp]def aid:=g [128] [L 126 3 4,c 127 146 126,N 128 127]
@[simp]def aie:=g [] [m 129 0,m 130 0,k 131 130,f 132 131 8,f 133 132 0,l 134 133,m 135 6,q 136 1 135,p 137 1 17592186044416 134 136,k 138 129,f 139 138 8,f 140 139 0,s 1 140 137]
@[simp]def aif:=d [] [r 0 (m 141 0),r 1 (m 142 0),r 2 (k 143 142),r 3 (f 144 143 11),w 4 (l 145 144) 0 0,r 5 (m 146 0),r 6 (k 147 146),r 7 (f 148 147 8),r 8 (f 149 148 0),w 9 (l 150 149) 0 0,w 10 (n 151 150) 0 0,r 11 (o 152 (.mm true (.t 145) (.t 151)))] [k 153 141,f 154 153 11,s 1 154 152]
def ahK:=S TN (S TO (S aix (S aiy (S ahb (S ah9 (S (S ahj (I 83 ahu W)) (S aia (S aib (S aic (S (S aid (I 128 aie W)) aif))))))))))
def agq:=h0 155 2 [0,1,3,4,6,7,8,22,51,54,83,128] [] ahK
def Qw:=S (g [2] [Z 2]) (F [2] [m 3 0,c 4 128 3,N 5 4,m 2 5])
def ajt:=h 6 1 [0,2] [.tmp 2] Qw
def xF:=S (g [8] [z 8 .lss 7 6]) (S (I 8 W (X 0)) (S (T 1 (S (g [3] [m 9 7,m 3 9]) (S (d [22] [r 0 (m 10 0),r 1 (m 11 3),r 2 (a 12 10 11 5),r 3 (f 13 12 0),w 4 (L 14 13 4) 0 0,r 5 (m 15 0),r 6 (m 16 3),r 7 (i 17 .add 16 1),r 8 (a 18 15 17 5),r 9 (f 19 18 0),w 10 (L 20 19 4) 0 0] [C 21 153 14 20,N 22 21]) (I 22 (F [2] [Z 2]) W)))) (g [7] [i 23 .add 7 1,m 7 23])))
def Wb:=S (g [2] [Z 2]) (S (S (g [6,7] [m 4 0,n 5 4,i 6 .sub 5 1,K 7 0]) (T 0 (M xF))) (F [2] [O 2]))
def aju:=h 24 1 [0,2,3,6,7,8,22] [.tmp 2] Wb
@[simp]def Qx:=g [2] [f 3 1 0,l 4 3,n 5 4,f 6 1 1,l 7 6,n 8 7,o 9 (.mm true (.t 5) (.t 8)),i 10 .gtr 9 400,m 11 10,LF 12 1 2 11,cF 13 154 12 11,iF 14 .gtr 13 6000 11,Y 15 11 14,m 2 15]
def Wc:=S (g [1,2] [b 1 0,Z 2]) (S Qx R)
def ajv:=h 16 1 [0,1,2] [.tmp 2] Wc
@[simp]def Qy:=g [2] [f 5 1 0,l 6 5,n 7 6,i 8 .gtr 7 0,m 9 8,fT 10 1 0 9,lT 11 10 9,nT 12 11 9,fT 13 1 1 9,lT 14 13 9,nT 15 14 9,zT 16 .eql 12 15 9,y 17 9 16,m 18 17,fT 19 1 0 18,lT 20 19 18,G 21 (.mkf 156 [] [.t 3]) 18 true,CT 22 131 20 21 18,NT 23 22 18,y 24 18 23,m 2 24]
def Md:=S (g [1,2] [o 1 (.box (.t 0)),Z 2]) (S (g [3] [o 4 (.mkf 155 [] [.t 1]),o 3 (.alloc [.gY]),s 1 3 4]) (S Qy R))
def aa8:=h 25 1 [0,1,2,3] [.tmp 2] Md
def Qz:=S (g [4] [Z 4]) (F [4] [m 5 0,m 6 1,C 7 158 5 6,i 8 .geq 7 0,m 4 8])
def aa9:=h 9 2 [0,1,4] [.tmp 4] Qz
@[simp]def QA:=g [4] [f 5 2 1,l 6 5,f 7 3 1,l 8 7,C 9 159 6 8,m 10 9,fT 11 2 0 10,lT 12 11 10,fT 13 3 0 10,lT 14 13 10,G 15 (.call 160 [.t 12,.t 14,.k (.fn 161 [] [])]) 10 true,y 16 10 15,m 4 16]
def QB:=S (g [2,3,4] [b 2 0,b 3 1,Z 4]) (S QA R)
def aba:=h 17 2 [0,1,2,3,4] [.tmp 4] QB
def BA:=S (g [18] [z 18 .lss 17 16]) (S (I 18 W (X 0)) (S (T 1 (S (g [4] [m 19 17,m 4 19]) (d [] [r 3 (f 23 1 0),w 4 (l 24 23) 0 0,r 5 (m 25 4),r 6 (a 26 24 25 1),w 7 (l 27 26) 0 0,r 8 (o 28 (.mkf 165 [] [.t 3])),u 9 (C 29 164 27 28),r 0 (f 20 1 0),w 1 (l 21 20) 0 1,r 2 (m 22 4)] [a 30 21 22 1,s 1 30 29]))) (g [17] [i 31 .add 17 1,m 17 31])))
def Js:=S (g [1,2] [b 1 0,o 2 al3]) (S (g [3] [L 7 1 2,c 8 162 7,o 3 al9,s 1 3 8]) (S (A [12] [l 9 3,o 10 (.ia (.t 9) (.k (.int .i64 0)) 1),l 11 10,N 12 11] 12 (F [] [j 13 163,s 2 2 13]) W) (S (S (g [16,17] [f 14 1 0,l 15 14,n 16 15,K 17 0]) (T 0 (M BA))) (S (g [5,6] [L 33 1 2,c 34 166 33,m 32 34,x 35 32 0,x 36 32 1,m 5 35,m 6 36]) (S (A [37] [m 37 6] 37 (g [5] [L 38 1 2,c 39 167 38,m 5 39]) W) (F [] [L 40 1 2,m 41 5,C 42 168 40 41,s 2 2 42]))))))
def abb:=h0 43 1 [0,1,2,3,4,5,6,12,16,17,18,37] [.cell 2 (some 2)] Js
def BB:=S (g [14] [z 14 .lss 13 12]) (S (I 14 W (X 0)) (S (T 1 (S (g [5] [a 15 11 13 1,l 16 15,m 5 16]) (d [] [r 2 (m 19 5),u 3 (c 20 170 19),r 0 (f 17 3 0),w 1 (l 18 17) 0 1,r 4 (q 21 1 20)] [p 22 1 5864062014805 18 21,f 23 3 0,s 1 23 22]))) (g [13] [i 24 .add 13 1,m 13 24])))
def Me:=S (g [1,2] [b 1 0,o 2 al3]) (S (g [3] [f 6 1 1,l 7 6,c 8 169 7,o 9 (.build [.z [.ah],.x (.t 8) 1]),o 3 al3,s 2 3 9]) (S (S (g [11,12,13] [f 10 1 0,l 11 10,n 12 11,K 13 0]) (T 0 (M BB))) (F [] [L 25 3 2,s 2 2 25])))
def abc:=h0 26 1 [0,1,2,3,5,11,12,13,14] [.cell 2 (some 2)] Me
@[simp]def QC:=g [4,5,6,8,9] [b 4 0,b 5 1,b 6 2,o 8 al7,Z 9]
@[simp]def QD:=g [10,11] [L 19 5 4,L 20 6 4,C 21 124 19 20,m 18 21,x 22 18 0,x 23 18 1,m 10 22,m 11 23]
@[simp]def QE:=g [29] [m 24 11,i 25 .neq 24 0,m 26 25,mF 27 10 26,NF 28 27 26,Y 29 26 28]
@[simp]def QF:=g [9] [o 30 (.build [.z [.ah],.z [.bool false],.z [.bool false]]),s 3 8 30,Z 9]
@[simp]def QG:=g [34] [f 31 4 0,l 32 31,n 33 32,i 34 .eql 33 0]
@[simp]def QH:=d [9] [w 0 (L 35 6 4) 0 0,u 1 (o 36 (.bsl 4 [.t 35])),r 2 (o 37 (.build [.x (.t 36) 1,.z [.bool false],.z [.bool false]])),r 3 (m 38 3),r 4 (m 39 38),r 5 (fT 40 6 0 39),w 6 (lT 41 40 39) 0 1,r 7 (iT 42 .eql 41 0 39),r 8 (y 43 39 42),r 9 (m 44 43),u 14 (s 3 8 37),r 10 (fT 45 6 2 44),w 11 (lT 46 45 44) 0 2,r 12 (G 47 (.bin false .neq (.t 46) (.k (.int .u8 3))) 44 true),r 13 (y 48 44 47)] [m 9 48]
@[simp]def QI:=g [12] [f 49 4 0,l 50 49,n 51 50,i 52 .sub 51 1,m 12 52]
@[simp]def QJ:=g [13] [f 53 4 0,l 54 53,m 55 12,a 56 54 55 4,L 57 56 4,o 13 al0,s 4 13 57]
@[simp]def QK:=g [14] [f 58 13 0,l 59 58,i 60 .gtr 59 0,m 61 60,fT 62 13 1 61,lT 63 62 61,iT 64 .eql 63 0 61,y 65 61 64,m 14 65]
@[simp]def QL:=g [68] [f 66 6 2,l 67 66,o 68 (.bin false .eql (.t 67) (.k (.int .u8 3)))]
@[simp]def Mf:=g [15] [f 69 6 3,l 70 69,i 71 .neq 70 (-1),m 72 71,fT 73 13 2 72,lT 74 73 72,G 75 (.bin false .eql (.t 74) (.k (.int .u8 1))) 72 true,mT 76 75 72,fF 77 6 3 76,lF 78 77 76,iF 79 .eql 78 0 76,YT 80 76 79 72,y 81 72 80,m 82 81,fF 83 6 3 82,lF 84 83 82,iF 85 .eql 84 (-1) 82,mF 86 85 82,fT 87 13 1 86,lT 88 87 86,iT 89 .gtr 88 0 86,mT 90 89 86,mF 91 14 90,mF 92 91 90,fT 93 5 3 92,lT 94 93 92,yF 95 92 94 90,YT 96 90 95 86,yF 97 86 96 82,Y 98 82 97,m 15 98]
@[simp]def Mg:=g [104] [f 99 4 1,l 100 99,m 101 100,fF 102 4 2 101,lF 103 102 101,Y 104 101 103]
@[simp]def Mh:=g [15] [f 105 6 3,l 106 105,i 107 .eql 106 (-1),m 15 107]
@[simp]def Mi:=d [16] [r 0 (f 108 4 0),w 1 (l 109 108) 0 0,r 2 (m 110 12),r 3 (o 111 (.slc (.t 109) none (some (.t 110)) none 4)),u 4 (c 112 171 111),w 5 (L 113 6 4) 0 1,u 6 (c 114 172 113),r 7 (m 115 114),r 12 (f 120 4 2),w 13 (l 121 120) 0 2,r 14 (m 122 121),w 15 (LF 123 6 4 122) 2 2,u 16 (cF 124 172 123 122),r 8 (fT 116 13 1 115),w 9 (lT 117 116 115) 2 4,r 10 (iT 118 .gtr 117 0 115),r 11 (y 119 115 118),r 17 (mF 125 124 122),r 18 (mT 126 14 125),r 19 (yF 127 125 126 122),r 20 (mF 128 127 122),r 21 (fT 129 4 1 128),w 22 (lT 130 129 128) 3 4,r 23 (NT 131 130 128),r 24 (yF 132 128 131 122),r 25 (Y 133 122 132),r 26 (o 134 (.build [.x (.t 112) 1,.x (.t 119) 1,.x (.t 133) 1])),v 27 (o 16 al7)] [s 3 16 134]
@[simp]def Mj:=d [9] [w 0 (L 135 16 3) 0 0,r 1 (m 136 15),r 2 (m 137 136),r 3 (fT 138 6 0 137),w 4 (lT 139 138 137) 0 0,r 5 (fT 140 13 0 137),w 6 (lT 141 140 137) 0 0,r 7 (zT 142 .eql 139 141 137),r 8 (y 143 137 142),r 9 (m 144 143),u 16 (s 3 8 135),r 10 (fT 145 6 1 144),w 11 (lT 146 145 144) 0 1,r 12 (fT 147 13 1 144),w 13 (lT 148 147 144) 0 1,r 14 (zT 149 .eql 146 148 144),r 15 (y 150 144 149)] [m 9 150]
@[simp]def Mk:=g [17] [L 151 6 4,o 152 (.call 173 [.t 151,.k (.bool false)]),m 17 152]
@[simp]def Ml:=g [153] [m 153 14]
@[simp]def Mm:=g [17] [L 154 6 4,o 155 (.call 173 [.t 154,.k (.bool true)]),m 156 155,fT 157 6 0 156,lT 158 157 156,fT 159 13 0 156,lT 160 159 156,zT 161 .eql 158 160 156,y 162 156 161,m 17 162]
@[simp]def Mo:=d [9] [r 0 (f 163 4 0),w 1 (l 164 163) 0 0,u 2 (c 165 171 164),w 3 (L 166 6 4) 0 1,r 4 (q 167 4 166),u 5 (p 168 4 4398046511104 165 167),r 6 (o 169 (.build [.x (.t 168) 1,.z [.bool false],.z [.bool false]])),r 7 (m 170 17),r 8 (m 171 170),r 9 (fT 172 4 1 171),w 10 (lT 173 172 171) 2 2,r 11 (NT 174 173 171),r 12 (y 175 171 174),r 13 (m 176 175),u 18 (s 3 8 169),r 14 (fT 177 4 2 176),w 15 (lT 178 177 176) 2 3,r 16 (NT 179 178 176),r 17 (y 180 176 179)] [m 9 180]
def qX:=S QC (S (S QD (S QE (I 29 (S QF R) W))) (S (S QG (I 34 (S QH R) W)) (S QI (S QJ (S QK (S (S QL (I 68 (S Mf (S (S Mg (I 104 Mh W)) (S Mi (S Mj R)))) W)) (S Mk (S (S Ml (I 153 Mm W)) (S Mo R)))))))))
def f168:=h 181 4 [0,1,2,3,4,5,6,8,9,10,11,12,13,14,15,16,17,29,34,68,104,153] [.cell 8 (some 3),.tmp 9] qX
def xG:=S (g [13] [z 13 .lss 12 11]) (S (I 13 W (X 0)) (S (T 1 (S (g [7] [a 14 10 12 4,L 15 14 4,o 7 al0,s 4 7 15]) (S (g [] [f 16 7 0,l 17 16,o 18 (.bin false .mul (.k (.int .i64 64)) (.t 17)),f 19 7 1,l 20 19,z 21 .add 18 20,i 22 .add 21 1,o 23 (.cnv .i32 (.t 22)),o 24 (.cis (.t 23)),o 25 (.bin false .add (.t 24) (.k (.str [32]))),C 26 174 4 25]) (g [] [f 27 7 2,l 28 27,o 29 (.cnv .i32 (.t 28)),o 30 (.cis (.t 29)),C 31 174 5 30])))) (g [12] [i 32 .add 12 1,m 12 32])))
def Wd:=S (g [1,2,3] [b 1 0,o 2 (.mv (.k (.str []))),o 3 (.mv (.k (.str [])))]) (S (g [4,5] [o 4 (.alb 166 [.dE,.ah]),o 5 (.alb 166 [.dE,.ah])]) (S (S (g [10,11,12] [f 9 1 0,l 10 9,n 11 10,K 12 0]) (T 0 (M xG))) (S (g [8] [o 33 .mkm,e (.mup ⟨false,[1]⟩ (.t 33) (.k (.bool false)) (.k (.str [110]))),e (.mup ⟨false,[1]⟩ (.t 33) (.k (.bool true)) (.k (.str [121]))),m 34 33,m 8 34]) (S (d [2,3] [u 0 (c 35 88 4),u 1 (c 36 88 5),r 2 (m 37 8),r 3 (f 38 1 1),w 4 (l 39 38) 0 2,w 5 (o 40 (.lkp ⟨false,[1]⟩ (.t 37) (.t 39) (.str []) false)) 0 2,r 6 (z 41 .add 36 40),r 7 (m 42 8),r 8 (f 43 1 2),w 9 (l 44 43) 0 2,w 10 (o 45 (.lkp ⟨false,[1]⟩ (.t 42) (.t 44) (.str []) false)) 0 2,r 11 (z 46 .add 41 45),r 12 (m 2 35)] [m 3 46]) R))))
def f169:=h 47 1 [0,1,2,3,4,5,7,8,10,11,12,13] [.tmp 2,.tmp 3] Wd
@[simp]def QM:=g [41] [f 31 12 0,L 32 31 4,L 33 9 4,o 34 (.eqs ⟨true,[0,0,0,0]⟩ false (.t 32) (.t 33)),m 35 34,mT 36 2 35,fT 37 12 4 35,lT 38 37 35,aT 39 36 38 1 35,lT 40 39 35,y 41 35 40]
def tI:=S (A [20] [m 13 11,f 14 5 0,l 15 14,m 16 3,a 17 15 16 1,l 18 17,n 19 18,z 20 .lss 13 19] 20 W (X 0)) (S (T 1 (S (g [12] [f 23 5 0,l 24 23,m 25 3,a 26 24 25 1,l 27 26,m 28 11,a 29 27 28 5,L 30 29 5,o 12 al1,s 5 12 30]) (S QM (I 41 (F [10] [m 42 1,f 43 12 4,l 44 43,a 45 42 44 1,l 46 45,m 10 46]) W)))) (t 11 21 22))
def We:=S (g [5,9,10] [b 5 0,b 9 4,K 10 0]) (S (S (g [11] [K 11 0]) (T 0 (M tI))) (F [10] [K 10 (-1)]))
def abd:=h 47 5 [0,1,2,3,4,5,9,10,11,12,20,41] [.tmp 10] We
@[simp]def QN:=g [14] [m 9 1,i 10 .eql 9 0,m 11 10,mT 12 2 11,iT 13 .eql 12 0 11,y 14 11 13]
def Ff:=S (g [3,6,7] [b 3 0,o 6 al8,Z 7]) (S (S QN (I 14 (F [7] [f 15 3 1,L 16 15 2,s 2 6 16,O 7]) W)) (S (A [22] [m 17 1,f 18 3 0,l 19 18,n 20 19,o 21 (.call 37 [.t 17,.k (.int .i64 1),.t 20]),N 22 21] 22 (F [7] [o 23 (.build [.z [.bool false],.z [.int .i64 0]]),s 2 6 23,Z 7]) W) (S (g [8] [f 24 3 0,l 25 24,m 26 1,i 27 .sub 26 1,a 28 25 27 3,L 29 28 3,o 8 al4,s 3 8 29]) (S (A [31] [m 30 2,i 31 .eql 30 0] 31 (F [7] [f 32 8 1,L 33 32 2,s 2 6 33,O 7]) W) (S (A [39] [m 34 2,f 35 8 0,l 36 35,n 37 36,o 38 (.call 37 [.t 34,.k (.int .i64 1),.t 37]),N 39 38] 39 (F [7] [o 40 (.build [.z [.bool false],.z [.int .i64 0]]),s 2 6 40,Z 7]) W) (F [7] [f 41 8 0,l 42 41,m 43 2,i 44 .sub 43 1,a 45 42 44 2,L 46 45 2,s 2 6 46,O 7]))))))
def abe:=h 47 3 [0,1,2,3,6,7,8,14,22,31,39] [.cell 6 (some 2),.tmp 7] Ff
@[simp]def QO:=g [6] [m 7 2,i 8 .gtr 7 0,m 9 8,fF 10 3 3 9,lF 11 10 9,Y 12 9 11,m 13 12,mF 14 1 13,iF 15 .gtr 14 0 13,mF 16 15 13,fT 17 3 0 16,lT 18 17 16,mT 19 1 16,iT 20 .sub 19 1 16,aT 21 18 20 3 16,fT 22 21 0 16,lT 23 22 16,nT 24 23 16,iT 25 .gtr 24 0 16,yF 26 16 25 13,Y 27 13 26,m 6 27]
def HT:=S (g [3,6] [b 3 0,Z 6]) (S QO R)
def abf:=h 28 3 [0,1,2,3,6] [.tmp 6] HT
def xH:=S (g [9] [z 9 .lss 8 7]) (S (I 9 W (X 0)) (S (T 1 (S (g [5] [m 10 8,m 5 10]) (A [16] [m 11 1,m 12 0,m 13 5,a 14 12 13 2,L 15 14 2,o 16 (.dyn (.t 11) [.t 15])] 16 (F [4] [m 17 5,m 4 17]) W))) (g [8] [i 18 .add 8 1,m 8 18])))
def Wf:=S (g [4] [K 4 0]) (S (S (g [7,8] [m 6 0,n 7 6,K 8 0]) (T 0 (M xH))) (F [4] [K 4 (-1)]))
def abg:=h 19 2 [0,1,4,5,7,8,9,16] [.tmp 4] Wf
@[simp]def QP:=g [2,3,4,5] [b 2 0,b 3 1,o 4 al5,o 5 (.alloc [.bool false])]
@[simp]def QQ:=g [6,7] [L 10 2 4,f 11 3 0,l 12 11,f 13 3 1,l 14 13,J 15 107 10 12 14,m 9 15,x 16 9 0,x 17 9 1,o 6 al5,s 5 6 16,m 7 17]
@[simp]def QR:=g [19] [m 18 7,N 19 18]
@[simp]def QS:=g [] [L 20 6 5,s 5 4 20,e (.st 1 (.t 5) (.k (.bool false)))]
@[simp]def QT:=g [22] [L 21 6 5,o 22 (.mkf 175 [.t 21] [])]
@[simp]def ey:=g [8] [o 8 al0,s 4 8 23]
@[simp]def QU:=g [26] [L 24 8 4,L 25 3 4,o 26 (.eqs ⟨true,[0,0,0,0]⟩ false (.t 24) (.t 25))]
@[simp]def QV:=g [] [L 27 6 5,s 5 4 27,e (.st 1 (.t 5) (.k (.bool true)))]
def ez:=T 1 (S QU (I 26 (S QV R) W))
def Jt:=T 0 (.rf (.t 22) [23] ey ez)
@[simp]def QW:=g [] [L 28 6 5,s 5 4 28,e (.st 1 (.t 5) (.k (.bool false)))]
def QX:=S QP (S QQ (S (S QR (I 19 (S QS R) W)) (S (S QT Jt) (S QW R))))
def f170:=h 29 2 [0,1,2,3,4,5,6,7,8,19,22,23,26] [.cell 4 (some 5),.cell 5 none] QX
def aiF:=S (g [1,2,3] [b 1 0,K 2 0,Z 3]) (S (A [7] [f 4 1 0,l 5 4,n 6 5,i 7 .eql 6 0] 7 (F [2,3] [K 2 (-1),Z 3]) W) (F [2,3] [f 8 1 0,l 9 8,f 10 1 0,l 11 10,n 12 11,i 13 .sub 12 1,a 14 9 13 1,l 15 14,m 2 15,O 3]))
def f171:=h 16 1 [0,1,2,3,7] [.tmp 2,.tmp 3] aiF
def ai6:=S (g [1,2] [b 1 0,Z 2]) (F [2] [L 3 1 4,o 4 (.call 147 [.t 3,.k (.int .i64 0),.k (.int .i64 0)]),m 2 4])
def agt:=h 5 1 [0,1,2] [.tmp 2] ai6
def ai7:=S (g [1,2] [b 1 0,Z 2]) (F [2] [f 3 1 2,l 4 3,o 5 (.bin false .eql (.t 4) (.k (.int .u8 3))),m 2 5])
def agu:=h 6 1 [0,1,2] [.tmp 2] ai7
@[simp]def TP:=g [6] [f 7 3 0,l 8 7,m 9 1,z 10 .eql 8 9,m 11 10,fT 12 3 1 11,lT 13 12 11,mT 14 2 11,zT 15 .eql 13 14 11,y 16 11 15,m 6 16]
def ai8:=S (g [3,6] [b 3 0,Z 6]) (S TP R)
def agv:=h 17 3 [0,1,2,3,6] [.tmp 6] ai8
@[simp]def TQ:=g [7] [m 8 0,k 9 8,f 10 9 9,l 11 10,m 12 11,mF 13 0 12,G 14 (.nck (.t 13)) 12 false,fF 15 14 10 12,lF 16 15 12,Y 17 12 16,m 7 17]
@[simp]def TR:=g [6] [L 23 4 4,c 24 151 23,m 25 24,LF 26 4 4 25,cF 27 150 26 25,mF 28 27 25,mT 29 0 28,G 30 (.nck (.t 29)) 28 true,fT 31 30 0 28,fT 32 31 3 28,lT 33 32 28,yF 34 28 33 25,Y 35 25 34,m 6 35]
@[simp]def TS:=g [6] [f 36 4 2,l 37 36,o 38 (.bin false .eql (.t 37) (.k (.int .u8 1))),m 39 38,fF 40 5 3 39,lF 41 40 39,iF 42 .eql 41 0 39,Y 43 39 42,m 6 43]
def ahT:=S (g [4,5,6] [b 4 1,b 5 2,Z 6]) (S (T 0 (S TQ (I 7 (F [6] [L 18 5 4,c 19 152 18,m 6 19]) (A [20] [L 21 5 4,c 22 152 21,m 20 22] 20 (S TR R) W)))) (S TS R))
def agw:=h 44 3 [0,1,2,4,5,6,7,20] [.tmp 6] ahT
@[simp]def TT:=g [16] [m 17 4,m 18 17,mT 19 0 18,G 20 (.nck (.t 19)) 18 true,fT 21 20 4 18,lT 22 21 18,mT 23 3 18,aT 24 22 23 4 18,LT 25 24 4 18,cT 26 150 25 18,NT 27 26 18,y 28 18 27,m 16 28]
def ahW:=S (g [2] [o 2 (.mv (.k (.int .u8 0)))]) (S (g [3,4] [m 6 0,k 7 6,f 8 7 8,L 9 8 1,c 10 144 9,m 5 10,x 11 5 0,x 12 5 1,m 3 11,m 4 12]) (S (T 0 (A [13] [m 14 0,c 15 176 14,m 13 15] 13 (F [2] [o 2 (.mv (.k (.int .u8 3)))]) (S TT (I 16 (F [2] [o 2 (.mv (.k (.int .u8 2)))]) W)))) (F [2] [o 2 (.mv (.k (.int .u8 1)))])))
def agx:=h 29 1 [0,2,3,4,13,16] [.tmp 2] ahW
@[simp]def TU:=g [2] [f 3 1 0,l 4 3,i 5 .gtr 4 0,m 6 5,fT 7 1 1 6,lT 8 7 6,iT 9 .eql 8 0 6,y 10 6 9,m 2 10]
def ai9:=S (g [1,2] [b 1 0,Z 2]) (S TU R)
def agy:=h 11 1 [0,1,2] [.tmp 2] ai9
@[simp]def TV:=g [2] [f 3 1 0,l 4 3,i 5 .gtr 4 0,m 6 5,fT 7 1 1 6,lT 8 7 6,iT 9 .gtr 8 0 6,y 10 6 9,m 2 10]
def aja:=S (g [1,2] [b 1 0,Z 2]) (S TV R)
def agz:=h 11 1 [0,1,2] [.tmp 2] aja
@[simp]def TW:=g [2] [L 3 1 4,c 4 146 3,m 5 4,fT 6 1 3 5,lT 7 6 5,iT 8 .eql 7 (-1) 5,y 9 5 8,m 2 9]
def aiG:=S (g [1,2] [b 1 0,Z 2]) (S TW R)
def agA:=h 10 1 [0,1,2] [.tmp 2] aiG
def Wg:=S (g [2,3,4] [b 2 0,b 3 1,Z 4]) (S (d [4] [r 0 (f 5 2 0),w 1 (l 6 5) 0 0,r 2 (f 7 3 0),w 3 (l 8 7) 0 0,u 4 (C 9 178 6 8),r 5 (f 10 2 1),w 6 (l 11 10) 0 1,r 7 (f 12 3 1),w 8 (l 13 12) 0 1,u 9 (C 14 178 11 13),r 10 (f 15 2 2),w 11 (l 16 15) 0 2,r 12 (f 17 3 2),w 13 (l 18 17) 0 2,u 14 (C 19 179 16 18),r 15 (f 20 2 3),w 16 (l 21 20) 0 3,r 17 (f 22 3 3),w 18 (l 23 22) 0 3] [C 24 178 21 23,o 25 (.fbl 1 [.t 9,.t 14,.t 19,.t 24]),c 26 177 25,i 27 .lss 26 0,m 4 27]) R)
def abi:=h 28 2 [0,1,2,3,4] [.tmp 4] Wg
def BC:=S (g [9] [z 9 .lss 8 7]) (S (I 9 W (X 0)) (S (T 1 (S (g [4] [a 10 6 8 1,l 11 10,m 4 11]) (g [2] [m 12 2,m 13 4,n 14 13,z 15 .add 12 14,m 2 15]))) (g [8] [i 16 .add 8 1,m 8 16])))
def Wh:=S (g [1,2] [b 1 0,K 2 0]) (S (S (g [6,7,8] [f 5 1 0,l 6 5,n 7 6,K 8 0]) (T 0 (M BC))) (F [2] [m 17 2,m 2 17]))
def abj:=h 18 1 [0,1,2,4,6,7,8,9] [.tmp 2] Wh
@[simp]def QY:=g [3] [f 4 2 4,l 5 4,i 6 .lss 5 0,m 7 6,fF 8 2 4 7,lF 9 8 7,fF 10 1 0 7,lF 11 10 7,nF 12 11 7,zF 13 .geq 9 12 7,Y 14 7 13,m 3 14]
def QZ:=S (g [2,3] [b 2 0,Z 3]) (S QY R)
def abk:=h 15 2 [0,1,2,3] [.tmp 3] QZ
def Wi:=S (g [3] [Z 3]) (F [3] [m 4 0,l 5 1,C 6 157 4 5,m 3 6])
def abl:=h 7 2 [0,1,3] [.tmp 3] Wi
def Wj:=S (g [4] [Z 4]) (F [4] [m 5 0,m 6 1,C 7 180 5 6,i 8 .geq 7 0,m 4 8])
def abm:=h 9 2 [0,1,4] [.tmp 4] Wj
def nL:=S (g [9] [z 9 .lss 8 7]) (S (I 9 W (X 0)) (S (T 1 (S (g [5] [m 10 8,m 5 10]) (A [16] [m 11 1,m 12 0,m 13 5,a 14 12 13 1,l 15 14,o 16 (.dyn (.t 11) [.t 15])] 16 (F [4] [m 17 5,m 4 17]) W))) (g [8] [i 18 .add 8 1,m 8 18])))
def Q0:=S (g [4] [K 4 0]) (S (S (g [7,8] [m 6 0,n 7 6,K 8 0]) (T 0 (M nL))) (F [4] [K 4 (-1)]))
def abn:=h 19 2 [0,1,4,5,7,8,9,16] [.tmp 4] Q0
def xI:=S (g [14] [z 14 .lss 13 12]) (S (I 14 W (X 0)) (S (T 1 (S (g [5] [m 15 13,m 5 15]) (S (d [24] [r 0 (m 16 0),r 1 (m 17 5),r 2 (a 18 16 17 1),w 3 (l 19 18) 0 0,r 4 (m 20 1),r 5 (m 21 5),r 6 (a 22 20 21 1),w 7 (l 23 22) 0 0] [o 24 (.bin true .neq (.t 19) (.t 23))]) (I 24 (F [4] [Z 4]) W)))) (g [13] [i 25 .add 13 1,m 13 25])))
def Q1:=S (g [4] [Z 4]) (S (A [10] [m 6 0,n 7 6,m 8 1,n 9 8,z 10 .neq 7 9] 10 (F [4] [Z 4]) W) (S (S (g [12,13] [m 11 0,n 12 11,K 13 0]) (T 0 (M xI))) (F [4] [O 4])))
def ajw:=h 26 2 [0,1,4,5,10,12,13,14,24] [.tmp 4] Q1
def xJ:=S (g [18] [z 18 .lss 17 16]) (S (I 18 W (X 0)) (S (T 1 (S (g [7,8] [m 19 17,a 20 15 17 1,l 21 20,m 7 19,m 8 21]) (S (g [9] [m 22 1,m 23 7,a 24 22 23 1,l 25 24,m 9 25]) (A [30] [m 26 2,m 27 8,m 28 9,o 29 (.dyn (.t 26) [.t 27,.t 28]),N 30 29] 30 (F [6] [Z 6]) W)))) (g [17] [i 31 .add 17 1,m 17 31])))
def Q2:=S (g [6] [Z 6]) (S (A [14] [m 10 0,n 11 10,m 12 1,n 13 12,z 14 .neq 11 13] 14 (F [6] [Z 6]) W) (S (S (g [15,16,17] [m 15 0,n 16 15,K 17 0]) (T 0 (M xJ))) (F [6] [O 6])))
def abo:=h 32 3 [0,1,2,6,7,8,9,14,15,16,17,18,30] [.tmp 6] Q2
def xK:=S (g [14] [z 14 .lss 13 12]) (S (I 14 W (X 0)) (S (T 1 (S (g [5] [m 15 13,m 5 15]) (S (d [24] [r 0 (m 16 0),r 1 (m 17 5),r 2 (a 18 16 17 5),w 3 (L 19 18 5) 0 0,r 4 (m 20 1),r 5 (m 21 5),r 6 (a 22 20 21 5),w 7 (L 23 22 5) 0 0] [o 24 (.eqs ⟨true,[0,0,0,0,0]⟩ true (.t 19) (.t 23))]) (I 24 (F [4] [Z 4]) W)))) (g [13] [i 25 .add 13 1,m 13 25])))
def Q3:=S (g [4] [Z 4]) (S (A [10] [m 6 0,n 7 6,m 8 1,n 9 8,z 10 .neq 7 9] 10 (F [4] [Z 4]) W) (S (S (g [12,13] [m 11 0,n 12 11,K 13 0]) (T 0 (M xK))) (F [4] [O 4])))
def abp:=h 26 2 [0,1,4,5,10,12,13,14,24] [.tmp 4] Q3
def xL:=S (g [30] [z 30 .lss 29 28]) (S (I 30 W (X 2)) (S (T 3 (S (g [7] [a 31 27 29 5,L 32 31 5,o 7 al1,s 5 7 32]) (d [] [r 3 (m 36 3),r 4 (f 37 7 4),w 5 (l 38 37) 0 0,r 6 (a 39 36 38 1),w 7 (l 40 39) 0 0,r 8 (m 41 4),r 9 (q 42 1 41),u 10 (p 43 1 17592186044416 40 42),r 0 (m 33 3),r 1 (f 34 7 4),w 2 (l 35 34) 0 1] [a 44 33 35 1,s 1 44 43]))) (g [29] [i 45 .add 29 1,m 29 45])))
def xM:=S (g [23] [z 23 .lss 22 21]) (S (I 23 W (X 0)) (S (T 1 (S (g [4,5] [m 24 22,a 25 20 22 1,l 26 25,m 4 24,m 5 26]) (S (g [27,28,29] [m 27 5,n 28 27,K 29 0]) (T 2 (M xL))))) (g [22] [i 46 .add 22 1,m 22 46])))
def tJ:=S (g [53] [z 53 .lss 52 51]) (S (I 53 W (X 4)) (S (T 5 (S (g [10,11] [m 54 52,a 55 50 52 1,l 56 55,m 10 54,m 11 56]) (A [57] [m 57 11] 57 (g [9] [m 58 9,m 59 10,q 60 1 59,p 61 1 17592186044416 58 60,m 9 61]) W))) (g [52] [i 62 .add 52 1,m 52 62])))
def tK:=S (g [83] [z 83 .lss 82 81]) (S (I 83 W (X 8)) (S (T 9 (S (g [14] [a 84 80 82 1,l 85 84,m 14 85]) (A [90] [m 86 8,m 87 14,a 88 86 87 1,l 89 88,N 90 89] 90 (S (g [] [m 91 8,m 92 14,a 93 91 92 1,e (.st 1 (.t 93) (.k (.bool true)))]) (g [9] [m 94 9,m 95 14,q 96 1 95,p 97 1 17592186044416 94 96,m 9 97])) W))) (g [82] [i 98 .add 82 1,m 82 98])))
def tL:=S (A [65] [m 63 9,n 64 63,i 65 .gtr 64 0] 65 W (X 6)) (T 7 (S (g [12] [m 66 9,m 67 9,n 68 67,i 69 .sub 68 1,a 70 66 69 1,l 71 70,m 12 71]) (S (g [9] [m 72 9,m 73 9,n 74 73,i 75 .sub 74 1,o 76 (.slc (.t 72) none (some (.t 75)) none 1),m 9 76]) (S (g [80,81,82] [m 77 3,m 78 12,a 79 77 78 1,l 80 79,n 81 80,K 82 0]) (T 8 (M tK))))))
def Q4:=S (g [1,2] [b 1 0,Q 2]) (S (g [3] [f 15 1 0,l 16 15,n 17 16,o 18 (.mks 1 5864062014805 [.ah] (.t 17) (.t 17)),m 3 18]) (S (S (g [20,21,22] [f 19 1 0,l 20 19,n 21 20,K 22 0]) (T 0 (M xM))) (S (g [8] [f 47 1 1,l 48 47,c 49 169 48,m 8 49]) (S (g [9] [Q 9]) (S (S (g [50,51,52] [m 50 8,n 51 50,K 52 0]) (T 4 (M tJ))) (S (T 6 (M tL)) (F [2] [m 99 8,m 2 99])))))))
def f195:=h 100 1 [0,1,2,3,4,5,7,8,9,10,11,12,14,20,21,22,23,27,28,29,30,50,51,52,53,57,65,80,81,82,83,90] [.tmp 2] Q4
def Wl:=S (g [0] [o 0 al3]) (F [] [o 1 (.bsl 1 [.k .ah]),o 2 (.bsl 1 [.k (.bool false)]),o 3 (.build [.x (.t 1) 1,.x (.t 2) 1]),s 2 0 3])
def abq:=h 4 0 [0] [.cell 0 (some 2)] Wl
def Q5:=S (A [19] [m 16 6,m 17 0,n 18 17,z 19 .lss 16 18] 19 W (X 0)) (S (T 1 (S (g [7] [m 22 0,m 23 6,a 24 22 23 5,L 25 24 5,o 7 al1,s 5 7 25]) (A [29] [m 26 1,L 27 7 5,o 28 (.dyn (.t 26) [.t 27]),N 29 28] 29 (S (g [] [m 30 0,m 31 5,L 32 7 5,a 33 30 31 5,s 5 33 32]) (t 5 34 35)) W))) (t 6 20 21))
def Mp:=S (g [4] [Q 4]) (S (g [5] [m 8 0,m 9 1,C 10 180 8 9,m 5 10]) (S (A [12] [m 11 5,i 12 .eql 11 (-1)] 12 (F [4] [m 13 0,m 4 13]) W) (S (S (g [6] [m 14 5,i 15 .add 14 1,m 6 15]) (T 0 (M Q5))) (S (g [] [m 36 0,m 37 5,o 38 (.slc (.t 36) (some (.t 37)) none none 5),e .bad]) (F [4] [m 39 0,m 40 5,o 41 (.slc (.t 39) none (some (.t 40)) none 5),m 4 41])))))
def abr:=h0 42 2 [0,1,4,5,6,7,12,19,29] [.tmp 4] Mp
def Wm:=S (g [2,3] [b 2 0,Z 3]) (F [3] [l 4 1,f 5 2 4,l 6 5,a 7 4 6 1,l 8 7,N 9 8,m 3 9])
def abt:=h 10 2 [0,1,2,3] [.tmp 3] Wm
def Q6:=S (g [1,2,3] [o 1 (.box (.t 0)),o 2 al9,o 3 (.alloc [.bool false])]) (S (g [] [o 7 (.bsl 1 [.k (.int .i64 (-1))]),f 8 1 0,l 9 8,n 10 9,C 11 181 7 10,s 1 2 11]) (S (g [4] [f 12 1 0,l 13 12,n 14 13,o 15 (.mks 1 140737488355328 [.bool false] (.t 14) (.t 14)),o 4 al9,s 1 4 15]) (S (g [5] [o 16 .mkm,o 5 (.alloc [.fS]),s 1 5 16]) (S (g [6] [o 6 (.alloc [.gY])]) (S (g [] [o 17 (.mkf 182 [] [.t 4,.t 1,.t 3,.t 2,.t 6,.t 5]),s 1 6 17]) (S (g [] [l 18 6,o 19 (.dyn (.t 18) [.k (.int .i64 0)])]) (S (d [] [w 0 (l 20 2) 0 0,u 2 (s 1 2 20),w 1 (l 21 3) 0 1] [s 1 3 21]) R)))))))
def f199:=h 22 1 [0,1,2,3,4,5,6] [.cell 2 none,.cell 3 none] Q6
def xN:=S (g [19] [z 19 .lss 18 17]) (S (I 19 W (X 2)) (S (T 3 (S (g [7] [m 20 18,m 7 20]) (d [] [r 3 (m 24 3),r 4 (m 25 7),r 5 (a 26 24 25 1),w 6 (l 27 26) 0 0,u 7 (c 28 185 27),w 9 (L 30 1 2) 0 1,r 10 (m 31 7),r 11 (m 32 3),u 12 (J 33 184 30 31 32),r 2 (m 23 5),r 8 (o 29 (.bin false .add (.t 28) (.k (.str [32])))),r 13 (z 34 .add 29 33),u 14 (C 35 183 23 34),r 0 (m 21 6),r 1 (m 22 7)] [a 36 21 22 1,s 1 36 35]))) (g [18] [i 37 .add 18 1,m 18 37])))
def Fg:=T 1 (S (g [5] [o 12 .mkm,m 5 12]) (S (g [6] [m 13 3,n 14 13,o 15 (.mks 1 17592186044416 [.int .i64 0] (.t 14) (.t 14)),m 6 15]) (S (S (g [17,18] [m 16 3,n 17 16,K 18 0]) (T 2 (M xN))) (S (g [3] [m 38 6,m 3 38]) (S (A [42] [m 39 5,o 40 (.len 2 (.t 39)),m 41 4,z 42 .eql 40 41] 42 (F [2] [m 43 3,m 2 43]) W) (g [4] [m 44 5,o 45 (.len 2 (.t 44)),m 4 45]))))))
def Q7:=S (g [1,2] [b 1 0,Q 2]) (S (g [3] [f 8 1 0,l 9 8,n 10 9,o 11 (.mks 1 17592186044416 [.int .i64 0] (.t 10) (.t 10)),m 3 11]) (S (g [4] [K 4 0]) (T 0 (M Fg))))
def f200:=h 46 1 [0,1,2,3,4,5,6,7,17,18,19,42] [.tmp 2] Q7
def xO:=S (g [32] [z 32 .lss 31 30]) (S (I 32 W (X 2)) (S (T 3 (S (g [11] [a 33 29 31 5,L 34 33 5,o 11 al1,s 5 11 34]) (d [9] [r 3 (m 38 7),r 4 (f 39 11 4),w 5 (l 40 39) 0 0,u 6 (o 41 (.dyn (.t 38) [.t 40])),r 0 (m 35 9),r 1 (f 36 11 0),w 2 (L 37 36 4) 0 1,r 7 (o 42 (.build [.x (.t 37) 4,.x (.t 41) 1])),r 8 (q 43 5 42)] [p 44 5 3518437208883 35 43,m 9 44]))) (g [31] [i 45 .add 31 1,m 31 45])))
def xP:=S (A [19] [m 16 8,l 17 6,n 18 17,z 19 .lss 16 18] 19 W (X 0)) (S (T 1 (S (g [9] [Q 9]) (S (S (d [29,30,31] [r 0 (f 22 2 0),w 1 (l 23 22) 0 0,w 2 (l 24 6) 0 0,r 3 (m 25 8),r 4 (a 26 24 25 1),w 5 (l 27 26) 0 0,r 6 (a 28 23 27 1),w 7 (l 29 28) 0 0,w 8 (n 30 29) 0 0,r 9 (K 31 0)] []) (T 2 (M xO))) (d [] [r 0 (f 46 4 0),w 1 (l 47 46) 0 0,r 2 (m 48 9),r 3 (q 49 1 48),u 4 (p 50 1 5864062014805 47 49),r 5 (f 51 4 1),w 6 (l 52 51) 0 1,r 7 (f 53 2 1),w 8 (l 54 53) 0 1,w 9 (l 55 6) 0 1,r 10 (m 56 8),r 11 (a 57 55 56 1),w 12 (l 58 57) 0 1,r 13 (a 59 54 58 1),w 14 (l 60 59) 0 1,r 15 (q 61 1 60),u 16 (p 62 1 140737488355328 52 61),r 17 (f 63 4 0)] [s 1 63 50,f 64 4 1,s 1 64 62])))) (t 8 20 21))
def Q8:=S (g [2,3,4] [b 2 0,o 3 (.box (.t 1)),o 4 al3]) (S (g [5] [o 12 .mkm,o 5 (.alloc [.fS]),s 1 5 12]) (S (g [6] [o 6 al9]) (S (g [7] [o 13 (.mkf 186 [] [.t 5,.t 3,.t 6]),m 7 13]) (S (g [] [m 14 7,o 15 (.dyn (.t 14) [.k (.int .i64 0)])]) (S (S (g [8] [K 8 0]) (T 0 (M xP))) (F [] [L 65 4 2,s 2 4 65]))))))
def f201:=h 66 2 [0,1,2,3,4,5,6,7,8,9,11,19,29,30,31,32] [.cell 4 (some 2)] Q8
def Ju:=S (g [2] [Q 2]) (S (A [4] [m 3 0,o 4 (.niq 0 false (.t 3))] 4 (F [2] [Q 2]) W) (F [2] [o 5 (.bsl 1 []),m 6 0,p 7 1 140737488355328 5 6,m 2 7]))
def f202:=h0 8 1 [0,2,4] [.tmp 2] Ju
def Q9:=S (g [2] [Q 2]) (S (A [4] [m 3 0,o 4 (.niq 0 false (.t 3))] 4 (F [2] [Q 2]) W) (F [2] [o 5 (.bsl 5 []),m 6 0,p 7 5 3518437208883 5 6,m 2 7]))
def f203:=h 8 1 [0,2,4] [.tmp 2] Q9
def Jv:=S (g [2] [Q 2]) (S (A [4] [m 3 0,o 4 (.niq 0 false (.t 3))] 4 (F [2] [Q 2]) W) (F [2] [o 5 (.bsl 4 []),m 6 0,p 7 4 4398046511104 5 6,m 2 7]))
def f204:=h0 8 1 [0,2,4] [.tmp 2] Jv
@[simp]def Ra:=g [2] [f 3 1 2,l 4 3,o 5 (.bin false .eql (.t 4) (.k (.int .u8 3))),m 6 5,fT 7 1 3 6,lT 8 7 6,iT 9 .eql 8 (-1) 6,y 10 6 9,m 2 10]
def Wo:=S (g [1,2] [b 1 0,Z 2]) (S Ra R)
def abu:=h 11 1 [0,1,2] [.tmp 2] Wo
@[simp]def Rb:=g [4] [f 5 2 2,l 6 5,o 7 (.bin false .neq (.t 6) (.k (.int .u8 3))),m 8 7,fT 9 2 0 8,lT 10 9 8,iT 11 .gtr 10 0 8,y 12 8 11,m 13 12,fT 14 2 1 13,lT 15 14 13,iT 16 .gtr 15 0 13,mT 17 1 13,G 18 (.bin true .eql (.t 16) (.t 17)) 13 true,y 19 13 18,m 4 19]
def Rc:=S (g [2,4] [b 2 0,Z 4]) (S Rb R)
def abv:=h 20 2 [0,1,2,4] [.tmp 4] Rc
def Fh:=S (g [4,5] [K 4 0,o 5 (.mv (.k .fU))]) (S (g [] [m 6 0,c 7 113 6]) (S (g [] [m 8 0,m 9 0,k 10 9,f 11 10 1,l 12 11,m 13 1,o 14 (.aps 140737488355328 (some 5) (.t 12) (.t 13)),k 15 8,f 16 15 1,s 1 16 14]) (F [4,5] [m 17 1,o 18 (.len 1 (.t 17)),m 4 18,o 5 (.mv (.k .fU))])))
def abw:=h0 19 2 [0,1,4,5] [.tmp 4,.tmp 5] Fh
@[simp]def Re:=g [2,3] [b 2 0,b 3 1]
@[simp]def Rf:=d [14,15,16] [w 2 (L 9 2 5) 0 0,r 3 (f 10 2 2),r 4 (f 11 10 1),w 5 (l 12 11) 0 0,u 6 (C 13 188 9 12),w 0 (L 7 2 5) 0 1,r 1 (o 8 (.mkf 187 [.t 7] [])),u 7 (o 14 (.bsl 1 [.t 8,.t 13])),w 8 (n 15 14) 2 2,r 9 (K 16 0)] []
@[simp]def Rg:=g [17] [z 17 .lss 16 15]
@[simp]def Rh:=g [5] [a 18 14 16 1,l 19 18,m 5 19]
@[simp]def Ri:=g [20] [m 20 5]
@[simp]def ef:=g [6] [o 6 al0,s 4 6 21]
@[simp]def Rj:=g [25] [l 22 3,L 23 6 4,o 24 (.dyn (.t 22) [.t 23]),N 25 24]
def ek:=T 3 (S Rj (I 25 R W))
def Fi:=T 2 (.rf (.t 20) [21] ef ek)
def Fj:=T 1 (S Rh (S Ri Fi))
@[simp]def Rk:=g [16] [i 26 .add 16 1,m 16 26]
def xQ:=S Rg (S (I 17 W (X 0)) (S Fj Rk))
def Jw:=T 0 (M xQ)
def Rl:=S Re (S Rf Jw)
def abx:=h0 27 2 [0,1,2,3,5,6,14,15,16,17,20,21,25] [] Rl
@[simp]def TX:=g [2] [m 3 0,k 4 3,f 5 4 4,l 6 5,n 7 6,i 8 .gtr 7 0,m 9 8,mT 10 0 9,G 11 (.nck (.t 10)) 9 true,fT 12 11 8 9,fT 13 12 0 9,lT 14 13 9,nT 15 14 9,iT 16 .eql 15 0 9,y 17 9 16,m 2 17]
def aih:=S (g [2] [Z 2]) (S TX R)
def agB:=h 18 1 [0,2] [.tmp 2] aih
def xR:=S (g [9] [z 9 .lss 8 7]) (S (I 9 W (X 0)) (S (T 1 (S (g [5] [a 10 6 8 1,l 11 10,m 5 11]) (A [14] [m 12 5,m 13 3,z 14 .neq 12 13] 14 (F [2] [m 15 5,m 2 15]) W))) (g [8] [i 16 .add 8 1,m 8 16])))
def Wp:=S (g [2] [K 2 0]) (S (g [3] [K 3 0]) (S (S (g [6,7,8] [m 6 0,n 7 6,K 8 0]) (T 0 (M xR))) (F [2] [m 17 3,m 2 17])))
def aby:=h 18 1 [0,2,3,5,6,7,8,9,14] [.tmp 2] Wp
def Rm:=S (g [4] [K 4 0]) (S (g [5] [m 7 0,c 8 189 7,m 5 8]) (S (g [6] [m 9 1,c 10 189 9,m 6 10]) (S (A [11] [m 11 5] 11 (S (A [12] [m 12 6] 12 (F [4] [K 4 0]) W) (F [4] [K 4 (-1)])) W) (S (A [13] [m 13 6] 13 (F [4] [K 4 1]) W) (S (A [16] [m 14 0,m 15 1,z 16 .lss 14 15] 16 (F [4] [K 4 (-1)]) W) (S (A [19] [m 17 0,m 18 1,z 19 .gtr 17 18] 19 (F [4] [K 4 1]) W) (F [4] [K 4 0])))))))
def abz:=h 20 2 [0,1,4,5,6,11,12,13,16,19] [.tmp 4] Rm
def Rn:=S (g [4] [K 4 0]) (S (g [5] [m 7 0,c 8 190 7,m 5 8]) (S (g [6] [m 9 1,c 10 190 9,m 6 10]) (S (A [11] [m 11 5] 11 (S (A [12] [m 12 6] 12 (F [4] [K 4 0]) W) (F [4] [K 4 (-1)])) W) (S (A [13] [m 13 6] 13 (F [4] [K 4 1]) W) (S (A [16] [m 14 0,m 15 1,z 16 .lss 14 15] 16 (F [4] [K 4 (-1)]) W) (S (A [19] [m 17 0,m 18 1,z 19 .gtr 17 18] 19 (F [4] [K 4 1]) W) (F [4] [K 4 0])))))))
def abA:=h 20 2 [0,1,4,5,6,11,12,13,16,19] [.tmp 4] Rn
def nM:=S (g [9] [z 9 .lss 8 7]) (S (I 9 W (X 0)) (S (T 1 (S (g [5] [m 10 8,m 5 10]) (A [16] [m 11 1,m 12 0,m 13 5,a 14 12 13 5,L 15 14 5,o 16 (.dyn (.t 11) [.t 15])] 16 (F [4] [m 17 5,m 4 17]) W))) (g [8] [i 18 .add 8 1,m 8 18])))
def Ro:=S (g [4] [K 4 0]) (S (S (g [7,8] [m 6 0,n 7 6,K 8 0]) (T 0 (M nM))) (F [4] [K 4 (-1)]))
def abB:=h 19 2 [0,1,4,5,7,8,9,16] [.tmp 4] Ro
@[simp]def Rp:=g [26] [m 21 5,o 22 (.bin false .gtr (.t 21) (.k (.int .u64 0))),m 23 22,mF 24 6 23,G 25 (.bin false .gtr (.t 24) (.k (.int .u64 9223372036854775807))) 23 false,Y 26 23 25]
def xS:=S (A [37] [m 34 8,m 35 7,n 36 35,z 37 .lss 34 36] 37 W (X 0)) (T 1 (d [8] [r 1 (m 39 7),r 2 (m 40 8),r 3 (o 41 (.slc (.t 39) (some (.t 40)) none none 1)),r 4 (m 42 7),r 5 (m 43 8),r 6 (o 44 (.slc (.t 42) none (some (.t 43)) none 1)),u 7 (o 45 (.cpy 1 (.t 41) (.t 44))),r 0 (m 38 8)] [z 46 .add 38 45,m 8 46]))
def Mq:=S (g [4] [Q 4]) (S (A [10] [m 9 1,i 10 .lss 9 0] 10 (g [] [o 11 .bad,e .bad]) W) (S (g [5,6] [m 13 0,n 14 13,o 15 (.cnv .u64 (.t 14)),m 16 1,o 17 (.cnv .u64 (.t 16)),C 18 191 15 17,m 12 18,x 19 12 0,x 20 12 1,m 5 19,m 6 20]) (S (S Rp (I 26 (g [] [o 27 .bad,e .bad]) W)) (S (g [7] [m 28 6,o 29 (.cnv .i64 (.t 28)),o 30 (.mks 1 17592186044416 [.int .i64 0] (.t 29) (.t 29)),m 7 30]) (S (g [8] [m 31 7,m 32 0,o 33 (.cpy 1 (.t 31) (.t 32)),m 8 33]) (S (T 0 (M xS)) (F [4] [m 47 7,m 4 47])))))))
def abC:=h0 48 2 [0,1,4,5,6,7,8,10,26,37] [.tmp 4] Mq
def qY:=S (g [20] [z 20 .lss 19 18]) (S (I 20 W (X 0)) (S (T 1 (S (g [9] [a 21 17 19 5,L 22 21 5,o 9 al1,s 5 9 22]) (S (A [27] [l 23 1,f 24 9 4,l 25 24,a 26 23 25 1,l 27 26] 27 (g [] [e (.st 1 (.t 3) (.k (.bool true)))]) (A [33] [l 28 4,f 29 9 4,l 30 29,a 31 28 30 1,l 32 31,i 33 .lss 32 0] 33 (g [] [l 34 5,f 35 9 4,l 36 35,o 37 (.dyn (.t 34) [.t 36])]) W)) (A [38] [l 38 3] 38 R W)))) (g [19] [i 39 .add 19 1,m 19 39])))
def Rr:=S (g [] [l 10 1,m 11 0,a 12 10 11 1,e (.st 1 (.t 12) (.k (.bool true)))]) (S (S (g [17,18,19] [f 13 2 0,l 14 13,m 15 0,a 16 14 15 1,l 17 16,n 18 17,K 19 0]) (T 0 (M qY))) (d [] [w 5 (L 45 2 2) 0 0,r 6 (m 46 0),w 7 (l 47 4) 0 0,u 8 (J 48 184 45 46 47),w 4 (l 44 6) 0 1,u 9 (C 49 183 44 48),w 0 (l 40 1) 0 2,r 1 (m 41 0),r 10 (a 50 40 41 1),u 11 (e (.st 1 (.t 50) (.k (.bool false)))),w 2 (l 42 4) 0 3,r 3 (m 43 0)] [a 51 42 43 1,s 1 51 49]))
def abD:=h0 52 7 [0,1,2,3,4,5,6,9,17,18,19,20,27,33,38] [] Rr
def Jx:=S (g [4] [K 4 0]) (S (g [5,6] [m 8 0,m 9 1,o 10 (.lkp ⟨false,[2]⟩ (.t 8) (.t 9) (.int .i64 0) true),m 7 10,x 11 7 0,x 12 7 1,m 5 11,m 6 12]) (S (A [14] [m 13 6,N 14 13] 14 (S (g [5] [m 15 0,o 16 (.len 2 (.t 15)),m 5 16]) (g [] [m 17 0,m 18 1,m 19 5,e (.mup ⟨false,[2]⟩ (.t 17) (.t 18) (.t 19))])) W) (F [4] [m 20 5,m 4 20])))
def abE:=h0 21 2 [0,1,4,5,6,14] [.tmp 4] Jx
def xT:=S (g [50] [z 50 .lss 49 48]) (S (I 50 W (X 2)) (S (T 3 (S (g [11] [a 51 47 49 1,l 52 51,m 11 52]) (S (g [] [o 53 (.call 87 [.t 7,.k (.int .u8 32)])]) (g [] [m 54 11,c 55 185 54,C 56 174 7 55])))) (g [49] [i 57 .add 49 1,m 49 57])))
def xU:=S (g [26] [z 26 .lss 25 24]) (S (I 26 W (X 0)) (S (T 1 (S (g [9] [a 27 23 25 5,L 28 27 5,o 9 al1,s 5 9 28]) (S (d [47,48,49] [r 0 (f 29 9 0),r 1 (f 30 29 0),w 2 (l 31 30) 0 0,r 3 (f 32 9 0),r 4 (f 33 32 1),w 5 (l 34 33) 0 0,r 6 (f 35 9 0),r 7 (f 36 35 2),w 8 (l 37 36) 0 0,r 9 (o 38 (.cnv .i64 (.t 37))),r 10 (f 39 9 0),r 11 (f 40 39 3),w 12 (l 41 40) 0 0,r 13 (m 42 2),r 14 (f 43 9 4),w 15 (l 44 43) 0 0,r 16 (a 45 42 44 1),w 17 (l 46 45) 0 0,u 18 (o 47 (.bsl 1 [.t 31,.t 34,.t 38,.t 41,.t 46])),w 19 (n 48 47) 1 1,r 20 (K 49 0)] []) (T 2 (M xT))))) (g [25] [i 58 .add 25 1,m 25 58])))
def Wq:=S (g [3,6] [b 3 0,o 6 (.mv (.k (.str [])))]) (S (g [7] [o 7 (.alb 166 [.dE,.ah])]) (S (g [] [f 12 3 1,l 13 12,m 14 1,a 15 13 14 1,l 16 15,c 17 192 16,C 18 174 7 17]) (S (S (g [23,24,25] [f 19 3 0,l 20 19,m 21 1,a 22 20 21 1,l 23 22,n 24 23,K 25 0]) (T 0 (M xU))) (F [6] [c 59 88 7,m 6 59]))))
def abF:=h 60 3 [0,1,2,3,6,7,9,11,23,24,25,26,47,48,49,50] [.tmp 6] Wq
def Wr:=S (g [2] [o 2 (.mv (.k (.str [])))]) (F [2] [m 3 0,c 4 193 3,m 2 4])
def abG:=h 5 1 [0,2] [.tmp 2] Wr
def Fk:=S (g [5] [K 5 0]) (S (d [6,7] [w 0 (l 9 1) 0 0,w 1 (l 10 2) 0 0,r 2 (m 11 0),r 3 (a 12 10 11 1),w 4 (l 13 12) 0 0,w 5 (o 14 (.lkp ⟨false,[0]⟩ (.t 9) (.t 13) (.int .i64 0) true)) 0 0,r 6 (m 8 14),r 7 (x 15 8 0),r 8 (x 16 8 1),r 9 (m 6 15)] [m 7 16]) (S (A [18] [m 17 7,N 18 17] 18 (S (g [6] [l 19 3,n 20 19,m 6 20]) (S (d [] [w 0 (l 21 1) 0 0,w 1 (l 22 2) 0 0,r 2 (m 23 0),r 3 (a 24 22 23 1),w 4 (l 25 24) 0 0,r 5 (m 26 6)] [e (.mup ⟨false,[0]⟩ (.t 21) (.t 25) (.t 26))]) (g [] [l 27 3,m 28 0,q 29 1 28,p 30 1 17592186044416 27 29,s 1 3 30]))) W) (F [5] [m 31 6,m 5 31])))
def abH:=h0 32 4 [0,1,2,3,5,6,7,18] [.tmp 5] Fk
@[simp]def Ru:=g [15] [m 5 1,L 6 2 5,c 7 194 6,o 8 (.dyn (.t 5) [.t 7]),N 9 8,m 10 9,fF 11 2 2 10,fF 12 11 0 10,lF 13 12 10,NF 14 13 10,Y 15 10 14]
def xV:=S (g [20] [z 20 .lss 19 18]) (S (I 20 W (X 0)) (S (T 1 (S (g [4] [m 21 19,m 4 21]) (A [27] [m 22 1,L 23 2 5,m 24 4,C 25 195 23 24,o 26 (.dyn (.t 22) [.t 25]),N 27 26] 27 R W))) (g [19] [i 28 .add 19 1,m 19 28])))
def Jy:=S (g [2] [b 2 0]) (S (S Ru (I 15 R W)) (S (g [18,19] [f 16 2 2,f 17 16 1,l 18 17,K 19 0]) (T 0 (M xV))))
def abI:=h0 29 2 [0,1,2,4,15,18,19,20,27] [] Jy
def Ws:=S (g [2,3,4] [o 2 (.box (.t 0)),o 3 (.box (.t 1)),o 4 (.mv (.k .gY))]) (F [4] [o 5 (.mkf 196 [] [.t 2,.t 3]),m 4 5])
def abJ:=h 6 2 [0,1,2,3,4] [.tmp 4] Ws
def Wt:=S (g [2] [Z 2]) (F [2] [m 3 0,m 4 0,z 5 .neq 3 4,m 2 5])
def abK:=h 6 1 [0,2] [.tmp 2] Wt
def Wu:=S (g [2] [Z 2]) (F [2] [m 3 0,m 4 0,z 5 .neq 3 4,m 2 5])
def abL:=h 6 1 [0,2] [.tmp 2] Wu
def abM:=S (g [4,5] [o 4 (.mv (.k (.int .u64 0))),o 5 (.mv (.k (.int .u64 0)))]) (S (.cond (.k (.bool false)) (S (g [6,7] [m 11 0,o 12 (.cnv .u32 (.t 11)),m 13 1,o 14 (.cnv .u32 (.t 13)),C 15 198 12 14,m 10 15,x 16 10 0,x 17 10 1,m 6 16,m 7 17]) (F [4,5] [m 18 6,o 19 (.cnv .u64 (.t 18)),m 20 7,o 21 (.cnv .u64 (.t 20)),m 4 19,m 5 21])) W) (S (g [8,9] [m 23 0,m 24 1,C 25 199 23 24,m 22 25,x 26 22 0,x 27 22 1,m 8 26,m 9 27]) (F [4,5] [m 28 8,m 29 9,m 4 28,m 5 29])))
def f226:=h 30 2 [0,1,4,5,6,7,8,9] [.tmp 4,.tmp 5] abM
def Wv:=S (g [2] [o 2 (.mv (.k (.str [])))]) (F [2] [m 3 0,c 4 200 3,m 2 4])
def abN:=h 5 1 [0,2] [.tmp 2] Wv
def Ww:=S (g [2] [o 2 (.mv (.k (.str [])))]) (F [2] [m 3 0,o 4 (.call 201 [.t 3,.k (.int .i64 10)]),m 2 4])
def abO:=h 5 1 [0,2] [.tmp 2] Ww
def Wx:=S (g [1,2] [b 1 0,o 2 al0]) (F [] [f 3 1 0,l 4 3,f 5 1 1,l 6 5,o 7 (.build [.x (.t 4) 1,.x (.t 6) 1,.x (.k (.int .u8 1)) 1,.z [.int .i64 0]]),s 4 2 7])
def abP:=h 8 1 [0,1,2] [.cell 2 (some 4)] Wx
def Wy:=S (g [2,4] [b 2 0,o 4 al0]) (F [] [f 5 2 0,l 6 5,f 7 2 1,l 8 7,m 9 1,o 10 (.build [.x (.t 6) 1,.x (.t 8) 1,.x (.k (.int .u8 2)) 1,.x (.t 9) 1]),s 4 4 10])
def abQ:=h 11 2 [0,1,2,4] [.cell 4 (some 4)] Wy
@[simp]def Rv:=g [13] [f 5 1 4,l 6 5,m 7 6,mT 8 0 7,LT 9 1 5 7,G 10 (.call 197 [.t 9,.k (.int .i64 (-1))]) 7 true,G 11 (.dyn (.t 8) [.t 10]) 7 true,NT 12 11 7,y 13 7 12]
def qZ:=S (g [16] [z 16 .lss 15 14]) (S (I 16 W (X 0)) (S (T 1 (S (g [4] [m 17 15,m 4 17]) (A [23] [m 18 0,L 19 1 5,m 20 4,C 21 197 19 20,o 22 (.dyn (.t 18) [.t 21]),N 23 22] 23 R W))) (g [15] [i 24 .add 15 1,m 15 24])))
def Jz:=S (S Rv (I 13 R W)) (S (g [14,15] [l 14 2,K 15 0]) (T 0 (M qZ)))
def abR:=h0 25 3 [0,1,2,4,13,14,15,16,23] [] Jz
def Wz:=S (g [2,4] [b 2 0,o 4 al0]) (F [] [f 5 2 0,l 6 5,f 7 2 1,l 8 7,m 9 1,o 10 (.build [.x (.t 6) 1,.x (.t 8) 1,.x (.k (.int .u8 3)) 1,.x (.t 9) 1]),s 4 4 10])
def abS:=h 11 2 [0,1,2,4] [.cell 4 (some 4)] Wz
def abT:=S (g [4,5] [o 4 (.mv (.k (.int .u32 0))),o 5 (.mv (.k (.int .u32 0)))]) (S (g [6] [m 7 0,o 8 (.cnv .u64 (.t 7)),m 9 1,o 10 (.cnv .u64 (.t 9)),z 11 .mul 8 10,m 6 11]) (F [4,5] [m 12 6,o 13 (.bin false .shr (.t 12) (.k (.int .u64 32))),o 14 (.cnv .u32 (.t 13)),m 15 6,o 16 (.cnv .u32 (.t 15)),m 4 14,m 5 16]))
def abU:=h 17 2 [0,1,4,5,6] [.tmp 4,.tmp 5] abT
def abV:=S (g [4,5] [o 4 (.mv (.k (.int .u64 0))),o 5 (.mv (.k (.int .u64 0)))]) (S (g [6] [m 14 0,o 15 (.bin false .and (.t 14) (.k (.int .u64 4294967295))),m 6 15]) (S (g [7] [m 16 0,o 17 (.bin false .shr (.t 16) (.k (.int .u64 32))),m 7 17]) (S (g [8] [m 18 1,o 19 (.bin false .and (.t 18) (.k (.int .u64 4294967295))),m 8 19]) (S (g [9] [m 20 1,o 21 (.bin false .shr (.t 20) (.k (.int .u64 32))),m 9 21]) (S (g [10] [m 22 6,m 23 8,z 24 .mul 22 23,m 10 24]) (S (g [11] [m 25 7,m 26 8,z 27 .mul 25 26,m 28 10,o 29 (.bin false .shr (.t 28) (.k (.int .u64 32))),z 30 .add 27 29,m 11 30]) (S (g [12] [m 31 11,o 32 (.bin false .and (.t 31) (.k (.int .u64 4294967295))),m 12 32]) (S (g [13] [m 33 11,o 34 (.bin false .shr (.t 33) (.k (.int .u64 32))),m 13 34]) (S (g [12] [m 35 12,m 36 6,m 37 9,z 38 .mul 36 37,z 39 .add 35 38,m 12 39]) (S (g [4] [m 40 7,m 41 9,z 42 .mul 40 41,m 43 13,z 44 .add 42 43,m 45 12,o 46 (.bin false .shr (.t 45) (.k (.int .u64 32))),z 47 .add 44 46,m 4 47]) (F [5] [m 48 0,m 49 1,z 50 .mul 48 49,m 5 50])))))))))))
def abW:=h 51 2 [0,1,4,5,6,7,8,9,10,11,12,13] [.tmp 4,.tmp 5] abV
def WA:=S (g [2] [o 2 (.mv (.k (.str [])))]) (S (A [3] [m 3 0] 3 (F [2] [o 2 (.mv (.k (.str [116,114,117,101])))]) W) (F [2] [o 2 (.mv (.k (.str [102,97,108,115,101])))]))
def abX:=h 4 1 [0,2,3] [.tmp 2] WA
abbrev H:Tr HF:=.lf
abbrev D(f:HF):Tr HF:=.nd (some f) .lf .lf
abbrev E(f:HF)(l r:Tr HF):Tr HF:=.nd (some f) l r
abbrev B(l r:Tr HF):Tr HF:=.nd none l r
def Dh:Tr HF:=B (B (E f8 (E f33 (E f10 (E f75 (E aaC (D ajt) (D f226)) (E aaP (D ajw) H)) (B (B (D f170) H) (E aaX (D abx) H))) (B (E f78 (E f133 (D f168) (D abW)) (E aaS (D f200) H)) (E f90 (E aaK (D agz) H) (B (D abE) H)))) (E f38 (B (E f50 (E f60 (D aa9) (D abQ)) (B (D abq) H)) (E f84 (E aaG (D agv) H) (E f157 (D abA) H))) (E f71 (E f96 (E aaF (D abe) H) (E aaW (D f204) H)) (E f57 (E aaM (D abk) H) (E aa6 (D abI) H))))) (E f30 (E f34 (E f67 (E f46 (E aaE (D ajv) (D abO)) (B (D abp) H)) (B (B (D agt) H) (B (D aby) H))) (E f23 (E f9 H (E aaU (D f202) H)) (E aaz (E f137 (D abi) H) (E aa4 (D abG) H)))) (E f15 (B (E f62 (E f131 (D abb) (D abS)) (E aaQ (D abt) H)) (E f97 (E aaI (D agx) H) (E aa1 (D abC) H))) (E f69 (B H (B (D abv) H)) (E ajs (E aaO (D abm) H) (E agp (D abK) H)))))) (B (E f29 (E f32 (E f66 (E f68 (E aaD (D aju) (D abN)) (E f28 (D abo) H)) (B (E f82 (D f171) H) (E aaY (D agB) H))) (B (E f79 (E f134 (D f169) (D abX)) (E aaT (D f201) H)) (E f99 (B (D agA) H) (E aa3 (D abF) H)))) (E f31 (B (E f76 (E f130 (D aba) (D abR)) (B (D abr) H)) (E f85 (E aaH (D agw) H) (E aa0 (D abB) H))) (E f18 (B (B (D abf) H) (B (D abu) H)) (E f93 (E aaN (D abl) H) (E aa7 (D abJ) H))))) (B (E f37 (B (E f48 (E f59 (D aa8) (D abP)) (B (D f195) H)) (E f45 (E f86 (D agu) H) (E aaZ (D abz) H))) (E f70 (E f24 (B (D abd) H) (E aaV (D f203) H)) (E aaA (E aaL (D abj) H) (E aa5 (D abH) H)))) (E f39 (B (E f77 (E f132 (D abc) (D abU)) (E f113 (D f199) H)) (E f98 (E aaJ (D agy) H) (E aa2 (D abD) H))) (E f74 (B (B (D abg) H) (E agn (D abw) H)) (E aaB (E f142 (D abn) H) (E agq (D abL) H))))))
def prog(k:Nat):Option HF:=fI Dh k
abbrev P:=Go.Proofs.Tryz.prog
def vL:vl (λk F=>pq Go.Proofs.Tryz.prog k F=true) Dh:=Lx.get _ _ (by kernel_rfl)
end Go.Proofs.YtcfbbbjhnaienaaGreatDoor.K.Hm.U
namespace Go.Proofs.YtcfbbbjhnaienaaGreatDoor.K.Hm
open Go
def oF(p:aG):Prop:=∃n,∀m,n<=m->p m
def oF.of{p:aG}(h:∀m,p m):oF p:=⟨0,λm _=>h m⟩
def oF.mono{p q:aG}(h:oF p)(a:∀m,p m->q m):oF q:=let⟨n,h⟩:=h;⟨n,λm c=>a m (h m c)⟩
def oF.and{p q:aG}(h:oF p)(k:oF q):oF λm=>p m/\q m:=let⟨a,h⟩:=h;let⟨b,k⟩:=k;⟨max a b,λm c=>⟨h m (by omega),k m (by omega)⟩⟩
def Good:Out->Prop
 |.bad _=>False
 |_=>True
def Conv(F:Nat->Task->Out)(ih:Task->Out):Prop:=∀t o,ih t=o->Good o->oF λm=>F m t=o
section conv
variable{F:Nat->Task->Out}{ih:Task->Out}
def eE(K:Nat->En->HS->Out)(k:En->HS->Out):Prop:=∀e s o,k e s=o->Good o->oF λm=>K m e s=o
def Conv.val(j:Conv F ih){t:Task}{f:Nat->HV->HS->Out}{g:HV->HS->Out}{d:Nat}{o:Out}(n:∀v s o,g v s=o->Good o->oF λm=>f m v s=o)(h:(ih t).n4 g (.bad d)=o)(c:Good o):
  oF λm=>(F m t).n4 (f m) (.bad d)=o:=by
 cases a:ih t with|val v s=>rw[a]at h;exact((j t _ a trivial).and (n v s o h c)).mono λm ⟨p,q⟩=>by rw[p];exact q|code x e s=>rw[a]at h;subst h;exact c.elim|bad w=>rw[a]at h;subst h;exact c.elim
def Di(n:Conv F ih){K:Nat->En->HS->Out}{k:En->HS->Out}(c:eE K k)(op:aR)(e:En)(s:HS){o:Out}(h:one ih op e s k=o)(a:Good o):oF λm=>one (F m) op e s (K m)=o:=by
 unfold one at h ⊢;cases p:kU e op.g with
 |none=>rw[p]at h;subst h;exact a.elim
 |some q=>
  rw[p]at h;cases q with
  |false=>exact c _ _ _ h a
  |true=>simp only[bR]at h ⊢;cases j:dA op.op e s with|v v s'=>rw[j]at h;exact c _ _ _ h a|bad=>rw[j]at h;subst h;exact a.elim|call f l=>rw[j]at h;exact n.val (f:=λm v s'=>K m (e.put op.d v) s') (λv s o h a=>c _ _ _ h a) h a|round f l=>rw[j]at h;exact n.val (f:=λm v s'=>K m (e.put op.d v) s') (λv s o h a=>c _ _ _ h a) h a
def r8(a:Conv F ih){K:Nat->En->HS->Out}{k:En->HS->Out}(c:eE K k):∀(l:List aR),eE (λm=>mq (F m) (K m) l) (mq ih k l)
 |[]=>c
 |op::l=>λe s o h d=>Di a (r8 a c l) op e s h d
def Ac(hc:Conv F ih){K:Nat->En->HS->List HS->Out}{k:En->HS->List HS->Out}(hk:∀vs,eE (λm e s=>K m e s vs) (λe s=>k e s vs)):∀(l:List dY) (vs:List HS),eE (λm e s=>kV (F m) (K m) l e s vs) (λe s=>kV ih k l e s vs)
 |[],vs=>hk vs
 |d::l,vs=>λe s o h ho=>Di hc (K:=λm e' s'=>kV (F m) (K m) l e' s' (DK.rec (motive:=λ_=>List HS) vs (λ_ _=>vs) (vs++[s']) (vs++[s']) d.k)) (k:=λe' s'=>kV ih k l e' s' (DK.rec (motive:=λ_=>List HS) vs (λ_ _=>vs) (vs++[s']) (vs++[s']) d.k))
   (λe' s' o' c a=>Ac hc hk l _ e' s' o' c a) d.o e s h ho
def eE.same(k:En->HS->Out):eE (λ_=>k) k:=λ_ _ _ h _=>oF.of λ_=>h
def Dj(n:Conv F ih)(outs:az)(main:List dY)(a:List aR):eE (λm=>NV (F m) outs main a) (NV ih outs main a):=by
 intro g s o h j;refine Ac n (K:=λm e s' d=>gW (bV e d main) (mq (F m) (λf c=>.code .normal (ic outs f g) c) a e s') (.bad 14)) (k:=λe s' d=>gW (bV e d main) (mq ih (λf c=>.code .normal (ic outs f g) c) a e s') (.bad 14)) (λd e s' o h j=>?_) main [s] g s o h j;have h:gW (bV e d main) (mq ih (λf c=>.code .normal (ic outs f g) c) a e s') (.bad 14)=o:=h;show oF λm=>gW (bV e d main) (mq (F m) (λf c=>.code .normal (ic outs f g) c) a e s') (.bad 14)=o
 cases p:bV e d main with|false=>rw[p]at h;subst h;exact j.elim|true=>rw[p]at h;exact r8 n (eE.same _) a e s' o h j
def Ae(d:Conv F ih)(x:X)(ps:az)(gV body:HC):eE (λm=>lG (F m) x ps gV body) (lG ih x ps gV body):=by
 intro e s o h c;unfold lG at h
 split at h
 .rename_i f a b g
  split at h
  .rename_i v s2 j;refine(d _ _ j trivial).mono λm n=>?_
   show lG (F m) x ps gV body e s=o;unfold lG;rw[g];simp only[n];exact h
  subst h;exact c.elim
 subst h;exact c.elim
def gf{A:Nat->Out}{a:Out}{K:Nat->En->HS->Out}{k:En->HS->Out}(f:∀o,a=o->Good o->oF λm=>A m=o)(j:eE K k){o:Out}(h:a.cA k=o)(g:Good o):oF λm=>(A m).cA (K m)=o:=by
 cases c:a with
 |val v s=>rw[c]at h;subst h;exact(f _ c trivial).mono λm d=>by rw[d];rfl
 |bad w=>rw[c]at h;subst h;exact g.elim
 |code x e s=>rw[c]at h;cases x with|normal=>exact((f _ c trivial).and (j e s o h g)).mono λm ⟨n,p⟩=>by rw[n];exact p|ret=>subst h;exact(f _ c trivial).mono λm d=>by rw[d];rfl|exit i=>subst h;exact(f _ c trivial).mono λm d=>by rw[d];rfl
def Af{A B:Nat->En->HS->Out}{a b:En->HS->Out}(f:eE A a)(g:eE B b)(x:X):eE (λm e s=>bR (bw x e) (λv=>v.asBool (A m e s) (B m e s) (.bad 8)) (.bad 8)) (λe s=>bR (bw x e) (λv=>v.asBool (a e s) (b e s) (.bad 8)) (.bad 8)):=by
 intro e s o h c;have h:bR (bw x e) (λv=>v.asBool (a e s) (b e s) (.bad 8)) (.bad 8)=o:=h;show oF λm=>bR (bw x e) (λv=>v.asBool (A m e s) (B m e s) (.bad 8)) (.bad 8)=o
 cases d:bw x e with
 |none=>rw[d]at h;subst h;exact c.elim
 |some v=>
  rw[d]at h;cases v<;>first|(subst h;exact c.elim)|skip
  rename_i q;cases q with|true=>exact f e s o h c|false=>exact g e s o h c
def gE(i:Nat)(o:Out):Out:=Out.rec (motive:=λ_=>Out) (λ_ _=>.bad 9) (λx e' s'=>Ex.rec (motive:=λ_=>Out) (.code .normal e' s') (.code .ret e' s') (λj=>gW (Nat.beq i j) (.code .normal e' s') (.code (.exit j) e' s')) x) (λw=>.bad w) o
def Dk{A:Nat->En->HS->Out}{a:En->HS->Out}(f:eE A a)(i:Nat):eE (λm e s=>gE i (A m e s)) (λe s=>gE i (a e s)):=by
 intro e s o h d;have h:gE i (a e s)=o:=h;show oF λm=>gE i (A m e s)=o
 cases c:a e s with|val v s1=>rw[c]at h;subst h;exact d.elim|bad w=>rw[c]at h;subst h;exact d.elim|code x e1 s1=>rw[c]at h;exact(f e s _ c trivial).mono λm g=>by rw[g];exact h
def vM(q:Conv F ih):∀(c:HC),eE (λm=>ev (F m) c) (ev ih c):=by
 intro c
 induction c with|skip=>exact eE.same _|ret=>exact eE.same _|exit i=>exact eE.same _|seq a b d f=>exact λe s o h g=>gf (d e s) f h g|cond x a b d f=>exact Af d f x|block i c j=>exact Dk j i|loop c j=>exact λe s o h g=>gf (j e s) (λe s o h g=>q _ o h g) h g|rg outs l=>exact λe s o h g=>r8 q (eE.same _) l e s o h g|Li outs main p=>exact Dj q outs main p|rf x ps gV body _ _=>exact Ae q x ps gV body|K8 u=>exact eE.same _|OB t r n=>exact eE.same _|gh w=>exact eE.same _
def xW(q:Conv F ih):∀(c:HC),eE (λm=>bO (F m) c) (bO ih c):=by
 intro c
 induction c with|skip=>exact eE.same _|ret=>exact eE.same _|exit i=>exact eE.same _|seq a b d f=>exact λe s o h g=>gf (d e s) f h g|cond x a b d f=>exact Af d f x|block i c j=>exact Dk j i|loop c j=>exact λe s o h g=>gf (j e s) (λe s o h g=>q _ o h g) h g|rg outs l=>exact λe s o h g=>r8 q (eE.same _) l e s o h g|Li outs main p=>exact Dj q outs main p|rf x ps gV body _ _=>exact Ae q x ps gV body|K8 u=>exact eE.same _|OB t r n=>exact eE.same _|gh w=>exact eE.same _
def Ag(g:Conv F ih)(G:HF)(args:ai){v:HV}(h:kh G ih args=some v):oF λm=>kh G (F m) args=some v:=by
 unfold kh at h ⊢;cases f:Nat.beq (aM args) G.np with
 |false=>rw[f]at h;cases h
 |true=>
  rw[f]at h;simp only[gW]at h ⊢;cases a:bO ih G.c (bc args 0) s0 with
  |val v s=>rw[a]at h;cases h
  |bad w=>rw[a]at h;cases h
  |code x e s=>
   rw[a]at h;refine(xW g G.c _ _ _ a trivial).mono λm d=>?_
   have d:bO (F m) G.c (bc args 0) s0=.code x e s:=d;rw[d];exact h
def Fl(g:Conv F ih)(G:HF)(args:ai){v:HV}(h:kh G ih args=some v):oF λm=>gy G (F m) args=gy G ih args:=by
 unfold kh at h;unfold gy;cases f:Nat.beq (aM args) G.np with
 |false=>rw[f]at h;cases h
 |true=>
  rw[f]at h;simp only[gW]at h;cases a:bO ih G.c (bc args 0) s0 with
  |val v s=>rw[a]at h;cases h
  |bad w=>rw[a]at h;cases h
  |code x e s=>
   refine(xW g G.c _ _ _ a trivial).mono λm d=>?_
   have d:bO (F m) G.c (bc args 0) s0=.code x e s:=d;rw[d]
def zu(d:Conv F ih)(G:HF)(args:ai)(s:HS){o:Out}(h:cv G ih args s=o)(f:Good o):oF λm=>cv G (F m) args s=o:=by
 unfold cv at h ⊢;cases p:cI args with
 |true=>rw[p]at h;simp only[cond_true]at h ⊢;generalize(bif dv args then args else oH args)=a at h ⊢;cases c:kh G ih a with|none=>rw[c]at h;subst h;exact f.elim|some v=>rw[c]at h;exact(Ag d G a c).mono λm g=>by rw[g];exact h
 |false=>
  rw[p]at h;simp only[cond_false]at h ⊢
  split at h
  .rename_i l t q;cases c:kh G ih l with|none=>rw[c]at h;subst h;exact f.elim|some v=>rw[c]at h;have j:=Fl d G l c;exact((Ag d G l c).and j).mono λm ⟨g,n⟩=>by rw[g,n];exact h
  subst h;exact f.elim
def zv(j:Conv F ih)(G:HF)(args:ai)(s:HS){o:Out}(h:dO G ih args s=o)(d:Good o):oF λm=>dO G (F m) args s=o:=by
 unfold dO at h ⊢;cases g:Nat.beq (aM args) G.np with
 |false=>rw[g]at h;subst h;exact d.elim
 |true=>
  rw[g]at h;simp only[gW]at h ⊢;cases a:ev ih G.c (bc args 0) s with
  |val v s=>rw[a]at h;subst h;exact d.elim
  |bad w=>rw[a]at h;subst h;exact d.elim
  |code x e s'=>
   rw[a]at h;refine(vM j G.c _ _ _ a trivial).mono λm f=>?_
   have f:ev (F m) G.c (bc args 0) s=.code x e s':=f;rw[f];exact h
def xX(t:Conv F ih)(l:Ky)(args:ai)(s:HS){o:Out}(h:fB ih l args s=o)(d:Good o):oF λm=>fB (F m) l args s=o:=by
 unfold fB at h
 split at h
 case h_2=>subst h;exact d.elim
 rename_i z A e ps gV body p;cases hlen:Nat.beq (aM args) (aM ps)with
 |false=>rw[hlen]at h;subst h;exact d.elim
 |true=>
 rw[hlen,cond_true]at h
 split at h
 case h_2=>subst h;exact d.elim
 rename_i e1 s1 f
 split at h
 case h_2=>subst h;exact d.elim
 rename_i B u y g c a j;cases gw:Nat.beq B 0 with
 |false=>rw[gw]at h;subst h;exact d.elim
 |true=>
 rw[gw,cond_true]at h;cases n:ev ih body e1 (s1.aJ l (.loop 2 u y g c a))with
 |val v s=>rw[n]at h;subst h;exact d.elim
 |bad w=>rw[n]at h;subst h;exact d.elim
 |code x e2 s2=>
  rw[n]at h;refine((vM t gV _ _ _ f trivial).and (vM t body _ _ _ n trivial)).mono λm ⟨q,r⟩=>?_
  have q:ev (F m) gV (oK e ps args) s=.code .normal e1 s1:=q;have r:ev (F m) body e1 (s1.aJ l (.loop 2 u y g c a))=.code x e2 s2:=r;unfold fB;rw[p];simp only[hlen,cond_true,q,j,gw,r];exact h
def tM{L:jE}{P:Nat->Option HF}(g:Conv F ih)(t:Task){o:Out}(h:step L P ih t=o)(a:Good o):oF λm=>step L P (F m) t=o:=by
 cases t with
 |call f args s=>
  have h:rF L f args s (bG P ih f args s)=o:=h;show oF λm=>rF L f args s (bG P (F m) f args s)=o
  unfold rF at h ⊢;cases n:Nat.beq f L.dw with
  |true=>rw[n]at h;exact oF.of λ_=>h
  |false=>
  cases q:Nat.beq f L.str with
  |true=>rw[n,q]at h;exact oF.of λ_=>h
  |false=>
  cases u:Nat.beq f L.fmt with
  |true=>rw[n,q,u]at h;exact oF.of λ_=>h
  |false=>
   rw[n,q,u]at h;cases d:(bR L.ve (λt=>Nat.beq f t) false)with
   |true=>
    cases p:L.ve with
    |none=>rw[p]at d;cases d
    |some t=>rw[p]at h d;simp only[bR]at h d ⊢;rw[d]at h ⊢;exact oF.of λ_=>h
   |false=>
   have w:∀K:Out,bR L.ve (λt=>bif Nat.beq f t then lN args s else gz L f args s K) (gz L f args s K)=gz L f args s K:=by intro K;cases p:L.ve with|none=>rfl|some t=>rw[p]at d;simp only[bR]at d ⊢;rw[d];rfl
   simp only[cond_false]at h ⊢;rw[w]at h;simp only[w];rcases zI L f args s with r|⟨_,rfl,r⟩
   case inr=>simp only[r]at h ⊢;exact oF.of λ_=>h
   simp only[r]at h ⊢;have h:bG P ih f args s=o:=h;show oF λm=>bG P (F m) f args s=o
   unfold bG at h ⊢;cases y:P f with
   |none=>rw[y]at h;subst h;exact a.elim
   |some G=>
    rw[y]at h;have h:(bif G.pu then cv G ih args s else dO G ih args s)=o:=h;show oF λm=>(bif G.pu then cv G (F m) args s else dO G (F m) args s)=o
    cases j:G.pu with|true=>rw[j]at h;exact zu g G args s h a|false=>rw[j]at h;exact zv g G args s h a
 |round l args s=>exact xX g l args s h a
 |loop c e s=>exact gf (vM g c e s) (λe s o h a=>g _ o h a) h a
 |oJ c e s=>exact gf (xW g c e s) (λe s o h a=>g _ o h a) h a
end conv
section WB
variable{L:jE}{P:Nat->Option HF}
def JA(n:Nat)(t:Task)(h:Good (run L P n t)):run L P (n+1) t=run L P n t:=by
 induction n generalizing t with
 |zero=>exact h.elim
 |succ n ih=>
  have a:Conv (λ_=>run L P (n+1)) (run L P n):=λt o h c=>oF.of λ_=>by subst h;exact ih t c
  obtain⟨k,d⟩:=tM (L:=L) (P:=P) a t (o:=run L P (n+1) t) rfl h;exact d k (aV _)
def xY{n m:Nat}(a:n<=m){t:Task}(h:Good (run L P n t)):run L P m t=run L P n t:=by induction a with|refl=>rfl|step a ih=>rw[<-ih];exact JA _ t (by rw[ih];exact h)
open Classical in
def eH(L:jE)(P:Nat->Option HF)(t:Task):Out:=if h:∃n,Good (run L P n t)then run L P h.choose t else .bad 0
def BD{n:Nat}{t:Task}(h:Good (run L P n t)):eH L P t=run L P n t:=by
 have a:∃n,Good (run L P n t):=⟨n,h⟩;unfold eH;rw[dif_pos a];rcases Nat.le_total n a.choose with c|c
 .exact xY c h
 exact(xY c a.choose_spec).symm
def Dl:Conv (run L P) (eH L P):=by
 intro t o h a;subst h;unfold eH at a ⊢
 split at a
 .rename_i c;rw[dif_pos c];exact⟨c.choose,λm d=>xY d a⟩
 exact a.elim
def dm{t:Task}{o:Out}(h:step L P (eH L P) t=o)(a:Good o):eH L P t=o:=by obtain⟨n,d⟩:=tM Dl t h a;have c:run L P (n+1) t=o:=d n (aV _);rw[<-c];exact BD (by rw[c];exact a)
def xZ{t:Task}{o:Out}(h:eH L P t=o)(a:Good o):∃n,run L P n t=o:=by obtain⟨n,c⟩:=Dl t o h a;exact⟨n,c n (aV _)⟩
end WB
end Go.Proofs.YtcfbbbjhnaienaaGreatDoor.K.Hm
namespace Go.Proofs.YtcfbbbjhnaienaaGreatDoor.K.Hm.S
open Go
section
variable{R:Task->Out}{e:En}{s:HS}
@[simp]def WC:bO R .skip e s=.code .normal e s:=rfl
@[simp]def ZQ:bO R .ret e s=.code .ret e s:=rfl
@[simp]def WD{i:Nat}:bO R (.exit i) e s=.code (.exit i) e s:=rfl
@[simp]def Mr{a b:HC}:bO R (.seq a b) e s=(bO R a e s).cA (bO R b):=rfl
@[simp]def Ub{i:Nat}{c:HC}:bO R (.block i c) e s=gE i (bO R c e s):=rfl
@[simp]def abY{outs:az}{l:List aR}:bO R (.rg outs l) e s=mq R (λe' s'=>.code .normal (ic outs e' e) s') l e s:=rfl
@[simp]def ZR{outs:az}{m:List dY}{t:List aR}:bO R (.Li outs m t) e s=NV R outs m t e s:=rfl
@[simp]def abZ{x:X}{ps:az}{a b:HC}:bO R (.rf x ps a b) e s=lG R x ps a b e s:=rfl
@[simp]def ab0{k:az}:bO R (.gh k) e s=bR (canon k e s) (λp=>.code .normal p.1 p.2) (.bad 52):=rfl
@[simp]def ZS{k:az}:bO R (.K8 k) e s=bR (qt s e k) (λp=>.code .normal p.1 p.2) (.bad 50):=rfl
def Dm(v:bS)(a b:Out):Out:=bR v (λv=>v.asBool a b (.bad 8)) (.bad 8)
@[simp low]theorem Dn{x:X}{a b:HC}:bO R (.cond x a b) e s=Dm (bw x e) (bO R a e s) (bO R b e s):=rfl
@[simp]def ZT:ev R .skip e s=.code .normal e s:=rfl
@[simp]def ab1:ev R .ret e s=.code .ret e s:=rfl
@[simp]def ZU{i:Nat}:ev R (.exit i) e s=.code (.exit i) e s:=rfl
@[simp]def Fm{a b:HC}:ev R (.seq a b) e s=(ev R a e s).cA (ev R b):=rfl
@[simp]def lu{i:Nat}{c:HC}:ev R (.block i c) e s=gE i (ev R c e s):=rfl
@[simp]def agF{outs:az}{l:List aR}:ev R (.rg outs l) e s=mq R (λe' s'=>.code .normal (ic outs e' e) s') l e s:=rfl
@[simp]def ab2{outs:az}{m:List dY}{t:List aR}:ev R (.Li outs m t) e s=NV R outs m t e s:=rfl
@[simp]def WE{x:X}{ps:az}{a b:HC}:ev R (.rf x ps a b) e s=lG R x ps a b e s:=rfl
@[simp low]theorem vO{x:X}{a b:HC}:ev R (.cond x a b) e s=Dm (bw x e) (ev R a e s) (ev R b e s):=rfl
@[simp]def nN{b:Bool}{x y:Out}:Dm (some (.bool b)) x y=if b=true then x else y:=by cases b<;>rfl
@[simp]def jZ{f:En->HS->Out}:(Out.code .normal e s).cA f=f e s:=rfl
@[simp]def Ms{f:En->HS->Out}:(Out.code .ret e s).cA f=.code .ret e s:=rfl
@[simp]def Lb{i:Nat}{f:En->HS->Out}:(Out.code (.exit i) e s).cA f=.code (.exit i) e s:=rfl
@[simp]def Rw{i:Nat}:gE i (.code .normal e s)=.code .normal e s:=rfl
@[simp]def ZV{i:Nat}:gE i (.code .ret e s)=.code .ret e s:=rfl
@[simp]def WG{i j:Nat}:gE i (.code (.exit j) e s)=if i=j then .code .normal e s else .code (.exit j) e s:=by
 show(Bool.rec (motive:=λ_=>Out) (Out.code (.exit j) e s) (.code .normal e s) (Nat.beq i j))=_;by_cases h:i=j
 .subst h;simp
 have:Nat.beq i j=false:=by cases hb:Nat.beq i j with|false=>rfl|true=>exact absurd (n5 hb) h
 rw[this,ar h]
@[simp]def ZW{p:Prop}[Decidable p]{x y:Out}{i:Nat}:gE i (if p then x else y)=if p then gE i x else gE i y:=by split<;>rfl
@[simp]def Uc{β:Type}{v:HV}{f:HV->HS->β}{d:β}:(Out.val v s).n4 f d=f v s:=rfl
@[simp]def dP{α β:Type}{a:α}{f:α->β}{d:β}:bR (some a) f d=f a:=rfl
@[simp]def IF{α β:Type}{f:α->β}{d:β}:bR none f d=d:=rfl
@[simp]def JB{β:Type}{b:Bool}{x y:β}:gW b x y=if b=true then x else y:=by cases b<;>rfl
def cR(a b:Nat):Nat.beq a b=decide (a=b):=by rw[qy];simp
def cd(a b:Nat):Nat.ble a b=decide (a<=b):=by rw[qy];simp[Nat.ble_eq]
def r9(a b:Nat):Nat.blt a b=decide (a<b):=by show Nat.ble (a+1) b=_;rw[cd];rfl
@[simp]def Mt(a b:Nat):Nat.add a b=a+b:=rfl
@[simp]def ZX(a b:Nat):Nat.mul a b=a*b:=rfl
@[simp]def CB{n:Nat}:bw (.t n) e=look e n:=rfl
@[simp]def NW{v:HV}:bw (.k v) e=some v:=rfl
@[simp]def WH{k:Nat}:look .nil k=none:=rfl
@[simp]def ei{n k:Nat}{v:HV}{r:En}:look (.cons n v r) k=if n=k then some v else look r k:=by show(Bool.rec (motive:=λ_=>bS) (look r k) (some v) (Nat.beq n k))=_;rw[cR];by_cases h:n=k<;>simp[h]
@[simp]def ZY{k:Nat}{x:HV}:En.oE .nil k x=.cons k x .nil:=rfl
@[simp]def JC{n k:Nat}{v x:HV}{r:En}:(En.cons n v r).oE k x=if n=k then .cons n x r else .cons n v (r.oE k x):=by show(Bool.rec (motive:=λ_=>En) (En.cons n v (r.oE k x)) (.cons n x r) (Nat.beq n k))=_;rw[cR];by_cases h:n=k<;>simp[h]
@[simp]def rG{n k:Nat}{x:HV}:look (e.oE n x) k=if n=k then some x else look e k:=by
 induction e with
 |nil=>simp
 |cons m v r ih=>
  rw[JC];by_cases h:m=n
  .subst h;simp only[bp,ei];split<;>rfl
  simp only[h,bD,ei,ih];by_cases a:m=k
  .subst a;simp[jY h]
  simp[a]
@[simp]def WJ{n:Nat}{v:HV}:e.put (some n) v=.cons n v e:=rfl
@[simp]def WK{v:HV}:e.put none v=e:=rfl
@[simp]def Ud{l:En}:ic [] l e=e:=rfl
@[simp]def Rx{n:Nat}{outs:az}{l:En}:ic (n::outs) l e=ic outs l (bR (look l n) (λv=>e.oE n v) e):=rfl
@[simp]def Ue{i:Nat}:bc [] i=.nil:=rfl
@[simp]def Ry{v:HV}{l:ai}{i:Nat}:bc (v::l) i=.cons i v (bc l (i+1)):=rfl
@[simp]def WL:gx [] e=some []:=rfl
@[simp]def pZ{x:X}{l:List X}:gx (x::l) e=bR (bw x e) (λv=>bR (gx l e) (λl=>some (v::l)) none) none:=rfl
def ya(R:Task->Out)(d:bL)(e:En)(s:HS)(K:En->HS->Out)(r:cX):Out:=match r with|.v v s'=>K (e.put d v) s'|.call f l=>(R (.call f l s)).n4 (λv s'=>K (e.put d v) s') (.bad 1)|.round f l=>(R (.round f l s)).n4 (λv s'=>K (e.put d v) s') (.bad 2)|.bad=>.bad 3
@[simp]def ab3{d:bL}{K:En->HS->Out}{v:HV}{s':HS}:ya R d e s K (.v v s')=K (e.put d v) s':=rfl
@[simp]def Uf{d:bL}{K:En->HS->Out}{f:Nat}{l:ai}:ya R d e s K (.call f l)=(R (.call f l s)).n4 (λv s'=>K (e.put d v) s') (.bad 1):=rfl
@[simp]def Rz{d:bL}{K:En->HS->Out}{f:Ky}{l:ai}:ya R d e s K (.round f l)=(R (.round f l s)).n4 (λv s'=>K (e.put d v) s') (.bad 2):=rfl
def WM(v:bS)(b:Bool)(x y:Out):Out:=match v with|some (.bool q)=>if q=b then x else y|some .undef=>y|_=>.bad 4
@[simp]def mJ{q b:Bool}{x y:Out}:WM (some (.bool q)) b x y=if q=b then x else y:=rfl
@[simp]def Ah{b:Bool}{x y:Out}:WM (some .undef) b x y=y:=rfl
@[simp]def ZZ{K:En->HS->Out}:mq R K [] e s=K e s:=rfl
@[simp]def WN{K:En->HS->Out}{d:bL}{op:lL}{l:List aR}:mq R K (⟨d,op,none⟩::l) e s=ya R d e s (mq R K l) (dA op e s):=by show one R ⟨d,op,none⟩ e s (mq R K l)=_;unfold one;have a:kU e (aR.mk d op none).g=some true:=rfl;rw[a];show cX.rec (motive:=λ_=>Out) _ _ _ _ (dA op e s)=_;cases dA op e s<;>rfl
def Gs{K:En->HS->Out}{d:bL}{op:lL}{t:Nat}{b:Bool}{l:List aR}:mq R K (⟨d,op,some (t,b)⟩::l) e s=WM (look e t) b (ya R d e s (mq R K l) (dA op e s)) (mq R K l (e.put d .undef) s):=by
 show one R ⟨d,op,some (t,b)⟩ e s (mq R K l)=_;unfold one;have a:kU e (aR.mk d op (some (t,b))).g=match look e t with|some (.bool q)=>some (q==b)|some .undef=>some false|_=>none:=rfl
 rw[a];cases look e t with
 |none=>rfl
 |some v=>
  cases v<;>try rfl
  rename_i q;show Bool.rec (motive:=λ_=>Out) _ _ (q==b)=_;by_cases h:q=b
  .subst h;rw[show(q==q)=true by simp,mJ,au rfl];show cX.rec (motive:=λ_=>Out) _ _ _ _ (dA op e s)=_;cases dA op e s<;>rfl
  rw[mJ,ar h,show(q==b)=false by cases q<;>cases b<;>simp_all]
@[simp]def ab4{K:En->HS->Out}{d:bL}{op:lL}{t:Nat}{b:Bool}{l:List aR}(h:look e t=some (.bool b)):mq R K (⟨d,op,some (t,b)⟩::l) e s=ya R d e s (mq R K l) (dA op e s):=by rw[Gs,h,mJ,au rfl]
@[simp]def ab5{K:En->HS->Out}{d:bL}{op:lL}{t:Nat}{b:Bool}{l:List aR}(h:look e t=some (.bool !b)):mq R K (⟨d,op,some (t,b)⟩::l) e s=mq R K l (e.put d .undef) s:=by rw[Gs,h,mJ,ar (by cases b<;>simp)]
@[simp]def ab6{K:En->HS->Out}{d:bL}{op:lL}{t:Nat}{b:Bool}{l:List aR}(h:look e t=some .undef):mq R K (⟨d,op,some (t,b)⟩::l) e s=mq R K l (e.put d .undef) s:=by rw[Gs,h,Ah]
@[simp]def ab7{x:X}{a b:HC}(h:bw x e=some (.bool true)):bO R (.cond x a b) e s=bO R a e s:=by rw[Dn,h,nN,au rfl]
@[simp]def ab8{x:X}{a b:HC}(h:bw x e=some (.bool false)):bO R (.cond x a b) e s=bO R b e s:=by rw[Dn,h,nN,ar (by simp)]
@[simp]def agG{x:X}{a b:HC}(h:bw x e=some (.bool true)):ev R (.cond x a b) e s=ev R a e s:=by rw[vO,h,nN,au rfl]
@[simp]def agH{x:X}{a b:HC}(h:bw x e=some (.bool false)):ev R (.cond x a b) e s=ev R b e s:=by rw[vO,h,nN,ar (by simp)]
@[simp]def AR{v:HV}:rv s (some v)=.v v s:=rfl
@[simp]def Ln:rv s none=.bad:=rfl
@[simp]def ab9{p:Prop}[Decidable p]{x y:bS}:rv s (if p then x else y)=if p then rv s x else rv s y:=by split<;>rfl
@[simp]def cC{α:Type}(l:List α):aM l=l.length:=bK l
@[simp]def BE{α:Type}(l:List α)(k:Nat):zE l k=l[k]?:=wj l k
@[simp]def yb{α:Type}(n:Nat)(l:List α):gX n l=l.take n:=jJ n l
@[simp]def yc{α:Type}(n:Nat)(l:List α):iL n l=l.drop n:=mz n l
def cx{n:Int}(d: -9223372036854775808<=n)(c:n<9223372036854775808):bT .i64 n=n:=by
 cases n with
 |ofNat m=>
  have h:m<9223372036854775808:=by have:=c;simp only[ns]at this;omega
  have a:Nat.blt m 9223372036854775808=true:=by rw[r9];simpa using h
  show(bif Nat.blt m 9223372036854775808 then Int.ofNat m else _)=_;rw[a];rfl
 |negSucc m=>
  have h:m<9223372036854775808:=by omega
  have a:Nat.blt m 9223372036854775808=true:=by rw[r9];simpa using h
  show(bif Nat.blt m 9223372036854775808 then Int.negSucc m else _)=_;rw[a];rfl
def br{i n:Nat}(h:i<n)(a:n<=4611686018427387904):bT .i64 ((i:Int)+1)=(i:Int)+1:=cx (by omega) (by omega)
@[simp]def WQ(a b:Int):wg a b=a+b:=by cases a<;>cases b<;>rfl
@[simp]def WR(a b:Int):Iz a b=a-b:=by
 cases a with
 |negSucc=>rfl
 |ofNat a=>cases b with|negSucc=>rfl|ofNat b=>show(bif Nat.ble b a then Int.ofNat (a-b)else Int.negSucc (b-(a+1)))=_;rw[cd];by_cases h:b<=a<;>(simp[h];omega)
def sa(a b:Int):ni a b=decide (a=b):=by rw[qy,rH];simp
def pE(a b:Int):j9 a b=decide (a<=b):=by
 cases a with
 |ofNat a=>cases b with|ofNat b=>show Nat.ble a b=_;rw[cd];simp|negSucc b=>show false=_;symm;simp only[zV,ns];omega
 |negSucc a=>cases b with|ofNat b=>show true=_;symm;simp only[bY,ns];omega|negSucc b=>show Nat.ble b a=_;rw[cd];rw[qy];simp only[bY];omega
def sb(a b:az):qo a b=decide (a=b):=by rw[qy,oM];simp
@[simp]def aca{x:X}:dA (.mv x) e s=rv s (bw x e):=rfl
def N4(c:bS)(a b:cX):cX:=bR c (λv=>v.asBool a b .bad) .bad
@[simp]def Z0{q:Bool}{a b:cX}:N4 (some (.bool q)) a b=if q=true then a else b:=by cases q<;>rfl
@[simp]def WS{c a b:X}:dA (.pick c a b) e s=N4 (bw c e) (rv s (bw a e)) (rv s (bw b e)):=rfl
@[simp]def Ug{z:ai}:dA (.alloc z) e s=s.new z (λo=>.ptr o 0):=rfl
def WT(v:bS)(s:HS):cX:=bR v (λv=>bR (cellsOf v) (λl=>s.new l (λo=>.ptr o 0)) .bad) .bad
@[simp]def Z1{x:X}:dA (.box x) e s=WT (bw x e) s:=rfl
def WU(v:bS)(s:HS):cX:=bR v (λv=>bR (cellsOf v) (λl=>.v (.aw l) s) .bad) .bad
@[simp]def Z2{x:X}:dA (.fbx x) e s=WU (bw x e) s:=rfl
@[simp]def Uh{l:ai}:cellsOf (.agg l)=some l:=rfl
@[simp]def Ui{k:IntKind}{n:Int}:cellsOf (.int k n)=some [.int k n]:=rfl
@[simp]def RA{b:Bool}:cellsOf (.bool b)=some [.bool b]:=rfl
@[simp]def Uj{b:az}:cellsOf (.str b)=some [.str b]:=rfl
@[simp]def RB:cellsOf .ah=some [.ah]:=rfl
@[simp]def RC:cellsOf .dE=some [.dE]:=rfl
@[simp]def Uk{l:aP}:cellsOf (.psl l)=some [.psl l]:=rfl
@[simp]def RD{l:ai}:cellsOf (.aw l)=some [.aw l]:=rfl
@[simp]def WV{o:Ky}{a b c:Nat}:cellsOf (.sl o a b c)=some [.sl o a b c]:=rfl
@[simp]def Ul{o:Ky}{a:Nat}:cellsOf (.ptr o a)=some [.ptr o a]:=rfl
@[simp]def WW{o:Ky}:cellsOf (.mp o)=some [.mp o]:=rfl
@[simp]def WX{f:Nat}{a b:ai}:cellsOf (.fn f a b)=some [.fn f a b]:=rfl
@[simp]def Um{v:HV}:WU (some v) s=bR (cellsOf v) (λl=>.v (.aw l) s) .bad:=rfl
@[simp]def Un{v:HV}:WT (some v) s=bR (cellsOf v) (λl=>s.new l (λo=>.ptr o 0)) .bad:=rfl
@[simp]def RE:eJ e []=some []:=rfl
def Fo(v:bS)(n:Nat)(r:Option ai):Option ai:=match v with|some v=>(match cellsOf v,r with|some l,some m=>bif Nat.beq (aM l) n then some (l++m)else none|_,_=>none)|none=>none
@[simp]def WY{l:ai}{r:List Pc}:eJ e (.z l::r)=(eJ e r).map (l++ ·):=by rw[eJ];cases eJ e r<;>rfl
@[simp]def WZ{x:X}{n:Nat}{r:List Pc}:eJ e (.x x n::r)=Fo (bw x e) n (eJ e r):=rfl
@[simp]def N5{v:HV}{n:Nat}{m:ai}:Fo (some v) n (some m)=bR (cellsOf v) (λl=>if l.length=n then some (l++m)else none) none:=by
 show(match cellsOf v,some m with|some l,some m=>bif Nat.beq (aM l) n then some (l++m)else none|_,_=>none)=_;cases cellsOf v with
 |none=>rfl
 |some l=>
  show(bif Nat.beq (aM l) n then some (l++m)else none)=if l.length=n then some (l++m)else none
  rw[cC,cR];by_cases h:l.length=n<;>simp[h]
@[simp]def Uo{ps:List Pc}:dA (.build ps) e s=bR (eJ e ps) (λl=>.v (.agg l) s) .bad:=rfl
@[simp]def W0{n:Nat}:flat n []=some []:=rfl
@[simp]def Uq{n:Nat}{v:HV}{r:ai}:flat n (v::r)=Fo (some v) n (flat n r):=rfl
@[simp]def Ur{n:Nat}:jC n []=some []:=rfl
@[simp]def RG{n:Nat}{v:HV}{r:ai}:jC n (v::r)=bR (cellsOf v) (λl=>bR (jC n r) (λm=>if l.length=n then some (l::m)else none) none) none:=by
 rw[jC];cases cellsOf v with
 |none=>rfl
 |some l=>cases jC n r with|none=>rfl|some m=>simp[cR]
@[simp]def Z3{sz:Nat}{xs:List X}:dA (.bsl sz xs) e s=bR (gx xs e) (λl=>bR (flat sz l) (λm=>s.new m (λo=>.sl o 0 xs.length sz)) .bad) .bad:=by show bR (gx xs e) (λl=>bR (flat sz l) (λm=>s.new m (λo=>.sl o 0 (aM xs) sz)) .bad) .bad=_;rw[cC]
@[simp]def Z4{sz:Nat}{xs:List X}:dA (.fbl sz xs) e s=bR (gx xs e) (λl=>bR (jC sz l) (λm=>.v (.psl m) s) .bad) .bad:=rfl
def Z5(v:bS)(n:bL)(s:HS):cX:=bR v (λv=>v.kS (λo k=>rv s (s.load o k n)) (rv s (my v n))) .bad
@[simp]def acb{x:X}{n:bL}:dA (.ld x n) e s=Z5 (bw x e) n s:=rfl
@[simp]def Z6{o:Ky}{k:Nat}{n:bL}:Z5 (some (.ptr o k)) n s=rv s (s.load o k n):=rfl
@[simp]def acd{c:ai}{n:Nat}:Z5 (some (.aw c)) (some n) s=if n<=c.length then .v (.agg (c.take n)) s else .bad:=by show rv s (gW (Nat.ble n (aM c)) (some (.agg (gX n c))) none)=_;simp[cd]
@[simp]def ace{c:ai}:Z5 (some (.aw c)) none s=rv s c[0]?:=by show rv s (zE c 0)=_;rw[BE]
def qh(n:Nat)(p v:bS)(s:HS):cX:=bR p (λp=>p.kS (λo k=>bR v (λv=>bR (cellsOf v) (λl=>gW (Nat.beq (aM l) n) (bR (s.store o k l) (λs'=>.v .undef s') .bad) .bad) .bad) .bad) .bad) .bad
@[simp]def acf{n:Nat}{a x:X}:dA (.st n a x) e s=qh n (bw a e) (bw x e) s:=rfl
@[simp]def kD{n:Nat}{o:Ky}{k:Nat}{v:HV}:qh n (some (.ptr o k)) (some v) s=bR (cellsOf v) (λl=>if l.length=n then bR (s.store o k l) (λs'=>.v .undef s') .bad else .bad) .bad:=by show bR (cellsOf v) (λl=>gW (Nat.beq (aM l) n) (bR (s.store o k l) (λs'=>cX.v .undef s') .bad) .bad) cX.bad=_;simp[cR]
def faV(v:bS)(bj:Nat)(s:HS):cX:=bR v (λv=>v.kS (λo k=>.v (.ptr o (Nat.add k bj)) s) (rv s (faP v bj))) .bad
@[simp]def acg{x:X}{n:Nat}:dA (.fa x n) e s=faV (bw x e) n s:=rfl
@[simp]def Z7{o:Ky}{k n:Nat}:faV (some (.ptr o k)) n s=.v (.ptr o (k+n)) s:=rfl
@[simp]def agI{c:ai}{n:Nat}:faV (some (.aw c)) n s=if n<=c.length then .v (.aw (c.drop n)) s else .bad:=by show rv s (gW (Nat.ble n (aM c)) (some (.aw (iL n c))) none)=_;simp[cd]
def Fp(v i:bS)(sz:Nat)(s:HS):cX:=bR v (λv=>v.OC (λo bj len D4=>bR i (λq=>q.asInt (λ_ z=>Int.rec (motive:=λ_=>cX) (λn=>gW (Nat.blt n len) (gW (Nat.beq sz D4) (.v (.ptr o (Nat.add bj (Nat.mul n sz))) s) .bad) .bad) (λ_=>.bad) z) .bad) .bad) (rv s (T1 v i sz))) .bad
@[simp]def ach{x i:X}{sz:Nat}:dA (.ia x i sz) e s=Fp (bw x e) (bw i e) sz s:=rfl
@[simp]def W1{ak:aP}{k:IntKind}{n sz:Nat}:Fp (some (.psl ak)) (some (.int k (n:Int))) sz s=bR ak[n]? (λr=>if r.length=sz then .v (.aw r) s else .bad) .bad:=by show rv s (match zE ak n with|some r=>gW (Nat.beq (aM r) sz) (some (HV.aw r)) none|none=>none)=_;rw[BE];cases ak[n]?with|none=>rfl|some r=>simp[cR]
@[simp]def JD{o:Ky}{bj len a:Nat}{k:IntKind}{n sz:Nat}:Fp (some (.sl o bj len a)) (some (.int k (n:Int))) sz s=if n<len then if sz=a then .v (.ptr o (bj+n*sz)) s else .bad else .bad:=by show gW (Nat.blt n len) (gW (Nat.beq sz a) (cX.v (.ptr o (Nat.add bj (Nat.mul n sz))) s) .bad) .bad=_;simp[cR,r9]
@[simp]def aci{ak:aP}{k:IntKind}{sz:Nat}:Fp (some (.psl ak)) (some (.int k 0)) sz s=bR ak[0]? (λr=>if r.length=sz then .v (.aw r) s else .bad) .bad:=W1 (n:=0)
@[simp]def acj{o:Ky}{bj len a:Nat}{k:IntKind}{sz:Nat}:Fp (some (.sl o bj len a)) (some (.int k 0)) sz s=if 0<len then if sz=a then .v (.ptr o (bj+0*sz)) s else .bad else .bad:=JD (n:=0)
def vm(k:Nat)(v:bS)(s:HS):cX:=bR v (λv=>bR (Lj k s v) (λn=>.v (.int .i64 (.ofNat n)) s) .bad) .bad
@[simp]def Z8{k:Nat}{x:X}:dA (.len k x) e s=vm k (bw x e) s:=rfl
@[simp]def W2{l:aP}:vm 0 (some (.psl l)) s=.v (.int .i64 (l.length:Int)) s:=by show cX.v (.int .i64 (.ofNat (aM l))) s=_;rw[cC];rfl
@[simp]def Ut:vm 0 (some .ah) s=.v (.int .i64 0) s:=rfl
@[simp]def Z9{o:Ky}{a n c:Nat}:vm 0 (some (.sl o a n c)) s=.v (.int .i64 (n:Int)) s:=rfl
@[simp]def W3{l:az}:vm 1 (some (.str l)) s=.v (.int .i64 (l.length:Int)) s:=by show cX.v (.int .i64 (.ofNat (aM l))) s=_;rw[cC];rfl
def mj(c:Bool)(op:BinOp)(a b:bS)(s:HS):cX:=bR a (λa=>bR b (λb=>rv s (Ha c op a b)) .bad) .bad
@[simp]def δ{a:Bool}{op:BinOp}{x y:X}:dA (.bin a op x y) e s=mj a op (bw x e) (bw y e) s:=rfl
@[simp]def ε{k:IntKind}{a b:Int}:mj false .add (some (.int k a)) (some (.int k b)) s=.v (.int k (bT k (a+b))) s:=by show rv s (bif decide (k=k)then some (.int k (bT k (wg a b)))else none)=_;simp
@[simp]def ζ{k:IntKind}{a b:Int}:mj false .sub (some (.int k a)) (some (.int k b)) s=.v (.int k (bT k (a-b))) s:=by show rv s (bif decide (k=k)then some (.int k (bT k (Iz a b)))else none)=_;simp
@[simp]def η{k:IntKind}{a b:Int}:mj false .mul (some (.int k a)) (some (.int k b)) s=.v (.int k (bT k (a*b))) s:=by show rv s (bif decide (k=k)then some (.int k (bT k (a*b)))else none)=_;simp
@[simp]def θ{k:IntKind}{a b:Int}:mj false .eql (some (.int k a)) (some (.int k b)) s=.v (.bool (decide (a=b))) s:=by show rv s (bif decide (k=k)then some (.bool (ni a b))else none)=_;simp[sa]
@[simp]def ι{k:IntKind}{a b:Int}:mj false .neq (some (.int k a)) (some (.int k b)) s=.v (.bool (!decide (a=b))) s:=by show rv s (bif decide (k=k)then some (.bool (!ni a b))else none)=_;simp[sa]
@[simp]def κ{k:IntKind}{a b:Int}:mj false .lss (some (.int k a)) (some (.int k b)) s=.v (.bool (decide (a<b))) s:=by show rv s (bif decide (k=k)then some (.bool (!j9 b a))else none)=_;simp only[eV,cond_true,AR,pE];rw[show(!decide (b<=a))=decide (a<b) by by_cases h:a<b<;>simp[h]<;>omega]
@[simp]def μ{k:IntKind}{a b:Int}:mj false .leq (some (.int k a)) (some (.int k b)) s=.v (.bool (decide (a<=b))) s:=by show rv s (bif decide (k=k)then some (.bool (j9 a b))else none)=_;simp[pE]
@[simp]def ν{k:IntKind}{a b:Int}:mj false .gtr (some (.int k a)) (some (.int k b)) s=.v (.bool (decide (b<a))) s:=by show rv s (bif decide (k=k)then some (.bool (!j9 a b))else none)=_;simp only[eV,cond_true,AR,pE];rw[show(!decide (a<=b))=decide (b<a) by by_cases h:b<a<;>simp[h]<;>omega]
@[simp]def ξ{k:IntKind}{a b:Int}:mj false .geq (some (.int k a)) (some (.int k b)) s=.v (.bool (decide (b<=a))) s:=by show rv s (bif decide (k=k)then some (.bool (j9 b a))else none)=_;simp[pE]
@[simp]def W4{a b:Bool}:mj true .eql (some (.bool a)) (some (.bool b)) s=.v (.bool (a==b)) s:=rfl
@[simp]def W5{a b:Bool}:mj true .neq (some (.bool a)) (some (.bool b)) s=.v (.bool (a != b)) s:=rfl
@[simp]def W6{a b:az}:mj false .neq (some (.str a)) (some (.str b)) s=.v (.bool (!decide (a=b))) s:=by show rv s (some (.bool (!qo a b)))=_;rw[sb];rfl
def unR(op:UnOp)(v:bS)(s:HS):cX:=match v with
  |some (.bool b)=>(match op with|.not=>.v (.bool (!b)) s|_=>.bad)
  |some (.int k n)=>(match op with|.neg=>.v (.int k (bT k (0-n))) s|_=>.bad)
  |_=>.bad
@[simp]def ack{op:UnOp}{x:X}:dA (.un op x) e s=unR op (bw x e) s:=rfl
@[simp]def acm{b:Bool}:unR .not (some (.bool b)) s=.v (.bool (!b)) s:=rfl
@[simp]def acn{k:IntKind}{n:Int}:unR .neg (some (.int k n)) s=.v (.int k (bT k (0-n))) s:=rfl
@[simp]def π{g:Nat}{c cs:List X}:dA (.mkf g c cs) e s=bR (gx c e) (λa=>bR (gx cs e) (λb=>.v (.fn g a b) s) .bad) .bad:=rfl
def W8(v:bS)(i:Nat)(s:HS):cX:=bR v (λv=>v.NP (λl=>rv s (zE l i)) .bad) .bad
@[simp]def σ{x:X}{i:Nat}:dA (.ext x i) e s=W8 (bw x e) i s:=rfl
@[simp]def W9{l:ai}{i:Nat}:W8 (some (.cO l)) i s=rv s l[i]?:=by show rv s (zE l i)=_;rw[BE]
def RH(v:bS)(s:HS):cX:=bR v (λv=>v.kS (λo k=>.v (.ptr o k) s) (match v with|.aw c=>.v (.aw c) s|_=>.bad)) .bad
@[simp]def τ{x:X}:dA (.nck x) e s=RH (bw x e) s:=rfl
@[simp]def υ{o:Ky}{k:Nat}:RH (some (.ptr o k)) s=.v (.ptr o k) s:=rfl
@[simp]def Xa{c:ai}:RH (some (.aw c)) s=.v (.aw c) s:=rfl
def mmR(m:Bool)(a b:bS)(s:HS):cX:=match a,b with|some (.int k a),some (.int _ b)=>.v (.int k (bif m then(bif j9 a b then b else a)else(bif j9 a b then a else b))) s|_,_=>.bad
@[simp]def aco{m:Bool}{x y:X}:dA (.mm m x y) e s=mmR m (bw x e) (bw y e) s:=rfl
@[simp]def acp{k j:IntKind}{a b:Int}:mmR true (some (.int k a)) (some (.int j b)) s=.v (.int k (max a b)) s:=by
 show cX.v (.int k (bif true then(bif j9 a b then b else a)else(bif j9 a b then a else b))) s=_;rw[pE];by_cases h:a<=b
 .simp[h,Int.max_eq_right h]
 simp[h,Int.max_eq_left (Int.le_of_lt (Int.not_le.1 h))]
@[simp]def ajx{k j:IntKind}{a b:Int}:mmR false (some (.int k a)) (some (.int j b)) s=.v (.int k (min a b)) s:=by
 show cX.v (.int k (bif false then(bif j9 a b then b else a)else(bif j9 a b then a else b))) s=_;rw[pE];by_cases h:a<=b
 .simp[h,Int.min_eq_left h]
 simp[h,Int.min_eq_right (Int.le_of_lt (Int.not_le.1 h))]
@[simp]def Xb{f:Nat}{xs:List X}:dA (.call f xs) e s=bR (gx xs e) (λl=>.call f l) .bad:=rfl
def RI(v:bS)(l:Option ai):cX:=match v,l with|some (.fn f a b),some l=>.call f (a++l++b)|some (.iK r),some l=>.round r l|_,_=>.bad
@[simp]def φ{x:X}{xs:List X}:dA (.dyn x xs) e s=RI (bw x e) (gx xs e):=rfl
@[simp]def acq{f:Nat}{a b l:ai}:RI (some (.fn f a b)) (some l)=.call f (a++l++b):=rfl
@[simp]def χ{r:Ky}{l:ai}:RI (some (.iK r)) (some l)=.round r l:=rfl
def Xc(K:Kd)(neg:Bool)(a b:bS)(s:HS):cX:=match a,b with|some a,some b=>(match pW K a b with|some q=>.v (.bool (q != neg)) s|none=>.bad)|_,_=>.bad
@[simp]def ψ{K:Kd}{neg:Bool}{x y:X}:dA (.eqs K neg x y) e s=Xc K neg (bw x e) (bw y e) s:=rfl
@[simp]def Uu{K:Kd}{neg:Bool}{x y:HV}:Xc K neg (some x) (some y) s=bR (pW K x y) (λq=>.v (.bool (q != neg)) s) .bad:=by show(match pW K x y with|some q=>cX.v (.bool (q != neg)) s|none=>.bad)=_;cases pW K x y<;>rfl
def zx(k:Nat)(neg:Bool)(v:bS)(s:HS):cX:=bR v (λv=>bR (nY k v) (λq=>.v (.bool (q != neg)) s) .bad) .bad
@[simp]def ω{k:Nat}{neg:Bool}{x:X}:dA (.niq k neg x) e s=zx k neg (bw x e) s:=rfl
@[simp]def Xd{neg:Bool}:zx 3 neg (some .dE) s=.v (.bool (true != neg)) s:=rfl
@[simp]def Γ{neg:Bool}{o:Ky}{k:Nat}:zx 3 neg (some (.ptr o k)) s=.v (.bool (false != neg)) s:=rfl
@[simp]def Xe{neg:Bool}{c:ai}:zx 3 neg (some (.aw c)) s=.v (.bool (false != neg)) s:=rfl
end
@[simp]def Uv{e:En}{s:HS}:dF e s []=some []:=rfl
@[simp]def Uw{e:En}{s:HS}{n:Nat}{r:List Rs}:dF e s (.tmp n::r)=bR (look e n) (λv=>bR (dF e s r) (λl=>some (v::l)) none) none:=by
 rw[dF];cases look e n with
 |none=>rfl
 |some v=>cases dF e s r<;>rfl
def N6(v:bS)(s:HS)(sz:bL):bS:=match v with|some (.ptr o k)=>s.load o k sz|some (.aw c)=>my (.aw c) sz|_=>none
@[simp]def RJ{e:En}{s:HS}{n:Nat}{sz:bL}{r:List Rs}:dF e s (.cell n sz::r)=bR (N6 (look e n) s sz) (λv=>bR (dF e s r) (λl=>some (v::l)) none) none:=by
 rw[dF];cases look e n with
 |none=>rfl
 |some v=>
  cases v<;>try rfl
  .rename_i o k;show(match s.load o k sz,dF e s r with|some v,some l=>some (v::l)|_,_=>none)=bR (s.load o k sz) (λv=>bR (dF e s r) (λl=>some (v::l)) none) none;cases s.load o k sz with
   |none=>rfl
   |some v=>cases dF e s r<;>rfl
  rename_i c;show(match my (.aw c) sz,dF e s r with|some v,some l=>some (v::l)|_,_=>none)=bR (my (.aw c) sz) (λv=>bR (dF e s r) (λl=>some (v::l)) none) none;cases my (.aw c) sz with
  |none=>rfl
  |some v=>cases dF e s r<;>rfl
@[simp]def Ux{o:Ky}{k:Nat}{s:HS}{sz:bL}:N6 (some (.ptr o k)) s sz=s.load o k sz:=rfl
def ml:Option ai->HS->Out
 |some [v],s=>.val v s
 |some l,s=>.val (.cO l) s
 |none,_=>.bad 10
@[simp]def acr{v:HV}{s:HS}:ml (some [v]) s=.val v s:=rfl
@[simp]def acs{s:HS}:ml (some []) s=.val (.cO []) s:=rfl
@[simp]def acu{v w:HV}{l:ai}{s:HS}:ml (some (v::w::l)) s=.val (.cO (v::w::l)) s:=rfl
def ij(F:HF)(e:En)(s:HS):leave F e s=ml (dF e s F.rs) s:=by
 unfold leave ml
 split<;>simp_all
def Ai(o:Out):bS:=match o with
 |.val v s'=>(match vw s' 16 v with|some (a,_)=>some a|none=>none)
 |_=>none
def pF(a:List Rs)(o:Out):bS:=match o with|.code (.exit _) _ _=>none|.code _ e s=>Ai (ml (dF e s a) s)|_=>none
@[simp]def N7{a:List Rs}{e:En}{s:HS}:pF a (.code .normal e s)=Ai (ml (dF e s a) s):=rfl
@[simp]def Xf{a:List Rs}{e:En}{s:HS}:pF a (.code .ret e s)=Ai (ml (dF e s a) s):=rfl
def Gt(F:HF)(ih:Task->Out)(args:ai)(h:args.length=F.np):kh F ih args=pF F.rs (bO ih F.c (bc args 0) s0):=by
 unfold kh;rw[cC,h,cR];simp only[eV];show(match bO ih F.c (bc args 0) s0 with
  |.code (.exit _) _ _=>none
  |.code _ e s=>(match leave F e s with
   |.val v s'=>(match vw s' 16 v with|some (a,_)=>some a|none=>none)
   |_=>none)
  |_=>none)=_
 cases bO ih F.c (bc args 0) s0 with
 |val=>rfl
 |bad=>rfl
 |code x e s=>
  cases x<;>try rfl
  .show(match leave F e s with|.val v s'=>(match vw s' 16 v with|some (a,_)=>some a|none=>none)|_=>none)=_;rw[ij];rfl
  show(match leave F e s with|.val v s'=>(match vw s' 16 v with|some (a,_)=>some a|none=>none)|_=>none)=_;rw[ij];rfl
def vP{s:HS}{n:Nat}{v:HV}(h:eo v=true):vw s (n+1) v=some (v,[]):=by show(bif eo v then some (v,[])else _)=_;rw[h];rfl
def aa{s:HS}{v:HV}(h:eo v=true):Ai (.val v s)=some v:=by show(match vw s (15+1) v with|some (a,_)=>some a|none=>none)=_;rw[vP h]
section call
variable{L:jE}{prog:Nat->Option HF}
def qC(L:jE)(f:Nat):Bool:= !(Nat.beq f L.dw||Nat.beq f L.str||Nat.beq f L.fmt||(match L.ve with|some t=>Nat.beq f t|none=>false)||zi f L.Iu)
def gi{f:Nat}{args:ai}{s:HS}{K:Out}(h:qC L f=true):rF L f args s K=K:=by unfold qC at h;simp only[pf,yd]at h;obtain⟨⟨⟨⟨c,d⟩,g⟩,a⟩,j⟩:=h;unfold rF gz;rw[c,d,g,j];cases m:L.ve with|none=>rfl|some t=>rw[m]at a;simp only[cond_false,bR];rw[show Nat.beq f t=false from a];rfl
def pG(L:jE)(f:Nat):Bool:= !(Nat.beq f L.dw||Nat.beq f L.str||Nat.beq f L.fmt||(match L.ve with|some t=>Nat.beq f t|none=>false))
def ye{f:Nat}{r:ai}{l:aP}{s:HS}{K:Out}(h:pG L f=true):rF L f [.psl (r::l)] s K=K:=by
 unfold pG at h;simp only[pf,yd]at h;obtain⟨⟨⟨c,d⟩,g⟩,a⟩:=h;have j:gz L f [.psl (r::l)] s K=K:=by unfold gz;cases zi f L.Iu<;>rfl
 unfold rF;rw[c,d,g,j];cases m:L.ve with|none=>rfl|some t=>rw[m]at a;simp only[cond_false,bR];rw[show Nat.beq f t=false from a];rfl
def JE(f:Nat)(s:HS)(h:pG L f=true)(c:zi f L.Iu=true):eH L prog (.call f [.psl []] s)=.val (.psl []) s:=by refine dm ?_ trivial;show rF L f [.psl []] s _=_;unfold pG at h;simp only[pf,yd]at h;obtain⟨⟨⟨d,g⟩,j⟩,a⟩:=h;unfold rF gz;rw[d,g,j,c];cases m:L.ve with|none=>rfl|some t=>rw[m]at a;simp only[cond_false,bR];rw[show Nat.beq f t=false from a];rfl
def RK(f:Nat)(F:HF)(args:ai)(v:HV)(s:HS)(d:prog f=some F)(g:qC L f=true)(j:F.pu=true)(m:args.length=F.np)(a:dv args=true)(h:pF F.rs (bO (eH L prog) F.c (bc args 0) s0)=some v):
  eH L prog (.call f args s)=.val v s:=by
 refine dm ?_ trivial;show rF L f args s (bG prog (eH L prog) f args s)=_;rw[gi g];unfold bG;rw[d];simp only[bR,j,cond_true];unfold cv;rw[dU args a,cond_true,a,cond_true,Gt F _ _ m,h];rfl
def RL(f:Nat)(F:HF)(args:ai)(v:HV)(s s':HS)(d:prog f=some F)(g:qC L f=true)(j:F.pu=false)(m:args.length=F.np)(h:∃x e s1,ev (eH L prog) F.c (bc args 0) s=.code x e s1/\(x=.normal∨x=.ret)/\ml (dF e s1 F.rs) s1=.val v s'):
  eH L prog (.call f args s)=.val v s':=by
 refine dm ?_ trivial;show rF L f args s (bG prog (eH L prog) f args s)=_;rw[gi g];unfold bG;rw[d];simp only[bR,j,cond_false];unfold dO;rw[cC,m,cR];simp only[eV];obtain⟨x,e,s1,n,p,a⟩:=h;rw[n];rcases p with rfl|rfl
 .show leave F e s1=_;rw[ij];exact a
 show leave F e s1=_;rw[ij];exact a
def Mu(f:Nat)(F:HF)(r:ai)(l:aP)(v:HV)(s:HS)(d:prog f=some F)(g:pG L f=true)(j:F.pu=true)(m:1=F.np)(a:dv [.psl (r::l)]=true)(h:pF F.rs (bO (eH L prog) F.c (bc [.psl (r::l)] 0) s0)=some v):
  eH L prog (.call f [.psl (r::l)] s)=.val v s:=by
 refine dm ?_ trivial;show rF L f [.psl (r::l)] s (bG prog (eH L prog) f [.psl (r::l)] s)=_;rw[ye g];unfold bG;rw[d];simp only[bR,j,cond_true];unfold cv;rw[dU _ a,cond_true,a,cond_true,Gt F _ _ (show [HV.psl (r::l)].length=F.np from m),h];rfl
def Gu(f:Nat)(F:HF)(r:ai)(l:aP)(v:HV)(s s':HS)(d:prog f=some F)(g:pG L f=true)(j:F.pu=false)(m:1=F.np)(h:∃x e s1,ev (eH L prog) F.c (bc [.psl (r::l)] 0) s=.code x e s1/\(x=.normal∨x=.ret)/\ml (dF e s1 F.rs) s1=.val v s'):
  eH L prog (.call f [.psl (r::l)] s)=.val v s':=by
 refine dm ?_ trivial;show rF L f [.psl (r::l)] s (bG prog (eH L prog) f [.psl (r::l)] s)=_;rw[ye g];unfold bG;rw[d];simp only[bR,j,cond_false];unfold dO;rw[cC,show [HV.psl (r::l)].length=F.np from m,cR];simp only[eV];obtain⟨x,e,s1,n,p,a⟩:=h;rw[n];rcases p with rfl|rfl
 .show leave F e s1=_;rw[ij];exact a
 show leave F e s1=_;rw[ij];exact a
def RM(f:Nat)(s:HS)(h:L.ve=some f)(a:Nat.beq f L.dw=false)(c:Nat.beq f L.str=false)(d:Nat.beq f L.fmt=false):eH L prog (.call f [] s)=.val (.bool true) s:=by refine dm ?_ trivial;show rF L f [] s _=_;unfold rF;rw[a,c,d,h];simp[bR,lN]
def RN{c:HC}{e:En}{s:HS}{o:Out}(h:bO (eH L prog) (.loop c) e s=o)(a:Good o):eH L prog (.oJ c e s)=o:=dm h a
def yf{c:HC}{e:En}{s:HS}:bO (eH L prog) (.loop c) e s=(bO (eH L prog) c e s).cA (λe' s'=>eH L prog (.oJ c e' s')):=rfl
end call
@[simp]def Xg:dv []=true:=rfl
@[simp]def HU{v:HV}{r:ai}:dv (v::r)=(eo v&&dv r):=by rw[dv]
@[simp]def Δ{k:IntKind}{n:Int}:eo (.int k n)=true:=by simp[eo]
@[simp]def Xh{b:Bool}:eo (.bool b)=true:=by simp[eo]
@[simp]def Θ{b:az}:eo (.str b)=true:=by simp[eo]
@[simp]def Mw{l:ai}:eo (.agg l)=dv l:=by rw[eo]
@[simp]def Mx{l:ai}:eo (.cO l)=dv l:=by rw[eo]
@[simp]def Xi{l:ai}:eo (.aw l)=dv l:=by rw[eo]
@[simp]def Ξ{l:aP}:eo (.psl l)=eT l:=by rw[eo]
@[simp]def Xj:eo .dE=true:=by simp[eo]
@[simp]def RO{f:Nat}{a b:ai}:eo (.fn f a b)=(dv a&&dv b):=by rw[eo]
@[simp]def Uy:eT []=true:=rfl
@[simp]def RP{v:ai}{r:aP}:eT (v::r)=(dv v&&eT r):=by rw[eT]
def cD{α:Type}{f:α->ai}(h:∀x,dv (f x)=true)(l:List α):eT (l.map f)=true:=by induction l with|nil=>rfl|cons x r ih=>simp[h x,ih]
@[simp]def N8{a b:ai}:dv (a++b)=(dv a&&dv b):=by induction a with|nil=>simp|cons x r ih=>simp[ih,BF]
section tries
variable{α:Type}
@[simp]def acv{x:Option α}{t:Tr α}:av x .e t=.nd x (tl t) (tr t):=rfl
@[simp]def acw{x:Option α}{k:Ky}{t:Tr α}:av x (.z k) t=.nd (tv t) (av x k (tl t)) (tr t):=rfl
@[simp]def acx{x:Option α}{k:Ky}{t:Tr α}:av x (.o k) t=.nd (tv t) (tl t) (av x k (tr t)):=rfl
@[simp]def agJ:tl (.lf:Tr α)=.lf:=rfl
@[simp]def agK:tr (.lf:Tr α)=.lf:=rfl
@[simp]def agL:tv (.lf:Tr α)=none:=rfl
@[simp]def agM{v:Option α}{l r:Tr α}:tl (.nd v l r)=l:=rfl
@[simp]def agN{v:Option α}{l r:Tr α}:tr (.nd v l r)=r:=rfl
@[simp]def agO{v:Option α}{l r:Tr α}:tv (.nd v l r)=v:=rfl
@[simp]def Xk{k:Ky}:aj (.lf:Tr α) k=none:=rfl
@[simp]def Uz{v:Option α}{l r:Tr α}:aj (.nd v l r) .e=v:=rfl
@[simp]def UA{v:Option α}{l r:Tr α}{k:Ky}:aj (.nd v l r) (.z k)=aj l k:=rfl
@[simp]def UB{v:Option α}{l r:Tr α}{k:Ky}:aj (.nd v l r) (.o k)=aj r k:=rfl
@[simp]def acy:Ky.succ .e=.z .e:=rfl
@[simp]def acz{k:Ky}:Ky.succ (.z k)=.o k:=rfl
@[simp]def acA{k:Ky}:Ky.succ (.o k)=.z k.succ:=rfl
@[simp]def acB:Ky.beq .e .e=true:=rfl
@[simp]def acC{k:Ky}:Ky.beq .e (.z k)=false:=rfl
@[simp]def acD{k:Ky}:Ky.beq .e (.o k)=false:=rfl
@[simp]def acE{k:Ky}:Ky.beq (.z k) .e=false:=rfl
@[simp]def acF{k:Ky}:Ky.beq (.o k) .e=false:=rfl
@[simp]def acG{j k:Ky}:Ky.beq (.z j) (.z k)=Ky.beq j k:=rfl
@[simp]def acH{j k:Ky}:Ky.beq (.z j) (.o k)=false:=rfl
@[simp]def acI{j k:Ky}:Ky.beq (.o j) (.z k)=false:=rfl
@[simp]def acJ{j k:Ky}:Ky.beq (.o j) (.o k)=Ky.beq j k:=rfl
@[simp]def UC(x y:Option α)(k:Ky):∀t:Tr α,av x k (av y k t)=av x k t:=by induction k with|e=>intro t;rfl|z k ih=>intro t;simp[ih]|o k ih=>intro t;simp[ih]
@[simp]def tN(x:Option α)(k:Ky)(t:Tr α):aj (av x k t) k=x:=by rw[af,au rfl]
def Aj(x:Option α):∀(n k:Nat),k<n->nh x n k=nh x (k+1) k:=by
 intro n
 induction n using Nat.strongRecOn with
 |ind n ih=>
  intro k hk;cases n with
  |zero=>omega
  |succ n=>
   have he:∀m,nh x (m+1) k=Bool.rec (Bool.rec (.nd none .lf (nh x m ((k-1)/2))) (.nd none (nh x m (k/2)) .lf) (Nat.beq (k%2) 1)) (.nd x .lf .lf) (Nat.beq k 0):=λm=>rfl
   rw[he n,he k];by_cases h0:k=0
   .subst h0;rfl
   rw[show Nat.beq k 0=false by rw[cR];simp[h0]];have a:nh x n (k/2)=nh x k (k/2):=by rw[ih n (by omega) (k/2) (by omega),<-ih k (by omega) (k/2) (by omega)]
   have c:nh x n ((k-1)/2)=nh x k ((k-1)/2):=by rw[ih n (by omega) ((k-1)/2) (by omega),<-ih k (by omega) ((k-1)/2) (by omega)]
   rw[a,c]
def Gv(x:Option α)(k:Nat):jn x .lf k=nh x (k+1) k:=rfl
def nO(x:Option α)(t:Tr α)(k:Nat):jn x t k=if k=0 then .nd x (tl t) (tr t)else if k%2=1 then .nd (tv t) (jn x (tl t) (k/2)) (tr t)else .nd (tv t) (tl t) (jn x (tr t) ((k-1)/2)):=by
 cases t with
 |nd v l r=>
  show(Bool.rec (motive:=λ_=>Tr α) (Bool.rec (motive:=λ_=>Tr α) (.nd v l (jn x r ((k-1)/2))) (.nd v (jn x l (k/2)) r) (Nat.beq (k%2) 1)) (.nd x l r) (Nat.beq k 0))=_;rw[cR,cR];by_cases h0:k=0
  .simp[h0]
  by_cases a:k%2=1<;>simp[h0,a]
 |lf=>
  have he:jn x .lf k=(Bool.rec (motive:=λ_=>Tr α) (Bool.rec (motive:=λ_=>Tr α) (.nd none .lf (nh x k ((k-1)/2))) (.nd none (nh x k (k/2)) .lf) (Nat.beq (k%2) 1)) (.nd x .lf .lf) (Nat.beq k 0)):=rfl;rw[he,cR,cR];by_cases h0:k=0
  .simp[h0]
  have c:nh x k (k/2)=jn x .lf (k/2):=by rw[Gv];exact Aj x k (k/2) (by omega)
  have d:nh x k ((k-1)/2)=jn x .lf ((k-1)/2):=by rw[Gv];exact Aj x k ((k-1)/2) (by omega)
  rw[c,d];by_cases a:k%2=1<;>simp[h0,a]
def HW(x y:Option α)(k:Nat):∀t:Tr α,jn x (jn y t k) k=jn x t k:=by
 induction k using Nat.strongRecOn with
 |ind k ih=>
  intro t;rw[nO y,nO x _ k,nO x t k];by_cases h0:k=0
  .simp[h0]
  by_cases a:k%2=1
  .simp[h0,a,ih (k/2) (by omega)]
  simp[h0,a,ih ((k-1)/2) (by omega)]
def HX(x y:Option α)(k:Nat):∀(j:Nat) (t:Tr α),j≠k->jn x (jn y t j) k=jn y (jn x t k) j:=by
 induction k using Nat.strongRecOn with
 |ind k ih=>
  intro j t f;rw[nO y t j,nO x _ k,nO y _ j,nO x t k];by_cases h0:k=0
  .by_cases a:j=0
   .omega
   by_cases c:j%2=1<;>simp[h0,a,c]
  by_cases a:j=0
  .by_cases d:k%2=1<;>simp[h0,a,d]
  by_cases c:j%2=1<;>by_cases d:k%2=1
  .simp[h0,a,d,c,ih (k/2) (by omega) (j/2) _ (by omega)]
  .simp[h0,a,d,c]
  .simp[h0,a,d,c]
  simp[h0,a,d,c,ih ((k-1)/2) (by omega) ((j-1)/2) _ (by omega)]
end tries
def cP(l:ai):Tr HV:=dh l 0 .lf
def gR(v:HV)(l:ai)(k:Nat)(t:Tr HV):dh (v::l) k t=dh l (k+1) (jn (some v) t k):=rfl
def HY(l:ai):∀(k j:Nat) (v:HV) (t:Tr HV),j<k->dh l k (jn (some v) t j)=jn (some v) (dh l k t) j:=by induction l with|nil=>intro k j v t h;rfl|cons w l ih=>intro k j v t h;rw[gR,gR,HX _ _ k j t (by omega),ih (k+1) j v _ (by omega)]
def HZ(l:ai):∀(k j:Nat) (v:HV) (t:Tr HV),k<=j->j<k+l.length->jn (some v) (dh l k t) j=dh (l.set (j-k) v) k t:=by
 induction l with
 |nil=>intro k j v t c a;simp at a;omega
 |cons w l ih=>
  intro k j v t c a;by_cases h:j=k
  .subst h;rw[gR,<-HY _ _ _ _ _ (by omega),HW];simp[gR]
  rw[gR,ih (k+1) j v _ (by omega) (by simp at a;omega),show j-k=(j-(k+1))+1 by omega];simp[gR]
def Iv(l:ai)(j:Nat):ai->ai
 |[]=>l
 |v::r=>Iv (l.set j v) (j+1) r
@[simp]def Φ{l:ai}{j:Nat}:Iv l j []=l:=rfl
@[simp]def yg{l:ai}{j:Nat}{v:HV}{r:ai}:Iv l j (v::r)=Iv (l.set j v) (j+1) r:=rfl
def JF(new:ai):∀(l:ai) (j:Nat),j+new.length<=l.length->dh new j (cP l)=cP (Iv l j new):=by induction new with|nil=>intro l j h;rfl|cons v r ih=>intro l j h;simp only[aB]at h;rw[gR];show dh r (j+1) (jn (some v) (dh l 0 .lf) j)=_;rw[HZ l 0 j v .lf (by omega) (by omega)];exact ih (l.set j v) (j+1) (by simp;omega)
def JG(l:ai):∀(new:ai) (k:Nat) (t:Tr HV),dh new (k+l.length) (dh l k t)=dh (l++new) k t:=by induction l with|nil=>intro new k t;rfl|cons v l ih=>intro new k t;rw[gR,bo,gR,aB,show k+(l.length+1)=(k+1)+l.length by omega];exact ih new (k+1) _
def JH(l new:ai)(k:Nat)(h:k=l.length):dh new k (cP l)=cP (l++new):=by subst h;have:=JG l new 0 .lf;rw[bn]at this;exact this
@[simp]def sc{l:ai}{k:Nat}:fI (cP l) k=l[k]?:=by
 show fI (dh l 0 .lf) k=_;rw[fC];by_cases h:k<l.length
 .rw[au (by omega)];simp
 rw[ar (by omega),vx,qz (by omega)]
def My(t:Tr HV)(l:ai):∀(n k:Nat),(∀i,i<n->fI t (k+i)=l[k+i]?)->k+n<=l.length->mr t n k=some ((l.drop k).take n):=by
 intro n
 induction n with|zero=>intro k _ _;simp;rfl|succ n ih=>intro k h hl;have he:mr t (n+1) k=Option.rec none (λv=>Option.rec none (λl=>some (v::l)) (mr t n (k+1))) (fI t k):=rfl;have h0:=h 0 (by omega);rw[iB,aX (by omega)]at h0;rw[he,h0,ih (k+1) (λi hi=>by have:=h (i+1) (by omega);rwa[show k+(i+1)=k+1+i by omega]at this) (by omega)];show some (_::_)=_;rw[uv (show k<l.length by omega),List.take_succ_cons]
def JI{l:ai}{n k:Nat}(h:k+n<=l.length):mr (cP l) n k=some ((l.drop k).take n):=My _ _ _ _ (λi _=>sc) h
section mem
variable{s:HS}
@[simp]def wA{l:ai}{K:Ky->HV}:s.new l K=.v (K s.nx) {h:=av (some (.cells (cP l) 0 l.length s.nx)) s.nx s.h,nx:=s.nx.succ,gr:=av (some [s.nx]) s.nx s.gr,ty:=s.ty}:=by show cX.v (K s.nx) {h:=av (some (.cells (dh l 0 .lf) 0 (aM l) s.nx)) s.nx s.h,nx:=s.nx.succ,gr:=av (some [s.nx]) s.nx s.gr,ty:=s.ty}=_;rw[cC];rfl
def eN(b:Option Ob)(k:Nat):bS:=match b with|some (.cells t a c _)=>if a<=k then if k<c then fI t k else none else none|_=>none
@[simp]def yh{l:ai}{a c k:Nat}{g:Ky}:eN (some (.cells (cP l) a c g)) k=if a<=k then if k<c then l[k]?else none else none:=by show(if a<=k then if k<c then fI (cP l) k else none else none)=_;rw[sc]
@[simp]def BG{o:Ky}{k:Nat}:s.cell o k=eN (aj s.h o) k:=by
 unfold HS.cell eN;cases aj s.h o with
 |none=>rfl
 |some b=>cases b with|cells t c d g=>show gW (Nat.ble c k) (gW (Nat.blt k d) (fI t k) none) none=_;simp[cd,r9]|mp f=>rfl|loop j a m ps gV body=>rfl
def fQ(b:Option Ob)(k n:Nat):Option ai:=match b with|some (.cells t a c _)=>if a<=k then if k+n<=c then mr t n k else none else none|_=>none
def an{l:ai}{a c k n:Nat}{g:Ky}(d:a<=k)(f:k+n<=c)(h:k+n<=l.length):fQ (some (.cells (cP l) a c g)) k n=some ((l.drop k).take n):=by show(if a<=k then if k+n<=c then mr (cP l) n k else none else none)=_;rw[au d,au f,JI h]
@[simp]def gI{o:Ky}{k n:Nat}:s.bF o k n=fQ (aj s.h o) k n:=by
 unfold HS.bF fQ;cases aj s.h o with
 |none=>rfl
 |some b=>cases b with|cells t c d g=>show gW (Nat.ble c k) (gW (Nat.ble (Nat.add k n) d) (mr t n k) none) none=_;simp[cd]|mp f=>rfl|loop j a m ps gV body=>rfl
@[simp]def acK{o:Ky}{k:Nat}:s.load o k none=s.cell o k:=rfl
@[simp]def acL{o:Ky}{k n:Nat}:s.load o k (some n)=bR (s.bF o k n) (λl=>some (.agg l)) none:=rfl
def kG(s:HS)(b:Option Ob)(o:Ky)(k:Nat)(l:ai):Option HS:=match b with
 |some (.cells t a c g)=>if a<=k then if k+l.length<=c then(match aj s.gr g with|some d=>s.kT o k l t a c g d|none=>none)else none else none
 |_=>none
@[simp]def lv{o:Ky}{k:Nat}{l:ai}:s.store o k l=kG s (aj s.h o) o k l:=by
 unfold HS.store kG;cases aj s.h o with
 |none=>rfl
 |some b=>cases b with
  |cells t a c g=>show gW (Nat.ble a k) (gW (Nat.ble (Nat.add k (aM l)) c) (bR (aj s.gr g) (s.kT o k l t a c g) none) none) none=_;simp only[JB,cd,Mt,cC,bY];cases aj s.gr g<;>rfl
  |mp f=>rfl
  |loop j d m ps gV body=>rfl
def JJ(s:HS)(ms:Option cg)(o:Ky)(k:Nat)(l new:ai)(a c:Nat)(g:Ky):Option HS:=match ms with|some ms=>s.kT o k new (cP l) a c g ms|none=>none
def aq{o:Ky}{k:Nat}{l new:ai}{a c:Nat}{g:Ky}(d:a<=k)(f:k+new.length<=c):kG s (some (.cells (cP l) a c g)) o k new=JJ s (aj s.gr g) o k l new a c g:=by show(if a<=k then if k+new.length<=c then(match aj s.gr g with|some h=>s.kT o k new (cP l) a c g h|none=>none)else none else none)=_;rw[au d,au f];cases aj s.gr g<;>rfl
def aA{o m:Ky}{k:Nat}{l new:ai}{a c:Nat}{g:Ky}(h:k+new.length<=l.length):JJ s (some [m]) o k l new a c g=some {h:=av (some (.cells (cP (Iv l k new)) a c g)) o s.h,nx:=s.nx,gr:=s.gr,ty:=s.ty}:=by show some (HS.mk (av (some (.cells (dh new k (cP l)) a c g)) o s.h) s.nx s.gr s.ty)=_;rw[JF new l k h]
end mem
mutual
def yi:∀v:HV,fJ v v=true
 |.int k n=>by show(decide (k=k)&&ni n n)=true;simp[sa]
 |.bool b=>by show(b==b)=true;simp
 |.str l=>by show qo l l=true;simp[sb]
 |.ah=>rfl
 |.dE=>rfl
 |.gY=>rfl
 |.fS=>rfl
 |.fU=>rfl
 |.undef=>rfl
 |.ptr o k=>by show(o.beq o&&Nat.beq k k)=true;simp[Ky.beq_iff]
 |.sl o a b c=>by show(o.beq o&&Nat.beq a a&&Nat.beq b b&&Nat.beq c c)=true;simp[Ky.beq_iff]
 |.mp o=>by show o.beq o=true;simp[Ky.beq_iff]
 |.fn f a b=>by show(Nat.beq f f&&fJ.iM a a&&fJ.iM b b)=true;simp[iH a,iH b]
 |.iK o=>by show o.beq o=true;simp[Ky.beq_iff]
 |.agg l=>by show fJ.iM l l=true;exact iH l
 |.cO l=>by show fJ.iM l l=true;exact iH l
 |.aw l=>by show fJ.iM l l=true;exact iH l
 |.psl l=>by show fJ.qI l l=true;exact uI l
def iH:∀l:ai,fJ.iM l l=true
 |[]=>rfl
 |v::r=>by show(fJ v v&&fJ.iM r r)=true;rw[yi v,iH r];rfl
def uI:∀l:aP,fJ.qI l l=true
 |[]=>rfl
 |v::r=>by show(fJ.iM v v&&fJ.qI r r)=true;rw[iH v,uI r];rfl
end
section drawn
variable{R:Task->Out}{e:En}{s:HS}
def JK:DK->List HS->HS->List HS
 |.r,c,_=>c
 |.l _ _,c,_=>c
 |.a,c,s=>c++[s]
 |.e,c,s=>c++[s]
@[simp]def agP{vs:List HS}:JK .r vs s=vs:=rfl
@[simp]def agQ{vs:List HS}{a b:Nat}:JK (.l a b) vs s=vs:=rfl
@[simp]def agR{vs:List HS}:JK .a vs s=vs++[s]:=rfl
@[simp]def agS{vs:List HS}:JK .e vs s=vs++[s]:=rfl
def Xl{K:En->HS->Out}{d:bL}{op:lL}:one R ⟨d,op,none⟩ e s K=ya R d e s K (dA op e s):=WN (l:=[])
def Xm{K:En->HS->Out}{d:bL}{op:lL}{t:Nat}{b:Bool}:one R ⟨d,op,some (t,b)⟩ e s K=WM (look e t) b (ya R d e s K (dA op e s)) (K (e.put d .undef) s):=Gs (l:=[])
@[simp]def Xn{K:En->HS->List HS->Out}{vs:List HS}:kV R K [] e s vs=K e s vs:=rfl
def Ak{K:En->HS->List HS->Out}{vs:List HS}{i:Nat}{o:aR}{k:DK}{l:List dY}:kV R K (⟨i,o,k⟩::l) e s vs=one R o e s (λe' s'=>kV R K l e' s' (JK k vs s')):=by cases k<;>rfl
@[simp]def acM{K:En->HS->List HS->Out}{vs:List HS}{i:Nat}{d:bL}{op:lL}{k:DK}{l:List dY}:kV R K (⟨i,⟨d,op,none⟩,k⟩::l) e s vs=ya R d e s (λe' s'=>kV R K l e' s' (JK k vs s')) (dA op e s):=by rw[Ak,Xl]
def Fs{K:En->HS->List HS->Out}{vs:List HS}{i:Nat}{d:bL}{op:lL}{t:Nat}{b:Bool}{k:DK}{l:List dY}:kV R K (⟨i,⟨d,op,some (t,b)⟩,k⟩::l) e s vs=WM (look e t) b (ya R d e s (λe' s'=>kV R K l e' s' (JK k vs s')) (dA op e s)) (kV R K l (e.put d .undef) s (JK k vs s)):=by rw[Ak,Xm]
@[simp]def Ψ{K:En->HS->List HS->Out}{vs:List HS}{i:Nat}{d:bL}{op:lL}{t:Nat}{b:Bool}{k:DK}{l:List dY}(h:look e t=some (.bool b)):kV R K (⟨i,⟨d,op,some (t,b)⟩,k⟩::l) e s vs=ya R d e s (λe' s'=>kV R K l e' s' (JK k vs s')) (dA op e s):=by rw[Fs,h,mJ,au rfl]
@[simp]def Ω{K:En->HS->List HS->Out}{vs:List HS}{i:Nat}{d:bL}{op:lL}{t:Nat}{b:Bool}{k:DK}{l:List dY}(h:look e t=some (.bool !b)):kV R K (⟨i,⟨d,op,some (t,b)⟩,k⟩::l) e s vs=kV R K l (e.put d .undef) s (JK k vs s):=by rw[Fs,h,mJ,ar (by cases b<;>simp)]
@[simp]def aaa{K:En->HS->List HS->Out}{vs:List HS}{i:Nat}{d:bL}{op:lL}{t:Nat}{b:Bool}{k:DK}{l:List dY}(h:look e t=some .undef):kV R K (⟨i,⟨d,op,some (t,b)⟩,k⟩::l) e s vs=kV R K l (e.put d .undef) s (JK k vs s):=by rw[Fs,h,Ah]
@[simp]def acN{outs:az}{main:List dY}{a:List aR}:NV R outs main a e s=kV R (λe1 s' vs=>if bV e1 vs main=true then mq R (λe' c=>.code .normal (ic outs e' e) c) a e1 s' else .bad 14) main e s [s]:=by show kV R (λe1 s' vs=>gW (bV e1 vs main) (mq R (λe' c=>.code .normal (ic outs e' e) c) a e1 s') (.bad 14)) main e s [s]=_;simp only[JB]
def rdK(v:bS)(r:cX):Bool:=match v,r with|some v,.v u _=>fJ v u|_,_=>false
@[simp]def Xo{v:HV}:rdK (some v) (.v v s)=true:=yi v
@[simp]def aab{vs:List HS}:bV e vs []=true:=rfl
@[simp]def agT{vs:List HS}{i:Nat}{o:aR}{r:List dY}:bV e vs (⟨i,o,.r⟩::r)=bV e vs r:=by rw[bV];simp
@[simp]def agU{vs:List HS}{i:Nat}{o:aR}{r:List dY}:bV e vs (⟨i,o,.a⟩::r)=bV e vs r:=by rw[bV];simp
@[simp]def agV{vs:List HS}{i:Nat}{o:aR}{r:List dY}:bV e vs (⟨i,o,.e⟩::r)=bV e vs r:=by rw[bV];simp
def gdB(v:bS)(b:Bool)(x:Bool):Bool:=match v with|some (.bool q)=>if q=b then x else true|some .undef=>true|_=>false
@[simp]def Xp{q b x:Bool}:gdB (some (.bool q)) b x=if q=b then x else true:=rfl
@[simp]def UD{b x:Bool}:gdB (some .undef) b x=true:=rfl
@[simp]def agW{vs:List HS}{i a c:Nat}{d:bL}{op:lL}{r:List dY}:bV e vs (⟨i,⟨d,op,none⟩,.l a c⟩::r)=(iw ⟨d,op,none⟩ e (c-a) (vs.drop a)&&bV e vs r):=by rw[bV];rfl
@[simp]def acO{vs:List HS}{i a c t:Nat}{b:Bool}{d:bL}{op:lL}{r:List dY}:bV e vs (⟨i,⟨d,op,some (t,b)⟩,.l a c⟩::r)=(gdB (look e t) b (iw ⟨d,op,some (t,b)⟩ e (c-a) (vs.drop a))&&bV e vs r):=by
 rw[bV]
 congr 1
 have f:kU e (aR.mk d op (some (t,b))).g=match look e t with|some (.bool q)=>some (q==b)|some .undef=>some false|_=>none:=rfl
 show(match kU e (aR.mk d op (some (t,b))).g with|some true=>_|some false=>true|none=>false)=_;rw[f];cases look e t with
 |none=>rfl
 |some v=>
  cases v<;>try rfl
  rename_i q;cases q<;>cases b<;>rfl
@[simp]def aac{d:Nat}{op:lL}{g:Option (Nat×Bool)}{r:List HS}:iw ⟨some d,op,g⟩ e 0 (s::r)=rdK (look e d) (dA op e s):=by rw[iw];simp only[jL];cases look e d<;>cases dA op e s<;>rfl
@[simp]def aad{d:Nat}{op:lL}{g:Option (Nat×Bool)}{n:Nat}{r:List HS}:iw ⟨some d,op,g⟩ e (n+1) (s::r)=(rdK (look e d) (dA op e s)&&iw ⟨some d,op,g⟩ e n r):=by
 rw[iw]
 congr 1
end drawn
def eA(k:IntKind)(a b:Int):HV.zf (.int k a) (.int k b)=some (decide (a=b)):=by show(bif decide (k=k)then some (ni a b)else none)=_;simp[sa]
def JL(a b:Bool):HV.zf (.bool a) (.bool b)=some (a==b):=rfl
def Mz(a b:az):HV.zf (.str a) (.str b)=some (decide (a=b)):=by show some (qo a b)=_;rw[sb]
def dy(x y:HV)(r t:ai)(q a:Bool)(h:x.zf y=some q)(c:sQ r t=some a):sQ (x::r) (y::t)=some (q&&a):=by
 rw[sQ,h];cases q
 .rfl
 simp[c]
def ahd:sQ [] []=some true:=by rw[sQ]
def ahe(a:az)(l m:ai)(c:dt a l=true)(d:dt a m=true):pW ⟨true,a⟩ (.agg l) (.agg m)=sQ l m:=by show(bif true then(bif dt a l&&dt a m then sQ l m else none)else _)=_;rw[c,d];rfl
abbrev iV(n:Int):HV:=.int .i64 n
structure Mv where
 id:Int
 arg:Int
 kind:Int
 n:Int
 deriving DecidableEq,Inhabited
abbrev bE:=List Mv
structure Bs where
 cell:Bool
 n:Int
 deriving DecidableEq,Inhabited
abbrev se:=List Bs
structure Ty where
 ps:se
 res:Bs
 deriving DecidableEq,Inhabited
abbrev uJ:=List Ty
structure Ar where
 ids:uJ
 root:Bs
 jumps:Bool
 deriving DecidableEq,Inhabited
@[simp]def Mv.c(m:Mv):ai:=[.int .i64 m.id,.int .i64 m.arg,.int .u8 m.kind,.int .i64 m.n]
@[simp]def Bs.c(b:Bs):ai:=[.bool b.cell,.int .i64 b.n]
@[simp]def Ty.c(t:Ty):ai:=[.psl (t.ps.map Bs.c),.bool t.res.cell,.int .i64 t.res.n]
@[simp]def Ar.c(a:Ar):ai:=[.psl (a.ids.map Ty.c),.bool a.root.cell,.int .i64 a.root.n,.bool a.jumps]
@[simp]def qk(l:bE):eT (l.map Mv.c)=true:=cD (λx=>by simp) l
@[simp]def aae(l:se):eT (l.map Bs.c)=true:=cD (λx=>by simp) l
@[simp]def Gw(l:uJ):eT (l.map Ty.c)=true:=cD (λx=>by simp) l
def Sz(sz:Nat)(ak:aP):Prop:=∀r∈ak,r.length=sz
def Sz.nil{sz:Nat}:Sz sz []:=λ_ h=>by cases h
def Sz.cons{sz:Nat}{r:ai}{ak:aP}(h:r.length=sz)(c:Sz sz ak):Sz sz (r::ak):=by
 intro x a;rcases bk.1 a with rfl|a
 .exact h
 exact c x a
def Sz.append{sz:Nat}{a b:aP}(h:Sz sz a)(k:Sz sz b):Sz sz (a++b):=by
 intro x c;rcases l5.1 c with c|c
 .exact h x c
 exact k x c
def Sz.map{α:Type}{sz:Nat}{f:α->ai}(h:∀x,(f x).length=sz)(l:List α):Sz sz (l.map f):=by intro x a;obtain⟨y,_,rfl⟩:=cU.1 a;exact h y
@[simp]def gS:aD []=[]:=rfl
@[simp]def cj{r:ai}{ak:aP}:aD (r::ak)=r++aD ak:=rfl
@[simp]def kH{a b:aP}:aD (a++b)=aD a++aD b:=by induction a with|nil=>rfl|cons r a ih=>simp[ih]
def ct{sz:Nat}{ak:aP}(h:Sz sz ak):(aD ak).length=ak.length*sz:=by induction ak with|nil=>simp|cons r ak ih=>rw[cj,bZ,ih λx a=>h x (cY _ a),h r dr,aB,iR,wM]
def H0{sz:Nat}{ak:aP}(h:Sz sz ak)(i:Nat)(a:i<ak.length):((aD ak).drop (i*sz)).take sz=ak[i]:=by
 induction ak generalizing i with
 |nil=>simp at a
 |cons r ak ih=>
  have c:r.length=sz:=h r dr;cases i with
  |zero=>simp[<-c]
  |succ i=>
   have d:(r++aD ak).drop sz=aD ak:=by rw[<-c];simp
   rw[cj,iR,wM,<-List.drop_drop,d];exact ih (λx f=>h x (cY _ f)) i (by simpa using a)
def gO{sz:Nat}{ak:aP}(h:Sz sz ak)(i j:Nat)(a:i<ak.length)(c:j<sz):(aD ak)[i*sz+j]?=(ak[i])[j]?:=by rw[<-H0 h i a,rN c,kX]
def pH{sz:Nat}{ak:aP}(h:Sz sz ak):jD sz ak.length (aD ak)=ak:=by induction ak with|nil=>rfl|cons r ak ih=>have c:r.length=sz:=h r dr;show gX sz (r++aD ak)::jD sz ak.length (iL sz (r++aD ak))=_;rw[yb,yc,Al (by omega),fD (by omega),RQ (by omega),EE (by omega),bq,ih λx a=>h x (cY _ a)]
def mK{sz:Nat}{ak:aP}(h:Sz sz ak):dk sz ak=true:=by induction ak with|nil=>rfl|cons r ak ih=>show(Nat.beq (aM r) sz&&dk sz ak)=true;rw[ih λx a=>h x (cY _ a),cC,h r dr,cR];simp
def yj{ak:aP}:dv (aD ak)=eT ak:=by induction ak with|nil=>rfl|cons r ak ih=>simp[ih]
section
variable{s:HS}
def MA(s:HS)(sz bI:Nat)(j:bL)(o:Ky)(bj len:Nat)(new:ai)(ea:Nat)(g:Ky)(p:Tr Ob×List Ky):cX:=match p with
  |(h0,c)=>match bN h0 o (bj+len*sz) (bj+len*sz+aM new) c with
          |(d,a)=>match aj d o with
            |some (.cells t f m _)=>
              bif jg o a&&Nat.ble f bj&&Nat.ble (bj+len*sz) m&&Nat.ble (len+ea) bI then
                .v (.sl s.nx bj (len+ea) sz) {h:=av (some (.cells (dh new (bj+len*sz) t) bj (bj+len*sz+aM new) g)) s.nx (av (some (.cells t f (bj+len*sz) g)) o d),nx:=s.nx.succ,gr:=av (some (s.nx::a)) g s.gr,ty:=l7 j o s}
              else .bad
            |_=>.bad
def jN{sz bI ea:Nat}{a:bL}{new:ai}(h0:ea≠0)(c:ea<=bI):s.append sz bI a .ah new ea=s.Cq (Ea a s) new (λo=>.sl o 0 ea sz):=by show(bif Nat.beq ea 0 then cX.v .ah s else bif Nat.ble ea bI then s.Cq (Ea a s) new (λo=>.sl o 0 ea sz)else .bad)=_;rw[cR,cd];simp[h0,c]
@[simp]def p9{ty:Tr (Nat×Nat)}{l:ai}{K:Ky->HV}:s.Cq ty l K=.v (K s.nx) {h:=av (some (.cells (cP l) 0 l.length s.nx)) s.nx s.h,nx:=s.nx.succ,gr:=av (some [s.nx]) s.nx s.gr,ty:=ty}:=by show cX.v (K s.nx) {h:=av (some (.cells (dh l 0 .lf) 0 (aM l) s.nx)) s.nx s.h,nx:=s.nx.succ,gr:=av (some [s.nx]) s.nx s.gr,ty:=ty}=_;rw[cC];rfl
def mC{sz bI ea:Nat}{a:bL}{new:ai}{o:Ky}{bj len:Nat}{t:Tr HV}{c d:Nat}{g:Ky}{ms:cg}(h0:ea≠0)(f:aj s.h o=some (.cells t c d g))(j:aj s.gr g=some ms):
  s.append sz bI a (.sl o bj len sz) new ea=MA s sz bI a o bj len new ea g (eS s.h 12 ms):=by
 unfold HS.append;simp only[cR,eV,h0,kY,cond_false,mB,f,j];rfl
@[simp]def UE:Ea none s=s.ty:=rfl
@[simp]def UF{o:Ky}:l7 none o s=s.ty:=rfl
def j0(sz bI:Nat)(f:bL)(x y:bS)(s:HS):cX:=match x,y with
  |some a,some b=>bif gZ a then(match b with
   |.ah=>.v a s
   |.sl o d len _=>bif Nat.beq len 0 then .v a s else bR (s.bF o d (len*sz)) (λl=>s.append sz bI f a l len) .bad
   |.psl c=>bif Nat.beq (aM c) 0 then .v a s else bif dk sz c then s.append sz bI f a (aD c) (aM c)else .bad
   |_=>.bad)else .bad
  |_,_=>.bad
variable{e:En}
@[simp]def aaf{sz bI:Nat}{a:bL}{x ys:X}:dA (.app sz bI a x ys) e s=j0 sz bI a (bw x e) (bw ys e) s:=rfl
@[simp]def agY{sz bI:Nat}{a:bL}{v:HV}(h:gZ v=true):j0 sz bI a (some v) (some .ah) s=.v v s:=by show(bif gZ v then _ else _)=_;rw[h];rfl
def kQ{sz bI:Nat}{a:bL}{v:HV}(h:gZ v=true):j0 sz bI a (some v) (some (.psl [])) s=.v v s:=by show(bif gZ v then(bif Nat.beq (aM ([]:aP)) 0 then cX.v v s else _)else _)=_;rw[h];rfl
def mL{sz bI:Nat}{a:bL}{v:HV}{ak:aP}(h:gZ v=true)(h0:ak≠ [])(c:Sz sz ak):j0 sz bI a (some v) (some (.psl ak)) s=s.append sz bI a v (aD ak) ak.length:=by
 show(bif gZ v then(bif Nat.beq (aM ak) 0 then cX.v v s else bif dk sz ak then s.append sz bI a v (aD ak) (aM ak)else .bad)else .bad)=_;rw[h,mK c,cC,cR];have:ak.length≠0:=by simpa using h0
 simp[this]
def MB(v:bS):bL:=match v with|some v=>NQ v|none=>none
@[simp]def Xq{k:IntKind}{n:Nat}:MB (some (.int k (n:Int)))=some n:=rfl
@[simp]def acP{k:IntKind}:MB (some (.int k 0))=some 0:=rfl
@[simp]def acQ{k:IntKind}:MB (some (.int k 1))=some 1:=rfl
@[simp]def H2{d:Nat}:fw e d none=some d:=rfl
@[simp]def UG{d:Nat}{x:X}:fw e d (some x)=MB (bw x e):=by rw[fw];cases bw x e<;>rfl
def zy(v:bS)(d f:Nat->bL)(mx:Option X)(sz:Nat)(s:HS):cX:=match v with
  |some (.sl o g len h)=>(match d 0,f len,mx with
   |some a,some b,none=>bif Nat.ble a b&&Nat.ble b len&&Nat.beq sz h then .v (.sl o (g+a*sz) (b-a) sz) s else .bad
   |_,_,_=>.bad)
  |some (.psl c)=>(match d 0,f (aM c),mx with
   |some a,some b,none=>bif Nat.ble a b&&Nat.ble b (aM c)&&dk sz c then .v (.psl (gX (b-a) (iL a c))) s else .bad
   |_,_,_=>.bad)
  |some .ah=>(match d 0,f 0,mx with|some 0,some 0,none=>.v .ah s|_,_,_=>.bad)
  |_=>.bad
@[simp]def aag{x:X}{a c mx:Option X}{sz:Nat}:dA (.slc x a c mx sz) e s=zy (bw x e) (λd=>fw e d a) (λd=>fw e d c) mx sz s:=rfl
@[simp]def MC{o:Ky}{bj len sz:Nat}{d c:Nat->bL}:zy (some (.sl o bj len sz)) d c none sz s=bR (d 0) (λa=>bR (c len) (λb=>if a<=b/\b<=len then .v (.sl o (bj+a*sz) (b-a) sz) s else .bad) .bad) .bad:=by
 unfold zy;show(match d 0,c len,(none:Option X)with
   |some a,some b,none=>bif Nat.ble a b&&Nat.ble b len&&Nat.beq sz sz then cX.v (.sl o (bj+a*sz) (b-a) sz) s else .bad
   |_,_,_=>.bad)=_
 cases d 0 with
 |none=>cases c len<;>rfl
 |some a=>cases c len with|none=>rfl|some b=>
   show(bif Nat.ble a b&&Nat.ble b len&&Nat.beq sz sz then cX.v (.sl o (bj+a*sz) (b-a) sz) s else .bad)=if a<=b/\b<=len then _ else _
   rw[cd,cd,cR];by_cases f:a<=b<;>by_cases g:b<=len<;>simp[f,g]
@[simp]def Xr{ak:aP}{sz:Nat}{d c:Nat->bL}:zy (some (.psl ak)) d c none sz s=bR (d 0) (λa=>bR (c ak.length) (λb=>if a<=b/\b<=ak.length/\dk sz ak=true then .v (.psl ((ak.drop a).take (b-a))) s else .bad) .bad) .bad:=by
 unfold zy;show(match d 0,c (aM ak),(none:Option X)with
   |some a,some b,none=>bif Nat.ble a b&&Nat.ble b (aM ak)&&dk sz ak then cX.v (.psl (gX (b-a) (iL a ak))) s else .bad
   |_,_,_=>.bad)=_
 rw[cC];cases d 0 with
 |none=>cases c ak.length<;>rfl
 |some a=>cases c ak.length with|none=>rfl|some b=>
   show(bif Nat.ble a b&&Nat.ble b ak.length&&dk sz ak then cX.v (.psl (gX (b-a) (iL a ak))) s else .bad)=if a<=b/\b<=ak.length/\dk sz ak=true then _ else _
   rw[cd,cd,yb,yc];by_cases f:a<=b<;>by_cases g:b<=ak.length<;>by_cases h:dk sz ak=true<;>simp[f,g,h]
end
section views
variable{s:HS}
def Vw(s:HS)(n:Nat)(v a:HV):Prop:=∃t,vw s n v=some (a,t)
def oj(s:HS)(n:Nat)(l l':ai):Prop:=∃t,oI (vw s n) l=some (l',t)
def oj.nil{n:Nat}:oj s n [] []:=⟨[],rfl⟩
def oj.cons{n:Nat}{v a:HV}{l l':ai}(h:Vw s n v a)(k:oj s n l l'):oj s n (v::l) (a::l'):=by obtain⟨t,h⟩:=h;obtain⟨u,k⟩:=k;exact⟨t++u,by rw[oI,h,k]⟩
def Vw.data{n:Nat}{v:HV}(h:eo v=true):Vw s (n+1) v v:=⟨[],vP h⟩
def oj.data{n:Nat}:∀{l:ai},dv l=true->oj s (n+1) l l
 |[],_=>.nil
 |v::r,h=>by rw[HU,aL]at h;exact .cons (.data h.1) (.data h.2)
def Vw.ah{n:Nat}:Vw s (n+1) .ah (.psl []):=⟨[],rfl⟩
def oj.append{n:Nat}{l l' m a:ai}(h:oj s n l l')(k:oj s n m a):oj s n (l++m) (l'++a):=by
 induction l generalizing l' with
 |nil=>obtain⟨t,h⟩:=h;cases h;exact k
 |cons v r ih=>
  obtain⟨t,h⟩:=h;unfold oI at h
  split at h
  .rename_i v1 f g j c d;cases h;exact .cons ⟨_,c⟩ (ih ⟨_,d⟩)
  cases h
def Vw.agg{n:Nat}{l l':ai}(h:oj s n l l'):Vw s (n+1) (.agg l) (.agg l'):=by
 cases a:eo (.agg l)with
 |true=>
  obtain⟨t,h⟩:=h;rw[Mw]at a;cases n with
  |zero=>
   cases l with
   |nil=>cases h;exact⟨[],vP (by simp)⟩
   |cons v r=>unfold oI at h;split at h<;>simp_all [vw]
  |succ n=>obtain⟨u,c⟩:=oj.data (s:=s) (n:=n) a;rw[c]at h;cases h;exact .data (by simpa using a)
 |false=>obtain⟨t,h⟩:=h;refine⟨t,?_⟩;show(bif eo (.agg l)then some (HV.agg l,[])else match oI (vw s n) l with|some (l',t)=>some (HV.agg l',t)|none=>none)=_;rw[a,h];rfl
def Vw.cO{n:Nat}{l l':ai}(h:oj s n l l'):Vw s (n+1) (.cO l) (.cO l'):=by
 cases a:eo (.cO l)with
 |true=>
  obtain⟨t,h⟩:=h;rw[Mx]at a;cases n with
  |zero=>
   cases l with
   |nil=>cases h;exact⟨[],vP (by simp)⟩
   |cons v r=>unfold oI at h;split at h<;>simp_all [vw]
  |succ n=>obtain⟨u,c⟩:=oj.data (s:=s) (n:=n) a;rw[c]at h;cases h;exact .data (by simpa using a)
 |false=>obtain⟨t,h⟩:=h;refine⟨t,?_⟩;show(bif eo (.cO l)then some (HV.cO l,[])else match oI (vw s n) l with|some (l',t)=>some (HV.cO l',t)|none=>none)=_;rw[a,h];rfl
def Vw.sl{n:Nat}{o:Ky}{bj len sz:Nat}{l l':ai}{r:aP}(c:fQ (aj s.h o) bj (len*sz)=some l)(h:oj s n l l')(d:len≠0->jD sz len l'=r)(h0:len=0->r=[]):Vw s (n+1) (.sl o bj len sz) (.psl r):=by
 obtain⟨t,h⟩:=h;by_cases a:len=0
 .subst a;rw[h0 rfl];exact⟨[],rfl⟩
 refine⟨o::t,?_⟩;show(bif eo (.sl o bj len sz)then _ else bif Nat.beq len 0 then _ else match s.bF o bj (len*sz)with|some l=>(match oI (vw s n) l with|some (l',t)=>some (HV.psl (jD sz len l'),o::t)|none=>none)|none=>none)=_;rw[show eo (.sl o bj len sz)=false by simp[eo],cR,gI,c];simp only[a,kY,cond_false,h];rw[d a]
def Vw.rows{n:Nat}{o:Ky}{sz a:Nat}{ak:aP}{g:Ky}(d:aj s.h o=some (.cells (cP (aD ak)) 0 a g))(c:Sz sz ak)(f:eT ak=true)(m:ak.length*sz<=a):Vw s (n+2) (.sl o 0 ak.length sz) (.psl ak):=by have j:=ct c;refine Vw.sl (l:=aD ak) (l':=aD ak) (by rw[d,an (aV _) (by omega) (by omega)];simp[<-j]) (.data (by rw[yj];exact f)) (λ_=>pH c) (λh=>ja h)
def Vw.ptr{n:Nat}{o:Ky}{l l':ai}{a:Nat}{g:Ky}(c:aj s.h o=some (.cells (cP l) 0 a g))(d:a=l.length)(h:oj s n l l'):Vw s (n+1) (.ptr o 0) (.aw l'):=by obtain⟨t,h⟩:=h;refine⟨o::t,?_⟩;show(bif eo (.ptr o 0)then _ else match aj s.h o with|some (.cells _ _ a _)=>bif Nat.ble 0 a then(match s.bF o 0 (a-0)with|some l=>(match oI (vw s n) l with|some (l',t)=>some (HV.aw l',o::t)|none=>none)|none=>none)else none|_=>none)=_;rw[show eo (.ptr o 0)=false by simp[eo],c];simp only[cond_false,cd,fN,eV,cond_true,gI,c,Nat.sub_zero];rw[an (aV _) (by omega) (by omega),d];simp[h]
def Vw.fn{n:Nat}{f:Nat}{a d b g:ai}(h:oj s (n+1) a d)(k:oj s (n+1) b g):Vw s (n+2) (.fn f a b) (.fn f d g):=by
 cases c:eo (.fn f a b)with
 |true=>obtain⟨t,h⟩:=h;obtain⟨j,k⟩:=k;rw[RO,aL]at c;obtain⟨u,p⟩:=oj.data (s:=s) (n:=n) c.1;obtain⟨q,m⟩:=oj.data (s:=s) (n:=n) c.2;rw[p]at h;cases h;rw[m]at k;cases k;exact .data (by simpa using c)
 |false=>obtain⟨t,h⟩:=h;obtain⟨j,k⟩:=k;refine⟨t++j,?_⟩;show(bif eo (.fn f a b)then some (HV.fn f a b,[])else match oI (vw s (n+1)) a,oI (vw s (n+1)) b with|some (d,t),some (g,j)=>some (HV.fn f d g,t++j)|_,_=>none)=_;rw[c,h,k];rfl
def aY{v a:HV}(h:Vw s 16 v a):Ai (.val v s)=some a:=by obtain⟨t,h⟩:=h;show(match vw s 16 v with|some (a,_)=>some a|none=>none)=_;rw[h]
end views
section call
variable{L:jE}{prog:Nat->Option HF}
def nP{t:Task}{o:Out}(h:eH L prog t=o)(a:Good o):step L prog (eH L prog) t=o:=by
 obtain⟨n,d⟩:=xZ h a;cases n with
 |zero=>subst d;exact a.elim
 |succ m=>
  have f:step L prog (run L prog m) t=o:=d;have g:Conv (λ_=>eH L prog) (run L prog m):=λq r j c=>oF.of λ_=>by subst j;exact BD c
  obtain⟨k,p⟩:=tM g t f a;exact p k (aV _)
def RR(f:Nat)(F:HF)(args l:ai)(v:HV)(s:HS)(d:prog f=some F)(g:qC L f=true)(j:F.pu=true)(p:cI args=false)(c:oj s 16 args l)(m:dv l=true)(q:fp v=true)(h:eH L prog (.call f l s0)=.val v s0):
  eH L prog (.call f args s)=.val v s:=by
 have h:=nP h trivial;have h:rF L f l s0 (bG prog (eH L prog) f l s0)=.val v s0:=h;rw[gi g]at h;unfold bG at h;rw[d]at h;have h:(bif F.pu then cv F (eH L prog) l s0 else dO F (eH L prog) l s0)=.val v s0:=h;rw[j,cond_true]at h;unfold cv at h;rw[dU l m,cond_true,m,cond_true]at h;have a:kh F (eH L prog) l=some v:=by
  cases n:kh F (eH L prog) l with
  |none=>rw[n]at h;cases h
  |some r=>rw[n]at h;cases h;rfl
 refine dm ?_ trivial;show rF L f args s (bG prog (eH L prog) f args s)=_;rw[gi g];unfold bG;rw[d];show(bif F.pu then cv F (eH L prog) args s else dO F (eH L prog) args s)=_;rw[j,cond_true];unfold cv;obtain⟨t,c⟩:=c;rw[p,cond_false,c];show bR (kh F (eH L prog) l) (λv=>bif fp v then Out.val v s else bif gy F (eH L prog) l then .val v s else .bad 41) (.bad 42)=_;rw[a,dP,q];rfl
def vQ(f:Nat)(F:HF)(args l:ai)(v:HV)(s:HS)(d:prog f=some F)(g:qC L f=true)(j:F.pu=true)(p:cI args=false)(c:oj s 16 args l)(m:dv l=true)(q:gy F (eH L prog) l=true)(h:eH L prog (.call f l s0)=.val v s0):
  eH L prog (.call f args s)=.val v s:=by
 have h:=nP h trivial;have h:rF L f l s0 (bG prog (eH L prog) f l s0)=.val v s0:=h;rw[gi g]at h;unfold bG at h;rw[d]at h;have h:(bif F.pu then cv F (eH L prog) l s0 else dO F (eH L prog) l s0)=.val v s0:=h;rw[j,cond_true]at h;unfold cv at h;rw[dU l m,cond_true,m,cond_true]at h;have a:kh F (eH L prog) l=some v:=by
  cases n:kh F (eH L prog) l with
  |none=>rw[n]at h;cases h
  |some r=>rw[n]at h;cases h;rfl
 refine dm ?_ trivial;show rF L f args s (bG prog (eH L prog) f args s)=_;rw[gi g];unfold bG;rw[d];show(bif F.pu then cv F (eH L prog) args s else dO F (eH L prog) args s)=_;rw[j,cond_true];unfold cv;obtain⟨t,c⟩:=c;rw[p,cond_false,c];show bR (kh F (eH L prog) l) (λv=>bif fp v then Out.val v s else bif gy F (eH L prog) l then .val v s else .bad 41) (.bad 42)=_;rw[a,dP,q];cases fp v<;>rfl
def gJ:Out->Prop
 |.code .ret _ _=>True
 |.code (.exit _) _ _=>True
 |_=>False
def gJ.MD{o:Out}(h:gJ o):Good o:=by
 unfold gJ at h
 split at h<;>first|trivial|exact h.elim
def gJ.cA{o:Out}(h:gJ o)(f:En->HS->Out):o.cA f=o:=by
 unfold gJ at h
 split at h<;>first|rfl|exact h.elim
def ME{c:HC}(n:Nat)(I:Nat->En->HS->Prop)(Q:Out->Prop)(i:Nat)(e:En)(s:HS)(m:i<=n)(f:I i e s)
  (round:∀i e s,i<n->I i e s->(∃e' s',bO (eH L prog) c e s=.code .normal e' s'/\I (i+1) e' s')∨(gJ (bO (eH L prog) c e s)/\Q (bO (eH L prog) c e s)))
  (last:∀e s,I n e s->gJ (bO (eH L prog) c e s)/\Q (bO (eH L prog) c e s)):
  ∃o,bO (eH L prog) (.loop c) e s=o/\gJ o/\Q o:=by
 obtain⟨k,p⟩:∃k,n-i=k:=⟨_,rfl⟩
 induction k generalizing i e s with
 |zero=>
  obtain rfl:i=n:=by omega
  obtain⟨a,d⟩:=last e s f;exact⟨_,by rw[yf,a.cA],a,d⟩
 |succ k ih=>
  rcases round i e s (by omega) f with⟨e',s',a,d⟩|⟨a,d⟩
  .obtain⟨o,h,g,j⟩:=ih (i+1) e' s' (by omega) d (by omega);exact⟨o,by rw[yf,a,jZ];exact RN h g.MD,g,j⟩
  exact⟨_,by rw[yf,a.cA],a,d⟩
def bh{c:HC}{e:En}{s:HS}{o:Out}(f:bO (eH L prog) (.loop c) e s=o)(n:Nat)(I:Nat->En->HS->Prop)(Q:Out->Prop)(i:Nat)(d:i<=n)(a:I i e s)
  (round:∀i e s r,i<n->I i e s->bO (eH L prog) c e s=r->(∃e' s',r=.code .normal e' s'/\I (i+1) e' s')∨(gJ r/\Q r))
  (last:∀e s r,I n e s->bO (eH L prog) c e s=r->gJ r/\Q r):Q o:=by
 obtain⟨j,g,m,h⟩:=ME n I Q i e s d a (λi e s d a=>round i e s _ d a rfl) (λe s a=>last e s _ a rfl);rw[<-f,g];exact h
def ajX{L:jE}{prog:Nat->Option HF}{c:HC}{e:En}{s:HS}(n:Nat)(I:Nat->En->HS->Prop){Q:Out->Prop}(i:Nat)(a:i<=n)(d:I i e s)
  (round:∀i e s r,i<n->I i e s->bO (eH L prog) c e s=r->(∃e' s',r=.code .normal e' s'/\I (i+1) e' s')∨(gJ r/\Q r))
  (last:∀e s r,I n e s->bO (eH L prog) c e s=r->gJ r/\Q r):∀o,bO (eH L prog) (.loop c) e s=o->Q o:=λ_ f=>bh f n I Q i a d round last
end call
@[simp]def UH{e:En}{s:HS}:gJ (.code .ret e s)=True:=rfl
@[simp]def RS{i:Nat}{e:En}{s:HS}:gJ (.code (.exit i) e s)=True:=rfl
def jP:∀(ms:cg) (h:Tr Ob) (n:Nat),(∀p,p ∉ ms->aj (eS h n ms).1 p=aj h p)/\(∀m∈(eS h n ms).2,m∈ms)
 |[],h,0=>⟨λ_ _=>rfl,λ_ h=>h⟩
 |[],h,n+1=>⟨λ_ _=>rfl,λ_ h=>h⟩
 |m::r,h,0=>by obtain⟨d,f⟩:=jP r (av none m h) 0;refine⟨λp c=>?_,λx a=>cY _ (f x a)⟩;show aj (eS (av none m h) 0 r).1 p=_;rw[d p λa=>c (cY _ a),af,ar (λ(e:p=m)=>c (by rw[e];exact dr))]
 |m::r,h,n+1=>by
  obtain⟨d,f⟩:=jP r h n;refine⟨λp c=>?_,λx a=>?_⟩
  .show aj (eS h n r).1 p=_;exact d p λa=>c (cY _ a)
  have a:x∈m::(eS h n r).2:=a;rcases bk.1 a with rfl|a
  .exact dr
  exact cY _ (f x a)
def ra(o:Ky)(r:cg)(h:Tr Ob)(n:Nat):eS h (n+1) (o::r)=((eS h n r).1,o::(eS h n r).2):=rfl
def ik(o:Ky)(a b:Nat):∀(ms:cg) (h:Tr Ob),(∀p,p ∉ ms∨p=o->aj (bN h o a b ms).1 p=aj h p)/\(∀m∈(bN h o a b ms).2,m∈ms)
 |[],h=>⟨λ_ _=>rfl,λ_ h=>h⟩
 |m::r,h=>by
  obtain⟨f,j⟩:=ik o a b r h;have d:∀p,p ∉ m::r∨p=o->p ∉ r∨p=o:=λp d=>d.imp (λh c=>h (cY _ c)) id
  unfold bN;cases q:m.beq o with
  |true=>
   refine⟨λp c=>f p (d p c),λx c=>?_⟩;have c:x∈m::(bN h o a b r).2:=c;rcases bk.1 c with rfl|c
   .exact dr
   exact cY _ (j x c)
  |false=>
   have n:m≠o:=λe=>by rw[(Ky.beq_iff m o).2 e]at q;cases q
   simp only[cond_false]
   split
   .rename_i t u w g y;cases z:(Nat.blt u b&&Nat.blt a w)with
    |true=>
     refine⟨λp c=>?_,λx c=>cY _ (j x c)⟩;show aj (av none m (bN h o a b r).1) p=_;rw[af,ar,f p (d p c)]
     rintro rfl
     rcases c with c|c
     .exact c dr
     exact n c
    |false=>
     refine⟨λp c=>f p (d p c),λx c=>?_⟩;have c:x∈m::(bN h o a b r).2:=c;rcases bk.1 c with rfl|c
     .exact dr
     exact cY _ (j x c)
   exact⟨λp c=>f p (d p c),λx c=>cY _ (j x c)⟩
def kI(h:Tr Ob)(o:Ky)(a b:Nat)(r:cg):bN h o a b (o::r)=((bN h o a b r).1,o::(bN h o a b r).2):=by rw[bN,(Ky.beq_iff o o).2 rfl];rfl
def BH(s:HS)(v:HV)(sz L:Nat)(ak:aP):Prop:=
 Sz sz ak/\L<=s.nx.toNat/\((v=.ah/\ak=[])∨∃o a g rest,v=.sl o 0 ak.length sz/\aj s.h o=some (.cells (cP (aD ak)) 0 a g)/\ak.length*sz<=a/\aj s.gr g=some (o::rest)/\o ∉ rest/\(∀m∈o::rest,L<=m.toNat/\m.toNat<s.nx.toNat)/\L<=g.toNat/\g.toNat<s.nx.toNat)
def Low(L:Nat)(s s':HS):Prop:=s.nx.toNat<=s'.nx.toNat/\s'.ty=s.ty/\(∀p,p.toNat<L->aj s'.h p=aj s.h p)/\(∀g,g.toNat<L->aj s'.gr g=aj s.gr g)
def BH.ah{s:HS}{sz L:Nat}(h:L<=s.nx.toNat):BH s .ah sz L []:=⟨Sz.nil,h,.inl ⟨rfl,rfl⟩⟩
def BH.gZ{s:HS}{v:HV}{sz L:Nat}{ak:aP}(h:BH s v sz L ak):gZ v=true:=by rcases h.2.2 with⟨rfl,_⟩|⟨o,a,g,rest,rfl,_⟩<;>rfl
def BH.new{s:HS}{sz L:Nat}{ak:aP}(d:Sz sz ak)(f:L<=s.nx.toNat):
  BH {h:=av (some (.cells (cP (aD ak)) 0 (aD ak).length s.nx)) s.nx s.h,nx:=s.nx.succ,gr:=av (some [s.nx]) s.nx s.gr,ty:=s.ty} (.sl s.nx 0 ak.length sz) sz L ak/\
  Low L s {h:=av (some (.cells (cP (aD ak)) 0 (aD ak).length s.nx)) s.nx s.h,nx:=s.nx.succ,gr:=av (some [s.nx]) s.nx s.gr,ty:=s.ty}:=by
 have j:=Ky.aS s.nx;have a:∀p:Ky,p.toNat<L->p≠s.nx:=λp c e=>by subst e;omega
 refine⟨⟨d,by simp only;omega,.inr ⟨s.nx,_,s.nx,[],rfl,by rw[af,au rfl],by rw[ct d];exact aV _,by rw[af,au rfl],by simp,λm g=>?_,f,by simp only;omega⟩⟩,by simp only;omega,rfl,λp c=>?_,λp c=>?_⟩
 .simp only[cr]at g;subst g;exact⟨f,by simp only;omega⟩
 .simp only;rw[af,ar (a p c)]
 simp only;rw[af,ar (a p c)]
def BH.append{s:HS}{v:HV}{sz L bI:Nat}{ak new:aP}(h:BH s v sz L ak)(D:Sz sz new)(h0:new≠ [])(f:ak.length+new.length<=bI):
    ∃X s',j0 sz bI none (some v) (some (.psl new)) s=.v X s'/\BH s' X sz L (ak++new)/\Low L s s':=by
  have y:new.length≠0:=by simpa using h0
  rw[mL h.gZ h0 D];obtain⟨Y,Z,hv⟩:=h;rcases hv with⟨rfl,rfl⟩|⟨o,r,g,rest,rfl,hb,hh,hg,E,a,H,h3⟩
  . refine⟨_,_,by rw[jN y (by simpa using f),p9],?_⟩
    obtain⟨n,u⟩:=BH.new (s:=s) (sz:=sz) (L:=L) D Z;exact⟨n,u⟩
  have J:=Ky.aS s.nx;rw[mC y hb hg];obtain⟨M,O⟩:=jP rest s.h 11;rw[show(12:Nat)=11+1 from rfl,ra];generalize h4:(eS s.h 11 rest).1=n at M;generalize h5:(eS s.h 11 rest).2=w at O;obtain⟨Q,j2⟩:=ik o (0+ak.length*sz) (0+ak.length*sz+aM (aD new)) w n;have c:=kI n o (0+ak.length*sz) (0+ak.length*sz+aM (aD new)) w;generalize h6:(bN n o (0+ak.length*sz) (0+ak.length*sz+aM (aD new)) w).1=u at Q c;generalize h7:(bN n o (0+ak.length*sz) (0+ak.length*sz+aM (aD new)) w).2=q at j2 c;have d:∀m∈q,m∈rest:=λm f=>O m (j2 m f)
  have ho:aj u o=some (.cells (cP (aD ak)) 0 r g):=by rw[Q o (.inr rfl),M o E,hb]
  have hle:(aD ak).length=0+ak.length*sz:=by rw[ct Y,bn]
  have z:MA s sz bI none o 0 ak.length (aD new) new.length g (n,o::w)=.v (.sl s.nx 0 (ak.length+new.length) sz) {h:=av (some (.cells (cP (aD ak++aD new)) 0 (0+ak.length*sz+(aD new).length) g)) s.nx (av (some (.cells (cP (aD ak)) 0 (0+ak.length*sz) g)) o u),nx:=s.nx.succ,gr:=av (some (s.nx::o::q)) g s.gr,ty:=s.ty}:=by
    show(match bN n o (0+ak.length*sz) (0+ak.length*sz+aM (aD new)) (o::w)with
        |(h',A)=>match aj h' o with
          |some (.cells t B r _)=>
            bif jg o A&&Nat.ble B 0&&Nat.ble (0+ak.length*sz) r&&Nat.ble (ak.length+new.length) bI then
              cX.v (.sl s.nx 0 (ak.length+new.length) sz) {h:=av (some (.cells (dh (aD new) (0+ak.length*sz) t) 0 (0+ak.length*sz+aM (aD new)) g)) s.nx (av (some (.cells t B (0+ak.length*sz) g)) o h'),nx:=s.nx.succ,gr:=av (some (s.nx::A)) g s.gr,ty:=l7 none o s}
            else .bad
          |_=>.bad)=_
    rw[c];show(match aj u o with
          |some (.cells t B r _)=>
            bif jg o (o::q)&&Nat.ble B 0&&Nat.ble (0+ak.length*sz) r&&Nat.ble (ak.length+new.length) bI then
              cX.v (.sl s.nx 0 (ak.length+new.length) sz) {h:=av (some (.cells (dh (aD new) (0+ak.length*sz) t) 0 (0+ak.length*sz+aM (aD new)) g)) s.nx (av (some (.cells t B (0+ak.length*sz) g)) o u),nx:=s.nx.succ,gr:=av (some (s.nx::o::q)) g s.gr,ty:=l7 none o s}
            else .bad
          |_=>.bad)=_
    rw[ho];show(bif jg o (o::q)&&Nat.ble 0 0&&Nat.ble (0+ak.length*sz) r&&Nat.ble (ak.length+new.length) bI then
              cX.v (.sl s.nx 0 (ak.length+new.length) sz) {h:=av (some (.cells (dh (aD new) (0+ak.length*sz) (cP (aD ak))) 0 (0+ak.length*sz+aM (aD new)) g)) s.nx (av (some (.cells (cP (aD ak)) 0 (0+ak.length*sz) g)) o u),nx:=s.nx.succ,gr:=av (some (s.nx::o::q)) g s.gr,ty:=l7 none o s}
            else .bad)=_
    rw[show jg o (o::q)=true by simp[jg,(Ky.beq_iff o o).2 rfl],cd,cd,cd,dq (aV 0),dq (show 0+ak.length*sz<=r by omega),dq f,JH _ _ _ hle.symm,cC];rfl
  refine⟨_,_,z,⟨Sz.append Y D,by simp only;omega,.inr ⟨s.nx,_,g,o::q,by rw[bZ],by rw[af,au rfl,kH],?_,by rw[af,au rfl],?_,?_,H,by simp only;omega⟩⟩,by simp only;omega,rfl,?_,?_⟩
  . rw[bZ,ct D,oR];omega
  . intro j
    rcases bk.1 j with j|j
    . have:=(a o dr).2;rw[<-j]at this;omega
    have:=(a _ (cY _ (d _ j))).2;omega
  . intro m f
    simp only;rcases bk.1 f with rfl|f
    . exact⟨Z,by omega⟩
    have T:m∈o::rest:=by
      rcases bk.1 f with rfl|f
      . exact dr
      exact cY _ (d _ f)
    have:=a m T;exact⟨this.1,by omega⟩
  . intro p hp
    have V:p≠o:=λe=>by subst e;have:=(a p dr).1;omega
    have C:p ∉ rest:=λj=>by have:=(a p (cY _ j)).1;omega
    have W:p≠s.nx:=λe=>by subst e;omega
    simp only;rw[af,ar W,af,ar V,Q p (.inl λj=>C (O p j)),M p C]
  intro p hp;simp only;rw[af,ar λe=>by subst e;omega]
def BH.vw{s:HS}{v:HV}{sz L n:Nat}{ak:aP}(h:BH s v sz L ak)(a:eT ak=true):Vw s (n+2) v (.psl ak):=by
 obtain⟨c,_,d⟩:=h;rcases d with⟨rfl,rfl⟩|⟨o,m,g,rest,rfl,f,j,_⟩
 .exact .ah
 exact .rows f c a j
@[simp]def RT{s:HS}{sz bI:Nat}{r:ai}(a:r.length=sz)(c:1<=bI):j0 sz bI none (some .ah) (some (.psl [r])) s=.v (.sl s.nx 0 1 sz) {h:=av (some (.cells (cP r) 0 sz s.nx)) s.nx s.h,nx:=s.nx.succ,gr:=av (some [s.nx]) s.nx s.gr,ty:=s.ty}:=by subst a;rw[mL (v:=.ah) rfl (by simp) (Sz.cons rfl Sz.nil),jN (by simp) (by simpa using c),p9];simp
def cu(s:HS)(v:HV)(sz:Nat)(F:bM)(ak:aP):Prop:=
 Sz sz ak/\(∀k,F k->k.toNat<s.nx.toNat)/\((v=.ah/\ak=[])∨∃o t a g rest,v=.sl o 0 ak.length sz/\aj s.h o=some (.cells t 0 a g)/\ak.length*sz<=a/\(∀j,j<ak.length*sz->fI t j=(aD ak)[j]?)/\aj s.gr g=some (o::rest)/\o ∉ rest/\(∀m∈o::rest,F m)/\F g)
def cV(F:bM)(s s':HS):Prop:=s.nx.toNat<=s'.nx.toNat/\s'.ty=s.ty/\(∀p,p.toNat<s.nx.toNat->¬F p->aj s'.h p=aj s.h p)/\(∀g,g.toNat<s.nx.toNat->¬F g->aj s'.gr g=aj s.gr g)
def cu.frame{s s':HS}{v:HV}{sz:Nat}{F G:bM}{ak:aP}(h:cu s v sz F ak)(a:cV G s s')(f:∀k,F k->¬G k):cu s' v sz F ak:=by
 obtain⟨n,c,p⟩:=h;refine⟨n,λk q=>dJ (c k q) a.1,?_⟩;rcases p with⟨rfl,rfl⟩|⟨o,t,r,g,rest,rfl,u,w,y,z,A,j,d⟩
 .exact .inl ⟨rfl,rfl⟩
 have m:=j o dr;exact .inr ⟨o,t,r,g,rest,rfl,by rw[a.2.2.1 o (c o m) (f o m)];exact u,w,y,by rw[a.2.2.2 g (c g d) (f g d)];exact z,A,j,d⟩
def cu.ah{s:HS}{sz:Nat}:cu s .ah sz (λ_=>False) []:=⟨Sz.nil,λ_ h=>h.elim,.inl ⟨rfl,rfl⟩⟩
def cu.gZ{s:HS}{v:HV}{sz:Nat}{F:bM}{ak:aP}(h:cu s v sz F ak):gZ v=true:=by rcases h.2.2 with⟨rfl,_⟩|⟨o,t,a,g,rest,rfl,_⟩<;>rfl
def cu.len{s s1:HS}{v:HV}{sz:Nat}{F:bM}{ak:aP}(h:cu s v sz F ak):vm 0 (some v) s1=.v (.int .i64 (ak.length:Int)) s1:=by rcases h.2.2 with⟨rfl,rfl⟩|⟨o,t,a,g,rest,rfl,_⟩<;>simp
def cu.mono{s:HS}{v:HV}{sz:Nat}{F G:bM}{ak:aP}(h:cu s v sz F ak)(a:∀k,F k->G k)(c:∀k,G k->k.toNat<s.nx.toNat):cu s v sz G ak:=by
 obtain⟨d,_,f⟩:=h;refine⟨d,c,?_⟩;rcases f with⟨rfl,rfl⟩|⟨o,t,j,g,rest,rfl,n,p,q,r,u,w,y⟩
 .exact .inl ⟨rfl,rfl⟩
 exact .inr ⟨o,t,j,g,rest,rfl,n,p,q,r,u,λm z=>a m (w m z),a g y⟩
def nQ(t:Tr HV)(l:ai):∀(n k:Nat),(∀i,i<n->fI t (k+i)=l[i]?)->n=l.length->mr t n k=some l:=by
 induction l with
 |nil=>intro n k _ hn;simp at hn;subst hn;rfl
 |cons v r ih=>intro n k h hn;cases n with|zero=>simp at hn|succ n=>have he:mr t (n+1) k=Option.rec none (λv=>Option.rec none (λl=>some (v::l)) (mr t n (k+1))) (fI t k):=rfl;have h0:=h 0 (by omega);rw[iB]at h0;rw[he,h0,ih n (k+1) (λi hi=>by have:=h (i+1) (by omega);rwa[show k+(i+1)=k+1+i by omega]at this) (by simpa using hn)];rfl
def cu.cells{s:HS}{o:Ky}{sz:Nat}{F:bM}{ak:aP}{n:Nat}(h:cu s (.sl o 0 n sz) sz F ak):n=ak.length/\fQ (aj s.h o) 0 (ak.length*sz)=some (aD ak):=by
 obtain⟨c,m,d⟩:=h;rcases d with⟨h,_⟩|⟨p,t,a,g,rest,h0,f,q,j,r⟩
 .cases h
 cases h0;refine⟨rfl,?_⟩;rw[f];show(if 0<=0 then if 0+ak.length*sz<=a then mr t (ak.length*sz) 0 else none else none)=_;rw[au (aV _),au (by omega),nQ t (aD ak) _ 0 (λi a=>by rw[bn];exact j i a) (ct c).symm]
def cu.vw{s:HS}{v:HV}{sz n:Nat}{F:bM}{ak:aP}(h:cu s v sz F ak)(a:eT ak=true):Vw s (n+2) v (.psl ak):=by
 have c:=h;obtain⟨d,_,f⟩:=h;rcases f with⟨rfl,rfl⟩|⟨o,t,j,g,rest,rfl,m,p,_⟩
 .exact .ah
 exact Vw.sl (l:=aD ak) (l':=aD ak) c.cells.2 (.data (by rw[yj];exact a)) (λ_=>pH d) (λh=>ja h)
def cu.at{s:HS}{v:HV}{sz:Nat}{F:bM}{ak:aP}(h:cu s v sz F ak){k:IntKind}(i:Nat)(a:i<ak.length):∃o,Fp (some v) (some (.int k (i:Int))) sz s=.v (.ptr o (i*sz)) s/\F o/\(∀j,j<sz->eN (aj s.h o) (i*sz+j)=(ak[i])[j]?)/\fQ (aj s.h o) (i*sz) sz=some ak[i]:=by
 obtain⟨d,_,p⟩:=h;rcases p with⟨rfl,rfl⟩|⟨o,t,c,g,rest,rfl,m,w,n,y,_,q,_⟩
 .simp at a
 have r:i*sz+sz<=ak.length*sz:=by rw[<-Nat.succ_mul];exact ji _ a
 refine⟨o,by simp[a],q o dr,λj f=>?_,?_⟩
 .rw[m];show(if 0<=i*sz+j then if i*sz+j<c then fI t (i*sz+j)else none else none)=_;rw[au (fN _),au (by omega),n _ (by omega),gO d i j a f]
 rw[m];show(if 0<=i*sz then if i*sz+sz<=c then mr t sz (i*sz)else none else none)=_;have u:ak[i].length=sz:=d _ (cb a);rw[au (fN _),au (by omega),nQ t ak[i] _ _ (λj f=>by rw[n _ (by omega),gO d i j a f]) u.symm]
def cu.append{s:HS}{v:HV}{sz bI:Nat}{F:bM}{ak new:aP}(h:cu s v sz F ak)(A:Sz sz new)(h0:new≠ [])(d:ak.length+new.length<=bI):
    ∃v' s',j0 sz bI none (some v) (some (.psl new)) s=.v v' s'/\cu s' v' sz (λk=>F k∨k=s.nx) (ak++new)/\cV F s s'/\s'.nx=s.nx.succ:=by
  have B:new.length≠0:=by simpa using h0
  have Q:=Ky.aS s.nx;rw[mL h.gZ h0 A];obtain⟨hs,n,hv⟩:=h;rcases hv with⟨rfl,rfl⟩|⟨o,t,u,g,rest,rfl,hb,hh,T,hg,V,a,C⟩
  . rw[jN B (by simpa using d),p9]
    refine⟨_,_,rfl,⟨A,λk w=>?_,.inr ⟨s.nx,cP (aD new),(aD new).length,s.nx,[],rfl,by rw[af,au rfl],by rw[ct A];exact aV _,λj hj=>sc,by rw[af,au rfl],by simp,λm d=>?_,.inr rfl⟩⟩,⟨by simp only;omega,rfl,λp W _=>?_,λp W _=>?_⟩,rfl⟩
    . simp only
      rcases w with w|rfl
      . have:=n k w;omega
      omega
    . simp only[cr]at d;exact .inr d
    . simp only;rw[af,ar λe=>by subst e;omega]
    simp only;rw[af,ar λe=>by subst e;omega]
  rw[mC B hb hg];obtain⟨X,Y⟩:=jP rest s.h 11;rw[show(12:Nat)=11+1 from rfl,ra];generalize h7:(eS s.h 11 rest).1=y at X;generalize h8:(eS s.h 11 rest).2=z at Y;obtain⟨Z,j2⟩:=ik o (0+ak.length*sz) (0+ak.length*sz+aM (aD new)) z y;have c:=kI y o (0+ak.length*sz) (0+ak.length*sz+aM (aD new)) z;generalize h9:(bN y o (0+ak.length*sz) (0+ak.length*sz+aM (aD new)) z).1=D at Z c;generalize ha:(bN y o (0+ak.length*sz) (0+ak.length*sz+aM (aD new)) z).2=r at j2 c;have f:∀m∈r,m∈rest:=λm d=>Y m (j2 m d)
  have ho:aj D o=some (.cells t 0 u g):=by rw[Z o (.inr rfl),X o V,hb]
  have E:MA s sz bI none o 0 ak.length (aD new) new.length g (y,o::z)=.v (.sl s.nx 0 (ak.length+new.length) sz) {h:=av (some (.cells (dh (aD new) (0+ak.length*sz) t) 0 (0+ak.length*sz+(aD new).length) g)) s.nx (av (some (.cells t 0 (0+ak.length*sz) g)) o D),nx:=s.nx.succ,gr:=av (some (s.nx::o::r)) g s.gr,ty:=s.ty}:=by
    show(match bN y o (0+ak.length*sz) (0+ak.length*sz+aM (aD new)) (o::z)with
        |(h',H)=>match aj h' o with
          |some (.cells t J u _)=>
            bif jg o H&&Nat.ble J 0&&Nat.ble (0+ak.length*sz) u&&Nat.ble (ak.length+new.length) bI then
              cX.v (.sl s.nx 0 (ak.length+new.length) sz) {h:=av (some (.cells (dh (aD new) (0+ak.length*sz) t) 0 (0+ak.length*sz+aM (aD new)) g)) s.nx (av (some (.cells t J (0+ak.length*sz) g)) o h'),nx:=s.nx.succ,gr:=av (some (s.nx::H)) g s.gr,ty:=l7 none o s}
            else .bad
          |_=>.bad)=_
    rw[c];show(match aj D o with
          |some (.cells t J u _)=>
            bif jg o (o::r)&&Nat.ble J 0&&Nat.ble (0+ak.length*sz) u&&Nat.ble (ak.length+new.length) bI then
              cX.v (.sl s.nx 0 (ak.length+new.length) sz) {h:=av (some (.cells (dh (aD new) (0+ak.length*sz) t) 0 (0+ak.length*sz+aM (aD new)) g)) s.nx (av (some (.cells t J (0+ak.length*sz) g)) o D),nx:=s.nx.succ,gr:=av (some (s.nx::o::r)) g s.gr,ty:=l7 none o s}
            else .bad
          |_=>.bad)=_
    rw[ho];show(bif jg o (o::r)&&Nat.ble 0 0&&Nat.ble (0+ak.length*sz) u&&Nat.ble (ak.length+new.length) bI then
              cX.v (.sl s.nx 0 (ak.length+new.length) sz) {h:=av (some (.cells (dh (aD new) (0+ak.length*sz) t) 0 (0+ak.length*sz+aM (aD new)) g)) s.nx (av (some (.cells t 0 (0+ak.length*sz) g)) o D),nx:=s.nx.succ,gr:=av (some (s.nx::o::r)) g s.gr,ty:=l7 none o s}
            else .bad)=_
    rw[show jg o (o::r)=true by simp[jg,(Ky.beq_iff o o).2 rfl],cd,cd,cd,dq (aV 0),dq (show 0+ak.length*sz<=u by omega),dq d,cC];rfl
  have hle:(aD ak).length=ak.length*sz:=ct hs;have h3:(aD new).length=new.length*sz:=ct A;refine⟨_,_,E,⟨Sz.append hs A,λk w=>?_,.inr ⟨s.nx,_,_,g,o::r,by rw[bZ],by rw[af,au rfl],?_,λj hj=>?_,by rw[af,au rfl],?_,λm d=>?_,.inl C⟩⟩,⟨by simp only;omega,rfl,λp W O=>?_,λp W O=>?_⟩,rfl⟩
  . simp only
    rcases w with w|rfl
    . have:=n k w;omega
    omega
  . rw[bZ,h3,oR];omega
  . rw[bZ,oR]at hj
    rw[fC,kH];by_cases h4:j<ak.length*sz
    . rw[ar (by omega),T j h4,dD (by omega)]
    rw[au (by omega),iZ (by omega),hle,bn]
  . intro q
    rcases bk.1 q with q|q
    . have:=n o (a o dr);rw[<-q]at this;omega
    have:=n _ (a _ (cY _ (f _ q)));omega
  . rcases bk.1 d with rfl|d
    . exact .inr rfl
    refine .inl (a m ?_);rcases bk.1 d with rfl|d
    . exact dr
    exact cY _ (f _ d)
  . have h5:p≠o:=λe=>by subst e;exact O (a p dr)
    have M:p ∉ rest:=λq=>O (a p (cY _ q))
    have h6:p≠s.nx:=λe=>by subst e;omega
    simp only;rw[af,ar h6,af,ar h5,Z p (.inl λq=>M (Y p q)),X p M]
  simp only;rw[af,ar λe=>by subst e;exact O C]
def cu.cut{s:HS}{v:HV}{sz:Nat}{F:bM}{ak:aP}(h:cu s v sz F ak)(n:Nat)(c:n<=ak.length)(h0:ak≠ []):∃o,v=.sl o 0 ak.length sz/\cu s (.sl o 0 n sz) sz F (ak.take n):=by
 obtain⟨d,f,m⟩:=h;rcases m with⟨rfl,rfl⟩|⟨o,t,p,g,rest,rfl,q,D,u,w,y,z,A⟩
 .exact absurd rfl h0
 have a:(ak.take n).length=n:=by rw[od];omega
 have hle:n*sz<=ak.length*sz:=ji _ c;have gw:Sz sz (ak.take n):=λr B=>d r (ag1 B)
 refine⟨o,rfl,gw,f,.inr ⟨o,t,p,g,rest,by rw[a],q,by rw[a];omega,λj C=>?_,w,y,z,A⟩⟩;rw[a]at C;rw[u j (by omega)];have:aD ak=aD (ak.take n)++aD (ak.drop n):=by rw[<-kH,Ep]
 rw[this,dD (by rw[ct gw,a];omega)]
def Ft{ak:aP}(c:Sz 1 ak)(i:Nat)(v:HV)(j:Nat)(d:j<ak.length)(n:i<ak.length):(aD (ak.set i [v]))[j]?=if j=i then some v else(aD ak)[j]?:=by
 have a:Sz 1 (ak.set i [v]):=by
  intro r m;rcases yk m with h|rfl
  .exact c r h
  rfl
 have f:=gO a j 0 (by rw[jk];exact d) (by omega);have g:=gO c j 0 d (by omega);rw[jl,iB]at f g;rw[f,g,List.getElem_set];by_cases h:i=j
 .subst h;simp
 simp[h,jY h]
def cu.jQ{s:HS}{v:HV}{F:bM}{ak:aP}(h:cu s v 1 F ak)(i:Nat)(D:i<ak.length)(x:HV)(w:cellsOf x=some [x]):
  ∃o s',Fp (some v) (some (.int .i64 (i:Int))) 1 s=.v (.ptr o (i*1)) s/\qh 1 (some (.ptr o (i*1))) (some x) s=.v .undef s'/\cu s' v 1 F (ak.set i [x])/\cV F s s'/\s'.nx=s.nx:=by
 obtain⟨J,y,V⟩:=h;rcases V with⟨rfl,rfl⟩|⟨o,t,a,g,rest,rfl,W,M,X,O,z,u,n⟩
 .simp at D
 have Y:i*1+1<=ak.length*1:=by omega
 have A:Sz 1 (ak.set i [x]):=by
  intro r Z;rcases yk Z with h|rfl
  .exact J r h
  rfl
 have gw:qh 1 (some (.ptr o (i*1))) (some x) s=bR (s.kT o (i*1) [x] t 0 a g (o::rest)) (λs'=>.v .undef s') .bad:=by rw[kD,w];simp only[dP,dB,bp];rw[lv,W];show bR (if 0<=i*1 then if i*1+ [x].length<=a then(match aj s.gr g with|some ms=>s.kT o (i*1) [x] t 0 a g ms|none=>none)else none else none) _ _=_;rw[au (fN _),au (by simp only[dB];omega),O]
 refine⟨o,?_⟩;rw[gw];have f:∀j,j<ak.length*1->fI (dh [x] (i*1) t) j=(aD (ak.set i [x]))[j]?:=by
  intro j hj;rw[fC,Ft J i x j (by omega) D];simp only[dB,jl];by_cases B:j=i
  .subst B;simp
  rw[ar (by omega),ar B,X j hj]
 cases rest with
 |nil=>refine⟨_,by simp[D],rfl,⟨A,y,.inr ⟨o,_,a,g,[],by rw[jk],by rw[af,au rfl],by rw[jk];exact M,by rw[jk];exact f,O,z,u,n⟩⟩,⟨aV _,rfl,λp q c=>?_,λp q c=>rfl⟩,rfl⟩;simp only;rw[af,ar λe=>by subst e;exact c (u p dr)]
 |cons m rest=>
  obtain⟨Q,E⟩:=ik o (i*1) (Nat.add (i*1) (aM [x])) (m::rest) s.h;have d:=kI s.h o (i*1) (Nat.add (i*1) (aM [x])) (m::rest);generalize h1:(bN s.h o (i*1) (Nat.add (i*1) (aM [x])) (m::rest)).1=h2 at Q d;generalize h3:(bN s.h o (i*1) (Nat.add (i*1) (aM [x])) (m::rest)).2=T at E d;have C:s.kT o (i*1) [x] t 0 a g (o::m::rest)=some {h:=av (some (.cells (dh [x] (i*1) t) 0 a g)) o h2,nx:=s.nx,gr:=av (some (o::T)) g s.gr,ty:=s.ty}:=by show(match bN s.h o (i*1) (Nat.add (i*1) (aM [x])) (o::m::rest)with|(h',H)=>some (HS.mk (av (some (.cells (dh [x] (i*1) t) 0 a g)) o h') s.nx (av (some H) g s.gr) s.ty))=_;rw[d]
  rw[C];refine⟨_,by simp[D],rfl,⟨A,y,.inr ⟨o,_,a,g,T,by rw[jk],by rw[af,au rfl],by rw[jk];exact M,by rw[jk];exact f,by rw[af,au rfl],λw=>z (E o w),λp q=>?_,n⟩⟩,⟨aV _,rfl,λp q c=>?_,λp q c=>?_⟩,rfl⟩
  .rcases bk.1 q with rfl|q
   .exact u p dr
   exact u p (cY _ (E p q))
  .simp only;rw[af,ar λe=>by subst e;exact c (u p dr)];exact Q p (.inl λw=>c (u p (cY _ w)))
  simp only;rw[af,ar λe=>by subst e;exact c n]
def il(s:HS)(o:Ky)(l:ai):Prop:=aj s.h o=some (.cells (cP l) 0 l.length o)/\aj s.gr o=some [o]/\o.toNat<s.nx.toNat
def il.frame{s s':HS}{o:Ky}{l:ai}{F:bM}(h:il s o l)(a:cV F s s')(c:¬F o):il s' o l:=⟨by rw[a.2.2.1 o h.2.2 c];exact h.1,by rw[a.2.2.2 o h.2.2 c];exact h.2.1,dJ h.2.2 a.1⟩
def il.set{s:HS}{o:Ky}{l:ai}(h:il s o l)(k:Nat)(f:k<l.length)(x:HV)(c:cellsOf x=some [x]):∃s',qh 1 (some (.ptr o k)) (some x) s=.v .undef s'/\il s' o (l.set k x)/\cV (λp=>p=o) s s'/\s'.nx=s.nx:=by refine⟨{h:=av (some (.cells (cP (l.set k x)) 0 l.length o)) o s.h,nx:=s.nx,gr:=s.gr,ty:=s.ty},?_,⟨by rw[af,au rfl,jk],h.2.1,h.2.2⟩,⟨aV _,rfl,λp d a=>by simp only;rw[af,ar a],λp d a=>rfl⟩,rfl⟩;rw[kD,c];simp only[dP,dB,bp];rw[lv,h.1,aq (fN _) (by simp only[dB];omega),h.2.1,aA (by simp only[dB];omega)];rfl
def il.get{s:HS}{o:Ky}{l:ai}(h:il s o l)(k:Nat)(a:k<l.length):eN (aj s.h o) k=l[k]?:=by rw[h.1,yh,au (fN _),au a]
def cV.refl{F:bM}{s:HS}:cV F s s:=⟨aV _,rfl,λ_ _ _=>rfl,λ_ _ _=>rfl⟩
abbrev tO:=HV×Nat×List ai
abbrev cq:=List tO
structure mM(s:HS)(o:Ky)(cells:ai)(ao:aW)(L:cq):Prop where
 bm:il s o cells
 co:ao o=none
 own:∀i v sz ak,L[i]?=some (v,sz,ak)->cu s v sz (λk=>ao k=some i) ak
section
variable{s:HS}{o:Ky}{cells:ai}{ao:aW}{L:cq}
def cu.one{v:HV}{sz:Nat}{F:bM}{ak:aP}(h:cu s v sz F ak):cellsOf v=some [v]:=by rcases h.2.2 with⟨rfl,_⟩|⟨o,t,a,g,rest,rfl,_⟩<;>rfl
def mM.append(h:mM s o cells ao L)(i:Nat){v:HV}{sz:Nat}{ak:aP}(t:L[i]?=some (v,sz,ak)){new:aP}(B:Sz sz new)(h0:new≠ []){bI:Nat}(C:ak.length+new.length<=bI):
  ∃f s' g,j0 sz bI none (some v) (some (.psl new)) s=.v f s'/\cellsOf f=some [f]/\mM s' o cells g (L.set i (f,sz,ak++new)):=by
 have u:=(aU.1 t).1;obtain⟨f,s',D,m,n,p⟩:=(h.own i v sz ak t).append B h0 C;have y:=Ky.aS s.nx;refine⟨f,s',λk=>if k=s.nx then some i else ao k,D,m.one,h.bm.frame n (by rw[h.co];simp),?_,λj w z q r=>?_⟩
 .rw[ar λe=>by have:=h.bm.2.2;rw[e]at this;omega];exact h.co
 rw[gl]at r;by_cases c:i=j
 .subst c;rw[au rfl,au u]at r;cases r;refine m.mono (λk a=>?_) (λk a=>?_)
  .rcases a with a|rfl
   .show(if k=s.nx then some i else ao k)=some i
    split
    .rfl
    exact a
   show(if s.nx=s.nx then some i else ao s.nx)=some i;rw[au rfl]
  have a:(if k=s.nx then some i else ao k)=some i:=a;rw[p]
  split at a
  .rename_i e;subst e;omega
  have:=(h.own i v sz ak t).2.1 k a;omega
 rw[ar c]at r;have A:=h.own j w z q r;refine(A.frame n (λk a d=>by have d:ao k=some i:=d;have a:ao k=some j:=a;rw[a]at d;cases d;exact c rfl)).mono (λk a=>?_) (λk a=>?_)
 .have E:=A.2.1 k a;show(if k=s.nx then some i else ao k)=some j;rw[ar λe=>by subst e;omega];exact a
 have a:(if k=s.nx then some i else ao k)=some j:=a;rw[p]
 split at a
 .cases a;exact absurd rfl c
 have:=A.2.1 k a;omega
def mM.field(h:mM s o cells ao L)(k:Nat)(d:k<cells.length){x:HV}(f:cellsOf x=some [x]):∃s',qh 1 (some (.ptr o k)) (some x) s=.v .undef s'/\mM s' o (cells.set k x) ao L:=by obtain⟨s',g,j,m,r⟩:=h.bm.set k d x f;exact⟨s',g,j,h.co,λi v n c q=>(h.own i v n c q).frame m (λp a e=>by subst e;have a:ao p=some i:=a;rw[h.co]at a;cases a)⟩
def mM.jQ(h:mM s o cells ao L)(i:Nat){v:HV}{ak:aP}(r:L[i]?=some (v,1,ak))(j:Nat)(u:j<ak.length){x:HV}(y:cellsOf x=some [x]):
  ∃g s',Fp (some v) (some (.int .i64 (j:Int))) 1 s=.v (.ptr g (j*1)) s/\qh 1 (some (.ptr g (j*1))) (some x) s=.v .undef s'/\mM s' o cells ao (L.set i (v,1,ak.set j [x])):=by
 have m:=(aU.1 r).1;obtain⟨g,s',z,A,B,t,C⟩:=(h.own i v 1 ak r).jQ j u x y;refine⟨g,s',z,A,h.bm.frame t (by rw[h.co];simp),h.co,λk w n d f=>?_⟩;rw[gl]at f;by_cases c:i=k
 .subst c;rw[au rfl,au m]at f;cases f;exact B
 rw[ar c]at f;exact(h.own k w n d f).frame t (λp q a=>by have a:ao p=some i:=a;have q:ao p=some k:=q;rw[q]at a;cases a;exact c rfl)
def mM.cut(h:mM s o cells ao L)(i:Nat){v:HV}{sz:Nat}{ak:aP}(m:L[i]?=some (v,sz,ak))(n:Nat)(p:n<=ak.length)(h0:ak≠ []):∃f,v=.sl f 0 ak.length sz/\mM s o cells ao (L.set i (.sl f 0 n sz,sz,ak.take n)):=by
 have g:=(aU.1 m).1;obtain⟨f,q,r⟩:=(h.own i v sz ak m).cut n p h0;refine⟨f,q,h.bm,h.co,λk w j a c=>?_⟩;rw[gl]at c;by_cases d:i=k
 .subst d;rw[au rfl,au g]at c;cases c;exact r
 rw[ar d]at c;exact h.own k w j a c
def mM.get(h:mM s o cells ao L)(k:Nat){x:HV}(a:cells[k]?=some x):eN (aj s.h o) k=some x:=by rw[h.bm.get k (aU.1 a).1,a]
def mM.len(h:mM s o cells ao L)(i:Nat){v:HV}{sz:Nat}{ak:aP}(a:L[i]?=some (v,sz,ak))(s1:HS):vm 0 (some v) s1=.v (.int .i64 (ak.length:Int)) s1:=(h.own i v sz ak a).len
def mM.start(h:il s o cells)(d:∀e∈L,e.1=.ah/\e.2.2=[]):mM s o cells (λ_=>none) L:=by refine⟨h,rfl,λi v m f g=>?_⟩;obtain⟨a,c⟩:=d _ (cE g);simp only at a c;subst a;subst c;exact⟨Sz.nil,λk j=>(by cases j),.inl ⟨rfl,rfl⟩⟩
end
structure dV(s:HS)(ao:aW)(L:cq):Prop where
 bd:∀k i,ao k=some i->k.toNat<s.nx.toNat
 top:∀k i,ao k=some i->i<L.length
 own:∀i v sz ak,L[i]?=some (v,sz,ak)->cu s v sz (λk=>ao k=some i) ak
section
variable{s:HS}{ao:aW}{L:cq}
def dV.append(h:dV s ao L)(i:Nat){v:HV}{sz:Nat}{ak:aP}(z:L[i]?=some (v,sz,ak)){new:aP}(B:Sz sz new)(h0:new≠ []){bI:Nat}(C:ak.length+new.length<=bI):
  ∃g s' m,j0 sz bI none (some v) (some (.psl new)) s=.v g s'/\cellsOf g=some [g]/\dV s' m (L.set i (g,sz,ak++new)):=by
 have n:=(aU.1 z).1;obtain⟨g,s',D,p,t,f⟩:=(h.own i v sz ak z).append B h0 C;have u:=Ky.aS s.nx;refine⟨g,s',λk=>if k=s.nx then some i else ao k,D,p.one,λk j a=>?_,λk j a=>?_,λj w y q r=>?_⟩
 .rw[f]
  split at a
  .rename_i e;subst e;omega
  have:=h.bd k j a;omega
 .rw[jk]
  split at a
  .cases a;exact n
  exact h.top k j a
 rw[gl]at r;by_cases c:i=j
 .subst c;rw[au rfl,au n]at r;cases r;refine p.mono (λk a=>?_) (λk a=>?_)
  .rcases a with a|rfl
   .show(if k=s.nx then some i else ao k)=some i
    split
    .rfl
    exact a
   show(if s.nx=s.nx then some i else ao s.nx)=some i;rw[au rfl]
  have a:(if k=s.nx then some i else ao k)=some i:=a;rw[f]
  split at a
  .rename_i e;subst e;omega
  have:=h.bd k i a;omega
 rw[ar c]at r;have A:=h.own j w y q r;refine(A.frame t (λk a d=>by have d:ao k=some i:=d;have a:ao k=some j:=a;rw[a]at d;cases d;exact c rfl)).mono (λk a=>?_) (λk a=>?_)
 .have E:=A.2.1 k a;show(if k=s.nx then some i else ao k)=some j;rw[ar λe=>by subst e;omega];exact a
 have a:(if k=s.nx then some i else ao k)=some j:=a;rw[f]
 split at a
 .cases a;exact absurd rfl c
 have:=h.bd k j a;omega
def dV.jQ(h:dV s ao L)(i:Nat){v:HV}{ak:aP}(r:L[i]?=some (v,1,ak))(j:Nat)(t:j<ak.length){x:HV}(u:cellsOf x=some [x]):
  ∃g s',Fp (some v) (some (.int .i64 (j:Int))) 1 s=.v (.ptr g (j*1)) s/\qh 1 (some (.ptr g (j*1))) (some x) s=.v .undef s'/\dV s' ao (L.set i (v,1,ak.set j [x])):=by
 have m:=(aU.1 r).1;obtain⟨g,s',y,z,A,B,C⟩:=(h.own i v 1 ak r).jQ j t x u;refine⟨g,s',y,z,λk i a=>by rw[C];exact h.bd k i a,λk i a=>by rw[jk];exact h.top k i a,λk w n f a=>?_⟩;rw[gl]at a;by_cases d:i=k
 .subst d;rw[au rfl,au m]at a;cases a;exact A
 rw[ar d]at a;exact(h.own k w n f a).frame B (λp q c=>by have c:ao p=some i:=c;have q:ao p=some k:=q;rw[q]at c;cases c;exact d rfl)
def dV.len(h:dV s ao L)(i:Nat){v:HV}{sz:Nat}{ak:aP}(a:L[i]?=some (v,sz,ak))(s1:HS):vm 0 (some v) s1=.v (.int .i64 (ak.length:Int)) s1:=(h.own i v sz ak a).len
def dV.push(h:dV s ao L)(sz:Nat):dV s ao (L++[(.ah,sz,[])]):=by
 have m:∀k,ao k≠some L.length:=λk a=>by have:=h.top k _ a;omega
 refine⟨h.bd,λk i a=>by have:=h.top k i a;simp;omega,λi v f g d=>?_⟩;rw[JM]at d
 split at d
 .exact h.own i v f g d
 rename_i n;obtain⟨j,c⟩:=aU.1 d;simp only[dB]at j;have:i=L.length:=by omega
 subst this;simp at c;obtain⟨rfl,rfl,rfl⟩:=c;exact⟨Sz.nil,λk a=>absurd a (m k),.inl ⟨rfl,rfl⟩⟩
def dV.start(f:∀e∈L,e.1=.ah/\e.2.2=[]):dV s (λ_=>none) L:=by refine⟨λk i a=>(by cases a),λk i a=>(by cases a),λi v j g h=>?_⟩;obtain⟨c,d⟩:=f _ (cE h);simp only at c d;subst c;subst d;exact⟨Sz.nil,λk a=>(by cases a),.inl ⟨rfl,rfl⟩⟩
def oj.map{α:Type}{n:Nat}{f g:α->HV}:∀{l:List α},(∀x∈l,Vw s n (f x) (g x))->oj s n (l.map f) (l.map g)
 |[],_=>.nil
 |x::r,h=>.cons (h x dr) (oj.map λy a=>h y (cY _ a))
def cu.vwH{v:HV}{n:Nat}{F:bM}{α:Type}{f g:α->HV}{l:List α}(h:cu s v 1 F (l.map λx=>[f x]))(j:∀x∈l,Vw s n (f x) (g x)):Vw s (n+1) v (.psl (l.map λx=>[g x])):=by
 have m:=h;have a:∀(h:α->HV) (l:List α),aD (l.map λx=>[h x])=l.map h:=by
  intro h l
  induction l with|nil=>rfl|cons x r ih=>simp[ih]
 obtain⟨p,_,c⟩:=h;rcases c with⟨rfl,h0⟩|⟨o,t,q,u,rest,rfl,w,y,_⟩
 .have:l=[]:=by simpa using h0
  subst this;exact .ah
 have d:Sz 1 (l.map λx=>[g x]):=Sz.map (f:=λx=>[g x]) (λx=>rfl) l;refine Vw.sl (l:=l.map f) (l':=l.map g) (by rw[<-a f l];exact m.cells.2) (oj.map j) (λ_=>?_) (λh=>?_)
 .rw[<-a g l];have:=pH d;simpa using this
 simp only[bz]at h;rw[sf.1 h];rfl
def dV.frame{s':HS}(h:dV s ao L)(c:cV (λ_=>False) s s'):dV s' ao L:=
 ⟨λk i d=>dJ (h.bd k i d) c.1,h.top,λi v f a g=>(h.own i v f a g).frame c (λ_ _ h=>h)⟩
def cV.alloc(b:Ob)(ms:cg):cV (λ_=>False) s {h:=av (some b) s.nx s.h,nx:=s.nx.succ,gr:=av (some ms) s.nx s.gr,ty:=s.ty}:=by
 have c:=Ky.aS s.nx;refine⟨by simp only;omega,rfl,λp a _=>?_,λp a _=>?_⟩
 .simp only;rw[af,ar λe=>by subst e;omega]
 simp only;rw[af,ar λe=>by subst e;omega]
def cu.gP{v:HV}{sz:Nat}{F:bM}{ak:aP}(h:cu s v sz F ak)(h0:ak≠ []):∃o,v=.sl o 0 ak.length sz:=by
 rcases h.2.2 with⟨rfl,a⟩|⟨o,t,c,g,rest,rfl,_⟩
 .exact absurd a h0
 exact⟨o,rfl⟩
def cu.cell{o:Ky}{n:Nat}{F:bM}{ak:aP}(h:cu s (.sl o 0 n 1) 1 F ak)(j:Nat)(c:j<ak.length):eN (aj s.h o) j=(ak[j])[0]?:=by
 obtain⟨m,a,_,d,_⟩:=h.at (k:=.i64) j c;rcases h.2.2 with⟨a,_⟩|⟨p,t,q,g,rest,f,_⟩
 .cases a
 cases f;rw[JD,au c,au rfl]at a;simp at a;subst a;have:=d 0 (by omega);simpa using this
open Classical in
def dV.join{s':HS}(h:dV s ao L)(u:cV (λ_=>False) s s'){v:HV}{sz:Nat}{F:bM}{ak:aP}(m:cu s' v sz F ak)(z:∀k,F k->s.nx.toNat<=k.toNat):dV s' (λk=>if F k then some L.length else ao k) (L++[(v,sz,ak)]):=by
 have c:∀k i,i<L.length->((if F k then some L.length else ao k)=some i↔ao k=some i):=by
  intro k i f;by_cases a:F k
  .have:ao k≠some i:=λA=>by have:=h.bd k i A;have:=z k a;omega
   simp only[a,bp];constructor
   .intro n;cases n;omega
   intro n;exact absurd n this
  simp only[a,bD]
 refine⟨λk i a=>?_,λk i a=>?_,λi w p g f=>?_⟩
 .split at a
  .rename_i q;exact m.2.1 k q
  exact dJ (h.bd k i a) u.1
 .rw[bZ,dB]
  split at a
  .cases a;omega
  have:=h.top k i a;omega
 rw[JM]at f
 split at f
 .rename_i d;have y:=(h.own i w p g f).frame u (λ_ _ h=>h);refine y.mono (λk a=>(c k i d).2 a) (λk a=>?_);exact y.2.1 k ((c k i d).1 a)
 rename_i d;obtain⟨r,j⟩:=aU.1 f;simp only[dB]at r;have t:i=L.length:=by omega
 subst t;simp at j;obtain⟨rfl,rfl,rfl⟩:=j;refine m.mono (λk a=>by show(if F k then some L.length else ao k)=some L.length;rw[au a]) (λk a=>?_);have a:(if F k then some L.length else ao k)=some L.length:=a
 split at a
 .rename_i q;exact m.2.1 k q
 have:=h.top k _ a;omega
end
section call
variable{L:jE}{prog:Nat->Option HF}
def MF{c:HC}{e:En}{s:HS}{o:Out}(h:ev (eH L prog) (.loop c) e s=o)(a:Good o):eH L prog (.loop c e s)=o:=dm h a
def BI{c:HC}{e:En}{s:HS}:ev (eH L prog) (.loop c) e s=(ev (eH L prog) c e s).cA (λe' s'=>eH L prog (.loop c e' s')):=rfl
def JN{c:HC}(n:Nat)(I:Nat->En->HS->Prop)(Q:Out->Prop)(i:Nat)(e:En)(s:HS)(m:i<=n)(f:I i e s)
  (round:∀i e s,i<n->I i e s->(∃e' s',ev (eH L prog) c e s=.code .normal e' s'/\I (i+1) e' s')∨(gJ (ev (eH L prog) c e s)/\Q (ev (eH L prog) c e s)))
  (last:∀e s,I n e s->gJ (ev (eH L prog) c e s)/\Q (ev (eH L prog) c e s)):
  ∃o,ev (eH L prog) (.loop c) e s=o/\gJ o/\Q o:=by
 obtain⟨k,p⟩:∃k,n-i=k:=⟨_,rfl⟩
 induction k generalizing i e s with
 |zero=>
  obtain rfl:i=n:=by omega
  obtain⟨a,d⟩:=last e s f;exact⟨_,by rw[BI,a.cA],a,d⟩
 |succ k ih=>
  rcases round i e s (by omega) f with⟨e',s',a,d⟩|⟨a,d⟩
  .obtain⟨o,h,g,j⟩:=ih (i+1) e' s' (by omega) d (by omega);exact⟨o,by rw[BI,a,jZ];exact MF h g.MD,g,j⟩
  exact⟨_,by rw[BI,a.cA],a,d⟩
def eI{c:HC}{e:En}{s:HS}{o:Out}(f:ev (eH L prog) (.loop c) e s=o)(n:Nat)(I:Nat->En->HS->Prop)(Q:Out->Prop)(i:Nat)(d:i<=n)(a:I i e s)
  (round:∀i e s r,i<n->I i e s->ev (eH L prog) c e s=r->(∃e' s',r=.code .normal e' s'/\I (i+1) e' s')∨(gJ r/\Q r))
  (last:∀e s r,I n e s->ev (eH L prog) c e s=r->gJ r/\Q r):Q o:=by
 obtain⟨j,g,m,h⟩:=JN n I Q i e s d a (λi e s d a=>round i e s _ d a rfl) (λe s a=>last e s _ a rfl);rw[<-f,g];exact h
def ajY{L:jE}{prog:Nat->Option HF}{c:HC}{e:En}{s:HS}(n:Nat)(I:Nat->En->HS->Prop){Q:Out->Prop}(i:Nat)(a:i<=n)(d:I i e s)
  (round:∀i e s r,i<n->I i e s->ev (eH L prog) c e s=r->(∃e' s',r=.code .normal e' s'/\I (i+1) e' s')∨(gJ r/\Q r))
  (last:∀e s r,I n e s->ev (eH L prog) c e s=r->gJ r/\Q r):∀o,ev (eH L prog) (.loop c) e s=o->Q o:=λ_ f=>eI f n I Q i a d round last
abbrev Up(N:Nat):bM:=λk=>N<=k.toNat
def zz(N:Nat)(p:HS->Prop):Prop:=∀s1 s2,p s1->cV (Up N) s1 s2->p s2
def H3(L:jE)(prog:Nat->Option HF)(f:Nat)(pre post items:ai):Prop:=
 ∀(l:Ky) (G:bM) (I:ai->HS->Prop) (Fn:HS->Prop) (s:HS),(∀k,G k->k.toNat<s.nx.toNat)->(∀x,zz s.nx.toNat (I x))->zz s.nx.toNat Fn->
  (∀x rest s1,s.nx.toNat<=s1.nx.toNat->I (x::rest) s1->∃b s2,eH L prog (.round l [x] s1)=.val (.bool b) s2/\cV G s1 s2/\(b=true->I rest s2)/\(b=false->Fn s2))->
  ∀rest,I (items++rest) s->∃s',eH L prog (.call f (pre++[.iK l]++post) s)=.val (.cO []) s'/\cV (λk=>G k∨Up s.nx.toNat k) s s'/\(I rest s'∨Fn s')
end call
def cV.mono{F G:bM}{s s':HS}(h:cV F s s')(d:∀k,F k->G k):cV G s s':=⟨h.1,h.2.1,λp a hG=>h.2.2.1 p a λc=>hG (d p c),λp a hG=>h.2.2.2 p a λc=>hG (d p c)⟩
def cV.trans{F:bM}{s s' a:HS}(h:cV F s s')(k:cV F s' a):cV F s a:=⟨fu h.1 k.1,k.2.1.trans h.2.1,λp c d=>(k.2.2.1 p (dJ c h.1) d).trans (h.2.2.1 p c d),λp c d=>(k.2.2.2 p (dJ c h.1) d).trans (h.2.2.2 p c d)⟩
section
variable{L:jE}{prog:Nat->Option HF}{l:Ky}{s s1 s2:HS}{e e1 e2:En}{ps:az}{gV body:HC}
abbrev sg(a:Nat)(c:Option HC)(e:En)(ps:az)(gV body:HC):Option Ob:=some (.loop a c e ps gV body)
def BJ{v:HV}{p:Nat}{o:Out}(q:aj s.h l=sg 0 none e [p] gV body)(r:ev (eH L prog) gV (.cons p v e) s=.code .normal e1 s1)(t:aj s1.h l=sg 0 none e [p] gV body)
    (u:ev (eH L prog) body e1 (s1.aJ l (.loop 2 none e [p] gV body))=o)(n:∀e2 s2,(o=.code .normal e2 s2∨o=.code .ret e2 s2)->aj s2.h l=sg 2 none e [p] gV body):
    (∀e2 s2,o=.code .normal e2 s2->eH L prog (.round l [v] s)=.val (.bool true) (s2.aJ l (.loop 0 none e [p] gV body)))/\
    (∀e2 s2,o=.code .ret e2 s2->eH L prog (.round l [v] s)=.val (.bool false) (s2.aJ l (.loop 1 (some .ret) e [p] gV body))):=by
  have c:∀e2 s2 x b f a,o=.code x e2 s2->((x=.normal/\b=true/\f=0/\a=none)∨(x=.ret/\b=false/\f=1/\a=some HC.ret))->eH L prog (.round l [v] s)=.val (.bool b) (s2.aJ l (.loop f a e [p] gV body)):=by
    intro e2 s2 x b f a j w;refine dm ?_ trivial;show fB (eH L prog) l [v] s=_;unfold fB;rw[q];show(bif Nat.beq (aM [v]) (aM [p])then _ else _)=_;rw[cC,cC,cR];simp only[dB,eV,cond_true];have y:oK e [p] [v]=.cons p v e:=by simp[oK]
    rw[y,r];show(match aj s1.h l with
        |some (.loop f z A m g d)=>bif Nat.beq f 0 then(match ev (eH L prog) body e1 (s1.aJ l (.loop 2 z A m g d))with
          |.code .normal _ s2=>fK l 0 none s2
          |.code .ret _ s2=>fK l 1 (some .ret) s2
          |.code (.exit i) _ s2=>fK l 1 (some (.exit i)) s2
          |_=>.bad 11)else .bad 17
        |_=>.bad 18)=_
    rw[t];show(match ev (eH L prog) body e1 (s1.aJ l (.loop 2 none e [p] gV body))with
          |.code .normal _ s2=>fK l 0 none s2
          |.code .ret _ s2=>fK l 1 (some .ret) s2
          |.code (.exit i) _ s2=>fK l 1 (some (.exit i)) s2
          |_=>.bad 11)=_
    rw[u,j];rcases w with⟨rfl,rfl,rfl,rfl⟩|⟨rfl,rfl,rfl,rfl⟩
    . show fK l 0 none s2=_
      unfold fK;rw[n e2 s2 (.inl j)];rfl
    show fK l 1 (some .ret) s2=_;unfold fK;rw[n e2 s2 (.inr j)];rfl
  exact⟨λe2 s2 h=>c e2 s2 .normal true 0 none h (.inl ⟨rfl,rfl,rfl,rfl⟩),λe2 s2 h=>c e2 s2 .ret false 1 (some .ret) h (.inr ⟨rfl,rfl,rfl,rfl⟩)⟩
def Lc(s:HS)(e:En)(ps:az)(gV body:HC):HS:={h:=av (some (.loop 0 none e ps gV body)) s.nx s.h,nx:=s.nx.succ,gr:=s.gr,ty:=s.ty}
def vR{x:X}{f:Nat}{a b:ai}{v:HV}{e':En}{UI:az}{H4 Am:HC}(d:bw x e=some (.fn f a b))(c:eH L prog (.call f (a++[.iK s.nx]++b) (Lc s e ps gV body))=.val v s2):
  (aj s2.h s.nx=sg 0 none e' UI H4 Am->lG (eH L prog) x ps gV body e s=.code .normal e (s2.kill s.nx))/\(aj s2.h s.nx=sg 1 (some .ret) e' UI H4 Am->lG (eH L prog) x ps gV body e s=.code .ret e (s2.kill s.nx)):=by
 have c:eH L prog (.call f (a++[HV.iK s.nx]++b) {h:=av (some (.loop 0 none e ps gV body)) s.nx s.h,nx:=s.nx.succ,gr:=s.gr,ty:=s.ty})=.val v s2:=c;constructor
 .intro h;unfold lG;rw[d];simp only[c,h];rfl
 intro h;unfold lG;rw[d];simp only[c,h];rfl
def dW{o p:Ky}{b:Ob}:aj (s.aJ o b).h p=if p=o then some b else aj s.h p:=by show aj (av (some b) o s.h) p=_;rw[af]
def cV.aJ{G:bM}{o:Ky}{b:Ob}(hG:G o):cV G s (s.aJ o b):=by refine⟨aV _,rfl,λp c a=>?_,λp c a=>rfl⟩;rw[dW,ar λe=>by subst e;exact a hG]
@[simp]def sh{o p:Ky}:aj (s.kill o).h p=if p=o then none else aj s.h p:=by show aj (av none o s.h) p=_;rw[af]
def cV.rf:cV (λ_=>False) s (Lc s e ps gV body):=by have c:=Ky.aS s.nx;refine⟨by simp only[Lc];omega,rfl,λp a _=>?_,λp a _=>rfl⟩;simp only[Lc];rw[af,ar λe=>by subst e;omega]
end
def Gx:∀(new a l:ai),new.length=l.length->Iv (a++l) a.length new=a++new
 |[],a,l,h=>by have:l=[]:=ja h.symm;subst this;rfl
 |v::r,a,[],h=>by simp at h
 |v::r,a,w::l,h=>by rw[yg];have:=Gx r (a++[v]) l (by simpa using h);simpa using this
def il.put{s:HS}{o:Ky}{l new:ai}{v:HV}(h:il s o l)(d:cellsOf v=some new)(c:new.length=l.length):∃s',qh l.length (some (.ptr o 0)) (some v) s=.v .undef s'/\il s' o new/\cV (λp=>p=o) s s'/\s'.nx=s.nx:=by refine⟨{h:=av (some (.cells (cP new) 0 l.length o)) o s.h,nx:=s.nx,gr:=s.gr,ty:=s.ty},?_,⟨by rw[af,au rfl,c],h.2.1,h.2.2⟩,⟨aV _,rfl,λp f a=>by simp only;rw[af,ar a],λp f a=>rfl⟩,rfl⟩;rw[kD,d];simp only[dP,c,bp];rw[lv,h.1,aq (fN _) (by omega),h.2.1,aA (by omega)];have:=Gx new [] l c;simp only[bq,List.length_nil]at this;rw[this];rfl
def il.load{s:HS}{o:Ky}{l:ai}(h:il s o l):fQ (aj s.h o) 0 l.length=some l:=by rw[h.1,an (aV _) (by omega) (by omega)];simp
def il.kill{s:HS}{o k:Ky}{l:ai}(h:il s o l)(a:o≠k):il (s.kill k) o l:=⟨by rw[sh,ar a];exact h.1,h.2.1,h.2.2⟩
def LU:jE:={bt:=166,It:=5,dw:=113,str:=88,fmt:=201,ve:=some 6,Iu:=[89,169,170,171]}
abbrev R:Task->Out:=eH LU U.prog
def dR(k:Nat){d a:Nat}{keep:az}{c:List Rs}{b:HC}(f:U.prog k=some ⟨d,a,keep,c,b,true⟩)(g:qC LU k=true) ⦃args:ai⦄ ⦃v:HV⦄ ⦃s:HS⦄ (h:pF c (bO R b (bc args 0) s0)=some v) (j:args.length=a:=by rfl) (m:dv args=true:=by simp):R (.call k args s)=.val v s:=RK k _ args v s f g rfl j m h
def Cl(k:Nat){d a:Nat}{keep:az}{c:List Rs}{b:HC}(f:U.prog k=some ⟨d,a,keep,c,b,false⟩)(g:qC LU k=true) ⦃args:ai⦄ ⦃v:HV⦄ ⦃s s':HS⦄ (j:args.length=a) (h:∃x e s1,ev R b (bc args 0) s=.code x e s1/\(x=.normal∨x=.ret)/\ml (dF e s1 c) s1=.val v s'):R (.call k args s)=.val v s':=RL k _ args v s s' f g rfl j h
def UJ(k:Nat){a c:Nat}{keep:az}{d:List Rs}{b:HC}(f:U.prog k=some ⟨a,c,keep,d,b,true⟩)(g:qC LU k=true) ⦃args l:ai⦄ ⦃v:HV⦄ ⦃s:HS⦄ (j:cI args=false) (m:oj s 16 args l) (n:dv l=true) (p:fp v=true) (h:∀s,R (.call k l s)=.val v s):R (.call k args s)=.val v s:=RR k _ args l v s f g rfl j m n p (h s0)
section
variable{args l:ai}{v:HV}{s:HS}
def q8:=dR 3 rfl rfl
def v8:=UJ 3 rfl rfl
def Xs:=dR 4 rfl rfl
def q30:=dR 5 rfl rfl
def q33:=dR 7 rfl rfl
def q32:=dR 8 rfl rfl
def q34:=dR 9 rfl rfl
def q37:=dR 10 rfl rfl
def v37:=UJ 10 rfl rfl
def q38:=dR 11 rfl rfl
def q31:=dR 12 rfl rfl
def q15:=dR 13 rfl rfl
def q39:=dR 14 rfl rfl
def q10:=dR 15 rfl rfl
def q66:=dR 16 rfl rfl
def q67:=dR 17 rfl rfl
def Xt:=dR 25 rfl rfl
def q70:=dR 26 rfl rfl
def v70:=UJ 26 rfl rfl
def q71:=dR 27 rfl rfl
def q18:=dR 28 rfl rfl
def q69:=dR 29 rfl rfl
def q74:=dR 30 rfl rfl
def q75:=dR 31 rfl rfl
def q68:=dR 32 rfl rfl
def q46:=dR 33 rfl rfl
def q48:=dR 34 rfl rfl
def q50:=dR 35 rfl rfl
def q76:=dR 36 rfl rfl
def q62:=dR 37 rfl rfl
def q77:=dR 38 rfl rfl
def q78:=dR 39 rfl rfl
def n79:=Cl 40 rfl rfl
def q9:=dR 41 rfl rfl
def q24:=dR 42 rfl rfl
def q96:=dR 43 rfl rfl
def q45:=dR 50 rfl rfl
def q84:=dR 51 rfl rfl
def q85:=dR 52 rfl rfl
def n97:=Cl 53 rfl rfl
def n98:=Cl 54 rfl rfl
def q90:=dR 55 rfl rfl
def q99:=dR 56 rfl rfl
def acR:=dR 57 rfl rfl
def acS:=UJ 57 rfl rfl
def acT:=Cl 58 rfl rfl
def q57:=dR 59 rfl rfl
def q93:=dR 60 rfl rfl
def acU:=dR 61 rfl rfl
def acV:=dR 62 rfl rfl
def acW:=dR 63 rfl rfl
def acX:=dR 64 rfl rfl
def Xu:=dR 65 rfl rfl
def q59:=dR 66 rfl rfl
def q60:=dR 67 rfl rfl
def acY:=dR 68 rfl rfl
def acZ:=dR 69 rfl rfl
def ac0:=dR 70 rfl rfl
def ac1:=dR 71 rfl rfl
def ac2:=dR 72 rfl rfl
def ac3:=dR 75 rfl rfl
def q82:=dR 80 rfl rfl
def q86:=dR 82 rfl rfl
def ac4:=Cl 83 rfl rfl
def ac5:=dR 84 rfl rfl
def ac6:=dR 85 rfl rfl
def ac7:=dR 86 rfl rfl
def ac8:=Cl 87 rfl rfl
def ac9:=dR 90 rfl rfl
def ada:=dR 91 rfl rfl
def adb:=dR 92 rfl rfl
def ade:=dR 93 rfl rfl
def adf:=dR 94 rfl rfl
def adg:=dR 95 rfl rfl
def q28:=dR 96 rfl rfl
def adh:=dR 101 rfl rfl
def adi:=dR 102 rfl rfl
def adj:=dR 103 rfl rfl
def adk:=dR 104 rfl rfl
def adl:=dR 105 rfl rfl
def adm:=dR 106 rfl rfl
def adn:=dR 107 rfl rfl
def ajy:=dR 110 rfl rfl
def ado:=dR 111 rfl rfl
def adp:=Cl 112 rfl rfl
def adq:=dR 114 rfl rfl
def adr:=UJ 114 rfl rfl
def ads:=dR 115 rfl rfl
def adt:=dR 116 rfl rfl
def adu:=dR 117 rfl rfl
def adv:=dR 118 rfl rfl
def adw:=dR 120 rfl rfl
def adx:=dR 121 rfl rfl
def ady:=dR 122 rfl rfl
def RU:=Cl 123 rfl rfl
def adz:=dR 124 rfl rfl
def ajz:=dR 125 rfl rfl
def ajA:=UJ 125 rfl rfl
def ajb:=Cl 126 rfl rfl
def adA:=dR 127 rfl rfl
def adB:=dR 128 rfl rfl
def adC:=dR 129 rfl rfl
def adD:=dR 130 rfl rfl
def Xv:=dR 131 rfl rfl
def adE:=UJ 131 rfl rfl
def adF:=dR 132 rfl rfl
def adG:=Cl 133 rfl rfl
def adH:=Cl 134 rfl rfl
def RV:=dR 135 rfl rfl
def adI:=dR 136 rfl rfl
def adJ:=dR 138 rfl rfl
def adK:=dR 139 rfl rfl
def adL:=dR 140 rfl rfl
def adM:=dR 142 rfl rfl
def adN:=dR 143 rfl rfl
def ajB:=dR 144 rfl rfl
def v171:=UJ 144 rfl rfl
def ajC:=dR 145 rfl rfl
def ajD:=dR 146 rfl rfl
def ajE:=dR 147 rfl rfl
def ajF:=dR 148 rfl rfl
def ajG:=dR 149 rfl rfl
def ajH:=dR 150 rfl rfl
def ajI:=dR 151 rfl rfl
def ajJ:=dR 152 rfl rfl
def adO:=dR 153 rfl rfl
def adP:=dR 154 rfl rfl
def adQ:=dR 155 rfl rfl
def adR:=dR 156 rfl rfl
def adS:=dR 157 rfl rfl
def Xw:=dR 158 rfl rfl
def adT:=dR 159 rfl rfl
def adU:=dR 160 rfl rfl
def adV:=dR 161 rfl rfl
def adW:=dR 162 rfl rfl
def adX(a:cI args=false)(c:oj s 16 args l)(d:dv l=true)(f:gy U.f195 R l=true)(h:∀s,R (.call 162 l s)=.val v s):R (.call 162 args s)=.val v s:=vQ 162 U.f195 args l v s rfl rfl rfl a c d f (h s0)
def adY:=dR 163 rfl rfl
def adZ:=Cl 164 rfl rfl
def ad0:=dR 165 rfl rfl
def ad1:=dR 166 rfl rfl
def ad2(a:cI args=false)(c:oj s 16 args l)(d:dv l=true)(f:gy U.f199 R l=true)(h:∀s,R (.call 166 l s)=.val v s):R (.call 166 args s)=.val v s:=vQ 166 U.f199 args l v s rfl rfl rfl a c d f (h s0)
def ad3:=dR 167 rfl rfl
def ad4(a:cI args=false)(c:oj s 16 args l)(d:dv l=true)(f:gy U.f200 R l=true)(h:∀s,R (.call 167 l s)=.val v s):R (.call 167 args s)=.val v s:=vQ 167 U.f200 args l v s rfl rfl rfl a c d f (h s0)
def ad5:=dR 168 rfl rfl
def ad6(a:cI args=false)(c:oj s 16 args l)(d:dv l=true)(f:gy U.f201 R l=true)(h:∀s,R (.call 168 l s)=.val v s):R (.call 168 args s)=.val v s:=vQ 168 U.f201 args l v s rfl rfl rfl a c d f (h s0)
def ad7{s':HS}{a:ai}{c:aP}(h:∃x e s1,ev R U.Ju (bc [.psl (a::c)] 0) s=.code x e s1/\(x=.normal∨x=.ret)/\ml (dF e s1 [.tmp 2]) s1=.val v s'):R (.call 169 [.psl (a::c)] s)=.val v s':=Gu 169 U.f202 a c v s s' rfl rfl rfl rfl h
def ad8:R (.call 170 [.psl []] s)=.val (.psl []) s:=JE 170 s rfl rfl
def ad9{a:ai}{c:aP}(d:dv [.psl (a::c)]=true)(h:pF [.tmp 2] (bO R U.Q9 (bc [.psl (a::c)] 0) s0)=some v):R (.call 170 [.psl (a::c)] s)=.val v s:=Mu 170 U.f203 a c v s rfl rfl rfl rfl d h
def aea:R (.call 171 [.psl []] s)=.val (.psl []) s:=JE 171 s rfl rfl
def aeb{s':HS}{a:ai}{c:aP}(h:∃x e s1,ev R U.Jv (bc [.psl (a::c)] 0) s=.code x e s1/\(x=.normal∨x=.ret)/\ml (dF e s1 [.tmp 2]) s1=.val v s'):R (.call 171 [.psl (a::c)] s)=.val v s':=Gu 171 U.f204 a c v s s' rfl rfl rfl rfl h
def aec:=dR 172 rfl rfl
def aed:=dR 173 rfl rfl
def Xx:=Cl 174 rfl rfl
def Xy:=Cl 175 rfl rfl
def ajK:=dR 176 rfl rfl
def aee:=dR 177 rfl rfl
def aef:=dR 178 rfl rfl
def aeg:=dR 179 rfl rfl
def Xz:=dR 180 rfl rfl
def aeh:=UJ 180 rfl rfl
def aei:=Cl 181 rfl rfl
def XA:=Cl 182 rfl rfl
def aej:=Cl 183 rfl rfl
def aek:=dR 184 rfl rfl
def XB:=UJ 184 rfl rfl
def ael:=dR 185 rfl rfl
def XC:=Cl 186 rfl rfl
def MG:=Cl 187 rfl rfl
def aem:=dR 188 rfl rfl
def aen:=dR 189 rfl rfl
def aeo:=dR 190 rfl rfl
def aep:=dR 192 rfl rfl
def aeq:=dR 193 rfl rfl
def aer:=dR 194 rfl rfl
def aes:=dR 195 rfl rfl
def aet:=Cl 196 rfl rfl
def aeu:=dR 197 rfl rfl
def aev:=dR 200 rfl rfl
end
def dH(m:Mv):Bool:=m.kind=3/\m.n= -1
def dS(m:Mv):Bool:=m.kind=1∨m.kind=2
def rb(m:Mv):Mv:=⟨m.arg,0,m.kind,m.n⟩
def eh(b:Bs):Bool:=1<=b.n/\b.n<=64
def w28(m:Mv)(s:HS):R (.call 96 [.agg m.c] s)=.val (.bool (dH m)) s:=by refine q28 ?_;by_cases h:m.kind=3<;>simp[U.b28,h,aa,dH]
def w62(n a b:Int)(s:HS):R (.call 37 [iV n,iV a,iV b] s)=.val (.bool (a<=n/\n<=b)) s:=by refine q62 ?_;by_cases h:a<=n<;>simp[U.b62,h,aa]
def w60(b:Bs)(s:HS):R (.call 67 [.agg b.c] s)=.val (.bool (eh b)) s:=by refine q60 ?_;simp[U.b60,aa,eh,w62]
def w75(m:Mv)(s:HS):R (.call 31 [.agg m.c] s)=.val (.bool (dS m)) s:=by refine q75 ?_;by_cases h:m.kind=1<;>simp[U.b75,h,aa,dS]
def gm(t:Ty):Bool:=eh t.res&&t.ps.all eh&&(t.ps.isEmpty|| !t.res.cell)
def pI(t:Ty):Bool:=5<t.ps.length
def aQ(a:Ar):Int:=if 8<a.ids.length∨a.ids.any pI then 5 else if !eh a.root||a.ids.any (λt=> !gm t)then 4 else 0
def fz(a:Ar):Prop:=a.ids.length<4611686018427387904/\∀t∈a.ids,t.ps.length<4611686018427387904
def RW(b:Bs)(s:HS):R (.call 105 [.agg b.c] s)=.val (.bool (eh b)) s:=by refine adl ?_;by_cases h:1<=b.n<;>simp[U.V2,h,aa,eh]
def aew(b:Bs)(s:HS):R (.call 120 [.agg b.c] s)=.val (.bool (!eh b)) s:=by refine adw ?_;have:=RW b;simp at this;simp[U.V8,aa,this]
def aex(t:Ty)(s:HS):R (.call 101 [.agg t.c] s)=.val (.bool (pI t)) s:=by refine adh ?_;simp[U.VZ,aa,pI];omega
def aey(p:Bs->Bool)(k:Nat)(l:se)(h:∀b∈l,∀s,R (.call k [.agg b.c] s)=.val (.bool (p b)) s)(a:l.length<4611686018427387904)(s:HS):R (.call 142 [.psl (l.map Bs.c),.fn k [] []] s)=.val (iV (if l.any p then l.findIdx p else-1)) s:=by
 refine adM ?_;simp[U.Wf];generalize B:bO R (.loop U.xH) _ _=o;have C:=bh B l.length
  (λi e s'=>s'=s0/\look e 0=some (.psl (l.map Bs.c))/\look e 1=some (.fn k [] [])/\look e 7=some (iV l.length)/\look e 8=some (iV i)/\∀j (n:j<i) (a:j<l.length),p l[j]=false)
  (λo=>(∃i q,∃d:i<l.length,o=.code .ret q s0/\look q 4=some (iV i)/\p l[i]=true/\∀j (n:j<i) (a:j<l.length),p l[j]=false)∨(∃q,o=.code (.exit 0) q s0/\∀j (a:j<l.length),p l[j]=false))
  0 (by omega) (by simp)
  (λi e s' r d ⟨y,h0,u,t,w,f⟩ g=>by
   subst y;have z:=h l[i] (cb d);simp at z;cases m:p l[i]
   .simp[U.xH,h0,u,t,w,d,br d (re a),z,m]at g;subst g;refine .inl ⟨_,_,rfl,rfl,by simp[h0],by simp[u],by simp[t],by simp,λj n a=>?_⟩;by_cases A:j=i
    .subst A;exact m
    exact f j (by omega) a
   simp[U.xH,h0,u,t,w,d,z,m]at g;subst g;exact .inr ⟨by simp,.inl ⟨i,_,d,rfl,by simp,m,f⟩⟩)
  (λe s' r ⟨y,h0,u,t,w,f⟩ g=>by
   subst y;simp[U.xH,t,w]at g;subst g;exact⟨by simp,.inr ⟨_,rfl,λj a=>f j a a⟩⟩)
 clear B;rcases C with⟨i,q,d,rfl,D,m,f⟩|⟨q,rfl,f⟩
 .simp[D,aa];rw[au ⟨_,cb d,m⟩,(Fu d).2 ⟨m,λj n=>f j n (by omega)⟩]
 simp[aa];intro x E;obtain⟨j,n,rfl⟩:=eO.1 E;exact f j n
def aez(p:Ty->Bool)(k:Nat)(l:uJ)(h:∀b∈l,∀s,R (.call k [.agg b.c] s)=.val (.bool (p b)) s)(a:l.length<4611686018427387904)(s:HS):R (.call 122 [.psl (l.map Ty.c),.fn k [] []] s)=.val (iV (if l.any p then l.findIdx p else-1)) s:=by
 refine ady ?_;simp[U.Wa];generalize B:bO R (.loop U.xE) _ _=o;have C:=bh B l.length
  (λi e s'=>s'=s0/\look e 0=some (.psl (l.map Ty.c))/\look e 1=some (.fn k [] [])/\look e 7=some (iV l.length)/\look e 8=some (iV i)/\∀j (n:j<i) (a:j<l.length),p l[j]=false)
  (λo=>(∃i q,∃d:i<l.length,o=.code .ret q s0/\look q 4=some (iV i)/\p l[i]=true/\∀j (n:j<i) (a:j<l.length),p l[j]=false)∨(∃q,o=.code (.exit 0) q s0/\∀j (a:j<l.length),p l[j]=false))
  0 (by omega) (by simp)
  (λi e s' r d ⟨y,h0,u,t,w,f⟩ g=>by
   subst y;have z:=h l[i] (cb d);simp at z;cases m:p l[i]
   .simp[U.xE,h0,u,t,w,d,br d (re a),z,m]at g;subst g;refine .inl ⟨_,_,rfl,rfl,by simp[h0],by simp[u],by simp[t],by simp,λj n a=>?_⟩;by_cases A:j=i
    .subst A;exact m
    exact f j (by omega) a
   simp[U.xE,h0,u,t,w,d,z,m]at g;subst g;exact .inr ⟨by simp,.inl ⟨i,_,d,rfl,by simp,m,f⟩⟩)
  (λe s' r ⟨y,h0,u,t,w,f⟩ g=>by
   subst y;simp[U.xE,t,w]at g;subst g;exact⟨by simp,.inr ⟨_,rfl,λj a=>f j a a⟩⟩)
 clear B;rcases C with⟨i,q,d,rfl,D,m,f⟩|⟨q,rfl,f⟩
 .simp[D,aa];rw[au ⟨_,cb d,m⟩,(Fu d).2 ⟨m,λj n=>f j n (by omega)⟩]
 simp[aa];intro x E;obtain⟨j,n,rfl⟩:=eO.1 E;exact f j n
def aeA(p:Bs->Bool)(k:Nat)(l:se)(h:∀b∈l,∀s,R (.call k [.agg b.c] s)=.val (.bool (p b)) s)(d:l.length<4611686018427387904)(s:HS):R (.call 121 [.psl (l.map Bs.c),.fn k [] []] s)=.val (.bool (l.any p)) s:=by
 refine adx ?_;simp[U.V9,aey p k l h d];by_cases a:∃x,x∈l/\p x=true
 .simp[a,aa]
 simp[a,aa];simpa using a
def XD(p:Ty->Bool)(k:Nat)(l:uJ)(h:∀b∈l,∀s,R (.call k [.agg b.c] s)=.val (.bool (p b)) s)(d:l.length<4611686018427387904)(s:HS):R (.call 104 [.psl (l.map Ty.c),.fn k [] []] s)=.val (.bool (l.any p)) s:=by
 refine adk ?_;simp[U.V1,aez p k l h d];by_cases a:∃x,x∈l/\p x=true
 .simp[a,aa]
 simp[a,aa];simpa using a
def MH{α:Type}(p:α->Bool)(l:List α):(l.any λx=> !p x)= !l.all p:=by induction l with|nil=>rfl|cons x r ih=>simp[ih]
def aeB(t:Ty)(n:t.ps.length<4611686018427387904)(s:HS):R (.call 103 [.agg t.c] s)=.val (.bool (gm t)) s:=by
 refine adj ?_;have d:=RW t.res;simp only[Bs.c]at d;have f:=aeA (λb=> !eh b) 120 t.ps (λb _=>aew b) n;rw[MH]at f;cases g:eh t.res
 .simp-implicitDefEqProofs[U.Jn,d,g,aa,gm]
 cases m:t.ps.all eh
 .simp-implicitDefEqProofs[U.Jn,d,f,g,m,aa,gm]
 cases j:t.ps.isEmpty
 .have a:¬t.ps.length=0:=by intro h;rw[sf]at h;simp[h]at j
  simp-implicitDefEqProofs[U.Jn,d,f,g,m,a,j,aa,gm]
 have a:t.ps.length=0:=by rw[sf];simpa using j
 simp-implicitDefEqProofs[U.Jn,d,f,g,m,a,j,aa,gm]
def aeC(t:Ty)(a:t.ps.length<4611686018427387904)(s:HS):R (.call 102 [.agg t.c] s)=.val (.bool (!gm t)) s:=by refine adi ?_;have h:=aeB t a;simp at h;simp[U.V0,aa,h]
def w82(a:Ar)(ok:fz a)(s:HS):R (.call 80 [.agg a.c] s)=.val (iV (aQ a)) s:=by
 refine q82 ?_;have g:=RW a.root;simp only[Bs.c]at g;have h:=XD pI 101 a.ids (λt _=>aex t) ok.1;have p:=XD (λt=> !gm t) 102 a.ids (λt j=>aeC t (ok.2 t j)) ok.1;by_cases f:(8:Int)<a.ids.length
 .have d:8<a.ids.length:=by omega
  simp-implicitDefEqProofs[U.VU,aa,f,d,aQ]
 have d:¬8<a.ids.length:=by omega
 cases m:a.ids.any pI
 .cases n:eh a.root
  .simp-implicitDefEqProofs[U.VU,aa,f,d,aQ,g,h,n,m]
  cases j:a.ids.any (λt=> !gm t)<;>simp-implicitDefEqProofs[U.VU,aa,f,d,aQ,g,h,p,n,m,j]
 simp-implicitDefEqProofs[U.VU,aa,f,d,aQ,h,m]
def w59(t:Ty)(q:t.ps.length<4611686018427387904)(s:HS):R (.call 66 [.agg t.c] s)=.val (.bool (gm t)) s:=by
 refine q59 ?_;have a:=w60 t.res;simp only[Bs.c]at a;simp[U.b59];generalize D:bO R (.loop U.Dg) _ _=o;have E:=bh D t.ps.length
  (λi e s'=>s'=s0/\look e 1=some (.aw t.c)/\look e 3=some (iV i)/\∀j (u:j<i) (q:j<t.ps.length),eh t.ps[j]=true)
  (λo=>(∃m,o=.code .ret m s0/\look m 2=some (.bool false)/\t.ps.all eh=false)∨(∃m,o=.code (.exit 0) m s0/\look m 1=some (.aw t.c)/\t.ps.all eh=true))
  0 (by omega) (by simp)
  (λi e s' r w ⟨z,d,y,g⟩ n=>by
   subst z;have A:=w60 t.ps[i];simp only[Bs.c]at A;cases f:eh t.ps[i]
   .simp[U.Dg,d,y,w,A,f]at n;subst n;exact .inr ⟨by simp,.inl ⟨_,rfl,by simp,by rw[JO];exact⟨_,cb w,by simp[f]⟩⟩⟩
   simp[U.Dg,d,y,w,br w (re q),A,f]at n;subst n;refine .inl ⟨_,_,rfl,rfl,by simp[d],by simp,λj u q=>?_⟩;by_cases B:j=i
   .subst B;exact f
   exact g j (by omega) q)
  (λe s' r ⟨z,d,y,g⟩ n=>by
   subst z;simp[U.Dg,d,y]at n;subst n;refine⟨by simp,.inr ⟨_,rfl,by simp[d],?_⟩⟩;rw[fG];intro x H;obtain⟨j,u,rfl⟩:=eO.1 H;exact g j u u)
 clear D;rcases E with⟨m,rfl,J,f⟩|⟨m,rfl,d,f⟩
 .simp[J,aa,gm,f]
 cases C:eh t.res
 .simp[d,a,C,aa,gm]
 cases g:t.ps.isEmpty
 .have p:¬t.ps.length=0:=by intro h;rw[sf]at h;simp[h]at g
  simp[d,a,C,f,p,g,aa,gm]
 have p:t.ps.length=0:=by rw[sf];simpa using g
 simp[d,a,C,f,p,g,aa,gm]
def w24(a:Ar)(ok:fz a)(s:HS):R (.call 42 [.agg a.c] s)=.val (iV (aQ a)) s:=by
 refine q24 ?_;have m:=w60 a.root;simp only[Bs.c]at m;have w:=ok.1;by_cases M:(8:Int)<a.ids.length
 .have p:8<a.ids.length:=by omega
  simp[U.b24,aa,M,p,aQ]
 have p:¬8<a.ids.length:=by omega
 simp[U.b24,M];generalize B:bO R (.loop U.Dd) _ _=o;have C:=bh B a.ids.length
  (λi e s'=>s'=s0/\look e 1=some (.aw a.c)/\look e 3=some (iV i)/\∀j (q:j<i) (w:j<a.ids.length),pI a.ids[j]=false)
  (λo=>(∃g,o=.code .ret g s0/\look g 2=some (iV 5)/\a.ids.any pI=true)∨(∃g,o=.code (.exit 0) g s0/\look g 1=some (.aw a.c)/\a.ids.any pI=false))
  0 (by omega) (by simp)
  (λi e s' r n ⟨y,d,u,z⟩ f=>by
   subst y;by_cases h:(5:Int)<a.ids[i].ps.length
   .simp[U.Dd,d,u,n,h]at f;subst f;exact .inr ⟨by simp,.inl ⟨_,rfl,by simp,by rw[ahf];exact⟨_,cb n,by simp[pI];omega⟩⟩⟩
   simp[U.Dd,d,u,n,br n (re w),h]at f;subst f;refine .inl ⟨_,_,rfl,rfl,by simp[d],by simp,λj q w=>?_⟩;by_cases A:j=i
   .subst A;simp[pI];omega
   exact z j (by omega) w)
  (λe s' r ⟨y,d,u,z⟩ f=>by
   subst y;simp[U.Dd,d,u]at f;subst f;refine⟨by simp,.inr ⟨_,rfl,by simp[d],?_⟩⟩;rw[rh];intro x D;obtain⟨j,q,rfl⟩:=eO.1 D;simp[z j q q])
 clear B;rcases C with⟨g,rfl,E,h⟩|⟨g,rfl,d,h⟩
 .simp[E,aa,aQ,h]
 simp;generalize B:bO R (.loop U.De) _ _=o;have C:=bh B a.ids.length
  (λi e s'=>s'=s0/\look e 1=some (.aw a.c)/\look e 4=some (iV i)/\∀j (q:j<i) (w:j<a.ids.length),gm a.ids[j]=true)
  (λo=>(∃g,o=.code .ret g s0/\look g 2=some (iV 4)/\(a.ids.any λt=> !gm t)=true)∨(∃g,o=.code (.exit 2) g s0/\look g 1=some (.aw a.c)/\(a.ids.any λt=> !gm t)=false))
  0 (by omega) (by simp[d])
  (λi e s' r n ⟨y,d,u,z⟩ f=>by
   subst y;have H:=w59 a.ids[i] (ok.2 _ (cb n));simp only[Ty.c]at H;cases h:gm a.ids[i]
   .simp[U.De,d,u,n,H,h]at f;subst f;exact .inr ⟨by simp,.inl ⟨_,rfl,by simp,by rw[ahf];exact⟨_,cb n,by simp[h]⟩⟩⟩
   simp[U.De,d,u,n,br n (re w),H,h]at f;subst f;refine .inl ⟨_,_,rfl,rfl,by simp[d],by simp,λj q w=>?_⟩;by_cases A:j=i
   .subst A;exact h
   exact z j (by omega) w)
  (λe s' r ⟨y,d,u,z⟩ f=>by
   subst y;simp[U.De,d,u]at f;subst f;refine⟨by simp,.inr ⟨_,rfl,by simp[d],?_⟩⟩;rw[rh];intro x D;obtain⟨j,q,rfl⟩:=eO.1 D;simp[z j q q])
 clear B;rcases C with⟨g,rfl,E,J⟩|⟨g,rfl,d,J⟩
 .simp[E,aa,aQ,h,J,p]
 cases f:eh a.root<;>simp[d,m,f,aa,aQ,h,J,p]
def aeD(a:Ar)(ok:fz a)(s:HS):R (.call 106 [.agg a.c] s)=.val (.cO [.agg a.c,iV (aQ a)]) s:=by refine adm ?_;have h:=w82 a ok;simp only[Ar.c]at h;simp[U.V3,h,s0,aq,aA,an];exact aY (.cO (.data (by simp)))
def aii(l:bb):ai:=match l.getLast? with|none=>[iV (-1),.bool false]|some n=>[iV n,.bool true]
abbrev iC(n:Int):ai:=[iV n]
abbrev bC(b:Bool):ai:=[.bool b]
@[simp]def UK(l:bb):eT (l.map iC)=true:=cD (λx=>by simp) l
@[simp]def RX(l:cf):eT (l.map bC)=true:=cD (λx=>by simp) l
def ajL(l:bb)(a:l.length<=4611686018427387904)(s:HS):R (.call 144 [.agg [.psl (l.map iC)]] s)=.val (.cO (aii l)) s:=by
 refine ajB ?_;rcases sv l with rfl|⟨r,x,rfl⟩
 .simp[U.aiF,aii];exact aY (.cO (.data (by simp)))
 have c:¬((r.length:Int)+1=0):=by omega
 have d:bT .i64 (r.length:Int)=r.length:=cx (by omega) (by simp at a;omega);simp[U.aiF,aii,c,d];exact aY (.cO (.data (by simp)))
def dC(a:Ar)(id arg:Int):Option (Bs×Bool):=
 if id=0/\arg=0 then some (a.root,a.jumps)
 else if 1<=id/\id<=a.ids.length then
  match a.ids[(id-1).toNat]?with|none=>none|some t=>if arg=0 then some (t.res,a.jumps|| !t.ps.isEmpty)else if 1<=arg/\arg<=t.ps.length then(t.ps[(arg-1).toNat]?).map (λb=>(b,true))else none
 else none
def lx(o:Option (Bs×Bool)):ai:=match o with|none=>[.agg [.bool false,.int .i64 0],.bool false]|some (b,_)=>[.agg b.c,.bool true]
def XE(a:Ar)(ok:fz a)(id arg:Int)(s:HS):R (.call 139 [.agg a.c,iV id,iV arg] s)=.val (.cO (lx (dC a id arg))) s:=by
 refine adK ?_;have C:=ok.1;have f:=w62;by_cases h0:id=0/\arg=0
 .obtain⟨rfl,rfl⟩:=h0;simp[U.Ff,dC,lx,s0,aq,aA,an];exact aY (.cO (.data (by simp)))
 by_cases m:id=0
 .subst m;have w:¬arg=0:=λh=>h0 ⟨rfl,h⟩
  simp[U.Ff,dC,lx,s0,aq,aA,an,w,f];exact aY (.cO (.data (by simp)))
 by_cases d:1<=id/\id<=a.ids.length
 case neg=>
  have y:decide (1<=id/\id<=(a.ids.length:Int))=false:=by simpa using d
  simp[U.Ff,dC,lx,s0,aq,aA,an,m,f,d];exact aY (.cO (.data (by simp)))
 obtain⟨i,rfl⟩:∃i:Nat,id=(i:Int)+1:=⟨(id-1).toNat,by omega⟩;have z:i<a.ids.length:=by omega
 have y:decide (1<=(i:Int)+1/\(i:Int)+1<=(a.ids.length:Int))=true:=by simpa using d
 have p:bT .i64 (i:Int)=i:=cx (by omega) (by omega);have n:=aX z;generalize a.ids[i]=t at n;have A:=ok.2 t (cE n);by_cases j:arg=0
 .subst j;simp[U.Ff,dC,lx,s0,aq,aA,an,m,f,d,p,n];exact aY (.cO (.data (by simp)))
 by_cases g:1<=arg/\arg<=t.ps.length
 case neg=>
  have q:decide (1<=arg/\arg<=(t.ps.length:Int))=false:=by simpa using g
  simp[U.Ff,dC,lx,s0,aq,aA,an,m,f,d,p,n,j,g];exact aY (.cO (.data (by simp)))
 obtain⟨k,rfl⟩:∃k:Nat,arg=(k:Int)+1:=⟨(arg-1).toNat,by omega⟩;have B:k<t.ps.length:=by omega
 have q:decide (1<=(k:Int)+1/\(k:Int)+1<=(t.ps.length:Int))=true:=by simpa using g
 have r:bT .i64 (k:Int)=k:=cx (by omega) (by omega);have u:=aX B;generalize t.ps[k]=b at u;simp[U.Ff,dC,lx,s0,aq,aA,an,m,f,d,p,n,j,g,r,u];exact aY (.cO (.data (by simp)))
def si{a:Ar}(h:aQ a=0):eh a.root=true/\∀t∈a.ids,gm t=true:=by
 unfold aQ at h
 split at h
 .cases h
 split at h
 .cases h
 rename_i c;simp only[n9,pf,ahf,not_or,Bool.not_eq_false]at c;exact⟨c.1,λt d=>by
  cases f:gm t
  .exact absurd ⟨t,d,f⟩ c.2
  rfl⟩
def iU{a:Ar}(h:aQ a=0){id arg:Int}{b:Bs}{Cm:Bool}(c:dC a id arg=some (b,Cm)):eh b=true:=by
 obtain⟨g,j⟩:=si h;unfold dC at c
 split at c
 .cases c;exact g
 split at c
 .split at c
  .cases c
  rename_i t m;have d:=j t (cE m);simp only[gm,aL,fG]at d
  split at c
  .cases c;exact d.1.1
  split at c
  .obtain⟨x,n,f⟩:=lR.1 c;cases f;exact d.1.2 _ (cE n)
  cases c
 cases c
def Dp(id arg:Int)(n:Nat):Mv:=⟨id,arg,2,n⟩
def pJ(id arg:Int)(n:Nat):Mv:=⟨id,arg,3,n⟩
def dX(b:Bs)(id arg:Int):bE:=⟨id,arg,1,0⟩::(List.range (if b.cell then b.n.toNat else 0)).map (Dp id arg)
def pK(b:Bs)(Cm:Bool)(id arg:Int):bE:=(if Cm then [⟨id,arg,3,-1⟩]else [])++(List.range b.n.toNat).map (pJ id arg)
def cG(a:Ar)(id arg:Int):bE:=match dC a id arg with|none=>[]|some (b,_)=>dX b id arg
def lX(a:Ar)(id arg:Int):bE:=match dC a id arg with|none=>[]|some (b,e)=>pK b e id arg
def Sz.mv(l:bE):Sz 4 (l.map Mv.c):=Sz.map (λx=>by simp) l
def pL{α:Type}(f:Nat->α)(n:Nat):(List.range (n+1)).map f=(List.range n).map f++[f n]:=by rw[yl,eU];rfl
def aeE(a:Ar)(ok:fz a)(Q:aQ a=0)(id arg:Int)(s:HS):R (.call 117 [.agg a.c,iV id,iV arg] s)=.val (.psl ((cG a id arg).map Mv.c)) s:=by
 refine adu ?_;have f:=XE a ok id arg;simp only[Ar.c,iV]at f;unfold cG;cases w:dC a id arg with
 |none=>rw[w]at f;simp only[lx]at f;simp[U.Qt,f,s0,aq,aA];exact aY .ah
 |some T=>
 obtain⟨b,V⟩:=T;rw[w]at f;simp only[lx,Bs.c]at f;have W:=iU Q w;simp only[eh,bY]at W;simp[U.Qt,f,s0,aq,aA];generalize M:bO R (.loop U.xD) _ _=o;have X:=bh M (if b.cell then b.n.toNat else 0)
  (λi e s'=>∃v,look e 1=some (iV id)/\look e 2=some (iV arg)/\look e 7=some (.ptr .e 0)/\look e 9=some v/\look e 10=some (iV i)/\
   aj s'.h .e=some (.cells (cP b.c) 0 2 .e)/\BH s' v 4 1 (((⟨id,arg,1,0⟩:Mv)::(List.range i).map (Dp id arg)).map Mv.c))
  (λo=>∃y s' v,o=.code (.exit 0) y s'/\look y 9=some v/\BH s' v 4 1 ((dX b id arg).map Mv.c))
  0 (by omega) ⟨_,by simp,by simp,by simp,by simp;rfl,by simp,by simp,by
   refine⟨Sz.mv _,by simp[Ky.toNat],.inr ⟨.z .e,_,.z .e,[],by simp,rfl,by simp,rfl,by simp[Ky.toNat]⟩⟩⟩
  (λi e s' r A ⟨v,B,C,q,p,g,t,j⟩ m=>by
   have D:i<64:=by split at A<;>omega
   have d:b.cell=true:=by cases Y:b.cell<;>simp[Y]at A ⊢
   have E:(i:Int)<b.n:=by rw[d,au rfl]at A;omega
   obtain⟨Z,h3,O,H,u⟩:=j.append (bI:=4398046511104) (new:=[Mv.c (Dp id arg i)]) (Sz.cons rfl Sz.nil) (by simp) (by simp;omega);simp only[Mv.c,Dp]at O;simp[U.xD,B,C,q,p,g,t,d,E,O,br (n:=64) D (by omega)]at m;subst m;refine .inl ⟨_,_,rfl,Z,by simp[B],by simp[C],by simp[q],by simp,by simp,?_,?_⟩
   .rw[u.2.2.1 _ (by decide)];exact t
   rw[pL,<-List.cons_append,eU];exact H)
  (λe s' r ⟨v,B,C,q,p,g,t,j⟩ m=>by
   cases d:b.cell with
   |false=>simp[U.xD,q,t,d]at m;subst m;refine⟨by simp,_,_,v,rfl,by simp[p],?_⟩;rw[d]at j;unfold dX;rw[d];exact j
   |true=>
    rw[d,au rfl]at g j;have J:¬(max b.n 0<b.n):=by omega
    simp[U.xD,q,g,t,d,J]at m;subst m;refine⟨by simp,_,_,v,rfl,by simp[p],?_⟩;unfold dX;rw[d];exact j)
 clear M;obtain⟨y,s',v,rfl,p,j⟩:=X;simp[p];exact aY (j.vw (by simp))
def aeF(a:Ar)(ok:fz a)(id arg:Int)(b:Bs)(Cm:Bool)(d:dC a id arg=some (b,Cm))(s:HS):R (.call 140 [.agg a.c,iV id,iV arg] s)=.val (.bool Cm) s:=by
 refine adL ?_;have y:=ok.1;unfold dC at d
 split at d
 .rename_i h0;obtain⟨rfl,rfl⟩:=h0;cases d;cases m:a.jumps<;>simp[U.HT,m,aa]
 rename_i h0
 split at d
 .rename_i z;obtain⟨i,rfl⟩:∃i:Nat,id=(i:Int)+1:=⟨(id-1).toNat,by omega⟩;rw[show((i:Int)+1-1).toNat=i by omega]at d
  split at d
  .cases d
  rename_i t r;have u:bT .i64 (i:Int)=i:=cx (by omega) (by omega);have g:(0:Int)<(i:Int)+1:=by omega
  split at d
  .rename_i w;subst w;cases d;cases m:a.jumps
   .cases n:t.ps.isEmpty
    .have f:t.ps≠ []:=by intro h;simp[h]at n
     have j:0<t.ps.length:=ym.2 f;simp[U.HT,m,aa,r,u,g,j]
    have f:t.ps.length=0:=by rw[sf];simpa using n
    simp[U.HT,m,aa,r,u,g,f]
   simp[U.HT,m,aa]
  split at d
  .rename_i w;obtain⟨x,A,p⟩:=lR.1 d;cases p;have q:(0:Int)<arg:=by omega
   simp[U.HT,aa,q]
  cases d
 cases d
def aeG(a:Ar)(ok:fz a)(hc:aQ a=0)(id arg:Int)(s:HS):R (.call 118 [.agg a.c,iV id,iV arg,.int .u8 1] s)=.val (.psl ((lX a id arg).map Mv.c)) s:=by
 refine adv ?_;have f:=XE a ok id arg;simp only[Ar.c,iV]at f;unfold lX;cases H:dC a id arg with
 |none=>rw[H]at f;simp only[lx]at f;simp[U.Ma,f,s0,aq,aA];exact aY .ah
 |some be=>
 obtain⟨b,m⟩:=be;rw[H]at f;simp only[lx,Bs.c]at f;have g:=aeF a ok id arg b m H;simp only[Ar.c,iV]at g;have hb:=iU hc H;simp only[eh,bY]at hb;have main:∀(e:En) (s1:HS) (v:HV) (o:Out),bO R (.loop U.qW) e s1=o->look e 1=some (iV id)->look e 2=some (iV arg)->look e 3=some (.int .u8 1)->look e 9=some (.ptr .e 0)->look e 11=some v->look e 12=some (iV 0)->
   aj s1.h .e=some (.cells (cP b.c) 0 2 .e)->BH s1 v 4 1 ((if m then [⟨id,arg,3,-1⟩]else []:bE).map Mv.c)->
   ∃t s' v,o=.code (.exit 0) t s'/\look t 11=some v/\BH s' v 4 1 ((pK b m id arg).map Mv.c):=by
  intro e s1 v o u B C D w d j y q;refine bh u b.n.toNat
   (λi e s'=>∃v,look e 1=some (iV id)/\look e 2=some (iV arg)/\look e 3=some (.int .u8 1)/\look e 9=some (.ptr .e 0)/\look e 11=some v/\look e 12=some (iV i)/\
    aj s'.h .e=some (.cells (cP b.c) 0 2 .e)/\BH s' v 4 1 (((if m then [⟨id,arg,3,-1⟩]else []:bE)++(List.range i).map (pJ id arg)).map Mv.c))
   (λo=>∃t s' v,o=.code (.exit 0) t s'/\look t 11=some v/\BH s' v 4 1 ((pK b m id arg).map Mv.c))
   0 (by omega) ⟨v,B,C,D,w,d,j,y,by simpa using q⟩
   (λi e s' r hi ⟨v,B,C,D,w,d,j,y,q⟩ J=>?_) (λe s' r ⟨v,B,C,D,w,d,j,y,q⟩ J=>?_)
  .have O:i<64:=by omega
   have A:(i:Int)<b.n:=by omega
   obtain⟨Z,Q,M,T,E⟩:=q.append (bI:=4398046511104) (new:=[Mv.c (pJ id arg i)]) (Sz.cons rfl Sz.nil) (by simp) (by simp;split<;>simp<;>omega);simp only[Mv.c,pJ]at M;have V:r=.code .normal (((e.oE 43 (.bool true)).oE 11 Z).oE 12 (iV (i+1))) Q:=by
    rw[<-J];rcases Nat.eq_zero_or_pos i with rfl|h4
    .have W:bT .i64 1=1:=cx (by omega) (by omega);simp at M j A;simp[U.qW,B,C,w,d,j,y,A,M,W]
    have X:¬i=0:=by omega
    simp[U.qW,B,C,D,w,d,j,y,A,M,br (n:=64) O (by omega),X]
   subst V;refine .inl ⟨_,_,rfl,Z,by simp[B],by simp[C],by simp[D],by simp[w],by simp,by simp,?_,?_⟩
   .rw[E.2.2.1 _ (by decide)];exact y
   rw[pL,<-List.append_assoc,eU];exact T
  have Y:¬(max b.n 0<b.n):=by omega
  simp[U.qW,w,j,y,Y]at J;subst J;exact⟨by simp,_,_,v,rfl,by simp[d],q⟩
 cases p:m with
 |false=>rw[p]at g main;simp[U.Ma,f,g,s0,aq,aA];generalize u:bO R (.loop U.qW) _ _=o;obtain⟨t,s',v,rfl,d,q⟩:=main _ _ _ _ u (by simp) (by simp) (by simp) (by simp) (by simp) (by simp) (by simp) (BH.ah (by simp[Ky.toNat]));clear u;simp[d];exact aY (q.vw (by simp))
 |true=>
  rw[p]at g main;simp[U.Ma,f,g,s0,aq,aA];generalize u:bO R (.loop U.qW) _ _=o;obtain⟨t,s',v,rfl,d,q⟩:=main _ _ _ _ u (by simp) (by simp) (by simp) (by simp) (by simp;rfl) (by simp) (by simp)
   ⟨Sz.mv _,by simp[Ky.toNat],.inr ⟨.z .e,_,.z .e,[],by simp,rfl,by simp,rfl,by simp[Ky.toNat]⟩⟩
  clear u;simp[d];exact aY (q.vw (by simp))
def ri(a b:Mv):pW ⟨true,[0,0,0,0]⟩ (.agg a.c) (.agg b.c)=some (decide (a=b)):=by rw[ahe _ _ _ rfl rfl];simp only[Mv.c];rw[dy _ _ _ _ _ _ (eA ..) (dy _ _ _ _ _ _ (eA ..) (dy _ _ _ _ _ _ (eA ..) (dy _ _ _ _ _ _ (eA ..) ahd)))];cases a;cases b;simp[yn]
def XF(l:bE)(p:l.length<4611686018427387904)(m:Mv)(s:HS):R (.call 116 [.psl (l.map Mv.c),.agg m.c] s)=.val (iV (if m∈l then l.findIdx (λx=>x=m)else-1)) s:=by
 refine adt ?_;simp[U.V7];generalize z:bO R (.loop U.xC) _ _=o;have A:=bh z l.length
  (λi e s'=>s'=s0/\look e 0=some (.psl (l.map Mv.c))/\look e 3=some (.aw m.c)/\look e 5=some (iV i)/\∀j (f:j<i) (p:j<l.length),l[j]≠m)
  (λo=>(∃i n,∃a:i<l.length,o=.code .ret n s0/\look n 4=some (iV i)/\l[i]=m/\∀j (f:j<i) (p:j<l.length),l[j]≠m)∨(∃n,o=.code (.exit 0) n s0/\m ∉ l))
  0 (by omega) (by simp)
  (λi e s' r a ⟨w,h0,t,u,d⟩ g=>by
   subst w;have q:=ri l[i] m;simp only[Mv.c]at q;by_cases h:l[i]=m
   .rw[dq h]at q;simp[U.xC,h0,t,u,a,q]at g;subst g;exact .inr ⟨by simp,.inl ⟨i,_,a,rfl,by simp,h,d⟩⟩
   rw[cK h]at q;simp[U.xC,h0,t,u,a,q,br a (re p)]at g;subst g;refine .inl ⟨_,_,rfl,rfl,by simp[h0],by simp[t],by simp,λj f p=>?_⟩;by_cases y:j=i
   .subst y;exact h
   exact d j (by omega) p)
  (λe s' r ⟨w,h0,t,u,d⟩ g=>by
   subst w;simp[U.xC,h0,u]at g;subst g;refine⟨by simp,.inr ⟨_,rfl,λB=>?_⟩⟩;obtain⟨j,f,C⟩:=eO.1 B;exact d j f f C)
 clear z;rcases A with⟨i,n,a,rfl,D,h,d⟩|⟨n,rfl,d⟩
 .simp[D,aa];rw[au (h▸cb a),(Fu a).2 ⟨by simpa using h,λj f=>by simpa using d j f (by omega)⟩]
 simp[aa,d]
def gT(a:Ar)(m:Mv):Bool:=m∈cG a m.id m.arg∨m∈lX a m.id m.arg
def yo{a:Ar}(d:aQ a=0)(id arg:Int):(cG a id arg).length<=65:=by
 unfold cG;cases f:dC a id arg with
 |none=>simp
 |some c=>
  have g:=iU d (b:=c.1) (Cm:=c.2) f;simp only[eh,bY]at g;simp[dX]
  split<;>omega
def H5{a:Ar}(d:aQ a=0)(id arg:Int):(lX a id arg).length<=65:=by
 unfold lX;cases f:dC a id arg with
 |none=>simp
 |some c=>
  have g:=iU d (b:=c.1) (Cm:=c.2) f;simp only[eh,bY]at g;simp[pK]
  split<;>simp<;>omega
def aeH(a:Ar)(ok:fz a)(j:aQ a=0)(m:Mv)(s:HS):R (.call 95 [.agg a.c,.agg m.c] s)=.val (.bool (gT a m)) s:=by
 refine adg ?_;have n:=aeE a ok j m.id m.arg;have q:=aeG a ok j m.id m.arg;have f:=XF (cG a m.id m.arg) (by have:=yo j m.id m.arg;omega) m;have g:=XF (lX a m.id m.arg) (by have:=H5 j m.id m.arg;omega) m;simp only[Ar.c,iV,Mv.c]at n q f g;unfold gT;by_cases h:m∈cG a m.id m.arg
 .have d:(0:Int)<=((cG a m.id m.arg).findIdx (λx=>decide (x=m)):Int):=by omega
  simp only[h,bp]at f;simp[U.LY,n,f,h,d,aa]
 simp only[h,bD]at f;by_cases p:m∈lX a m.id m.arg
 .have d:(0:Int)<=((lX a m.id m.arg).findIdx (λx=>decide (x=m)):Int):=by omega
  simp only[p,bp]at g;simp[U.LY,n,q,f,g,h,p,d,aa]
 simp only[p,bD]at g;simp[U.LY,n,q,f,g,h,p,aa]
structure Eg where
 m:Mv
 to:Nat
 deriving DecidableEq,Inhabited
abbrev bu:=List Eg
structure Fa where
 nx:List bu
 fi:cf
 deriving DecidableEq,Inhabited
@[simp]def Eg.c(e:Eg):ai:=[.int .i64 e.m.id,.int .i64 e.m.arg,.int .u8 e.m.kind,.int .i64 e.m.n,.int .i64 (e.to:Int)]
@[simp]def oG(l:bu):ai:=[.psl (l.map Eg.c)]
@[simp]def Fa.c(x:Fa):ai:=[.psl (x.nx.map oG),.psl (x.fi.map bC)]
structure Ei where
 m:Mv
 to:Int
 deriving DecidableEq,Inhabited
abbrev fH:=List Ei
structure Ax where
 nx:List fH
 fi:cf
 deriving DecidableEq,Inhabited
@[simp]def Ei.c(e:Ei):ai:=[.int .i64 e.m.id,.int .i64 e.m.arg,.int .u8 e.m.kind,.int .i64 e.m.n,.int .i64 e.to]
@[simp]def zd(l:fH):ai:=[.psl (l.map Ei.c)]
@[simp]def Ax.c(x:Ax):ai:=[.psl (x.nx.map zd),.psl (x.fi.map bC)]
@[simp]def aah(l:fH):eT (l.map Ei.c)=true:=cD (λx=>by simp) l
@[simp]def XG(l:List fH):eT (l.map zd)=true:=cD (λx=>by simp) l
def Eg.i(e:Eg):Ei:=⟨e.m,e.to⟩
def Fa.i(x:Fa):Ax:=⟨x.nx.map (List.map Eg.i),x.fi⟩
def Fa.XH(x:Fa):x.i.c=x.c:=by
 have h:(zd∘List.map Eg.i)=oG:=funext λl=>by simp[tP,Eg.i]
 simp only[Ax.c,Fa.c,Fa.i,wB,h]
@[simp]def aai(l:bu):eT (l.map Eg.c)=true:=cD (λx=>by simp) l
@[simp]def pM(l:List bu):eT (l.map oG)=true:=cD (λx=>by simp) l
@[simp]def MI(l:cf):eT (l.map bC)=true:=cD (λx=>by simp) l
def bB(e:En):List (Nat×HV)->Prop
 |[]=>True
 |(k,v)::r=>look e k=some v/\bB e r
@[simp]def ae{e:En}:bB e []=True:=rfl
@[simp]def ab{e:En}{k:Nat}{v:HV}{r:List (Nat×HV)}:bB e ((k,v)::r)=(look e k=some v/\bB e r):=rfl
def Oa{c:HC}{e:En}{s:HS}{o:Out}(y:bO R (.loop c) e s=o)(a n:Nat)(P:aG)(L:Nat->List (Nat×HV))(M:List (Nat×HV))(x:Nat)(Q:Nat->Out->Prop)(h0:a<=n)(z:bB e (L a))
  (round:∀i e r,a<=i->i<n->bB e (L i)->bO R c e s=r->(P i/\∃e',r=.code .normal e' s/\bB e' (L (i+1)))∨(¬P i/\gJ r/\Q i r))
  (last:∀e r,bB e (L n)->bO R c e s=r->∃e',r=.code (.exit x) e' s/\bB e' M):
  (∃i,a<=i/\i<n/\(∀j,a<=j->j<i->P j)/\¬P i/\Q i o)∨((∀i,a<=i->i<n->P i)/\∃e',o=.code (.exit x) e' s/\bB e' M):=by
 refine bh y n (λi e s'=>s'=s/\a<=i/\bB e (L i)/\∀j,a<=j->j<i->P j) (λo=>(∃i,a<=i/\i<n/\(∀j,a<=j->j<i->P j)/\¬P i/\Q i o)∨((∀i,a<=i->i<n->P i)/\∃e',o=.code (.exit x) e' s/\bB e' M)) a h0 ⟨rfl,aV _,z,λj m d=>by omega⟩ ?_ ?_
 .rintro i e s' r w ⟨rfl,p,m,d⟩ q
  rcases round i e r p w m q with⟨t,e',f,g⟩|⟨t,f,g⟩
  .refine .inl ⟨e',s',f,rfl,by omega,g,λj u A=>?_⟩;by_cases h:j=i
   .subst h;exact t
   exact d j u (by omega)
  exact .inr ⟨f,.inl ⟨i,p,w,d,t,g⟩⟩
 rintro e s' r ⟨rfl,p,m,d⟩ q
 obtain⟨e',f,g⟩:=last e r m q;subst f;exact⟨by simp,.inr ⟨d,e',rfl,g⟩⟩
def jd{c:HC}{e:En}{s:HS}{o:Out}(f:bO R (.loop c) e s=o)(n:Nat)(P:aG)(L:Nat->List (Nat×HV))(M:List (Nat×HV))(x:Nat)(Q:Nat->Out->Prop)(g:bB e (L 0))
  (round:∀i e r,i<n->bB e (L i)->bO R c e s=r->(P i/\∃e',r=.code .normal e' s/\bB e' (L (i+1)))∨(¬P i/\gJ r/\Q i r))
  (last:∀e r,bB e (L n)->bO R c e s=r->∃e',r=.code (.exit x) e' s/\bB e' M):
  (∃i,i<n/\(∀j,j<i->P j)/\¬P i/\Q i o)∨((∀i,i<n->P i)/\∃e',o=.code (.exit x) e' s/\bB e' M):=by
 rcases Oa f 0 n P L M x Q (fN _) g (λi e r _=>round i e r) last with⟨i,_,a,d,h⟩|⟨a,d⟩
 .exact .inl ⟨i,a,λj=>d j (fN _),h⟩
 exact .inr ⟨λi=>a i (fN _),d⟩
structure mN(x:Ax):Prop where
 n:x.nx.length<=400
 f:x.fi.length<=400
 e:(x.nx.map List.length).sum<=6000
def mN.row{x:Ax}(h:mN x){i:Nat}{l:fH}(c:x.nx[i]?=some l):l.length<=6000:=
 fu (by
  have:=cE c;generalize x.nx=k at this;clear c
  induction k with
  |nil=>cases this
  |cons a r ih=>
   simp only[bX,List.sum_cons];rcases bk.1 this with rfl|h
   .omega
   have:=ih h;omega) h.e
def fv(a b:Mv):Bool:=if a.id≠b.id then a.id<b.id else if a.arg≠b.arg then a.arg<b.arg else if a.kind≠b.kind then a.kind<b.kind else a.n<b.n
def XI(a b:Mv)(s:HS):R (.call 91 [.agg a.c,.agg b.c] s)=.val (.bool (fv a b)) s:=by
 refine ada ?_;unfold fv;by_cases d:a.id=b.id
 .by_cases f:a.arg=b.arg
  .by_cases g:a.kind=b.kind<;>simp[U.LX,d,f,g,aa]
  simp[U.LX,d,f,aa]
 simp[U.LX,d,aa]
def pN(l:List fH)(i:Nat):Nat:=((l.map List.length).take i).sum
def tQ{l:List fH}{i:Nat}(a:i<l.length):pN l (i+1)=pN l i+l[i].length:=by unfold pN;rw[eW (by simpa using a),JP];simp
def Dq(l:List fH):pN l l.length=(l.map List.length).sum:=by unfold pN;rw[fD (by simp)]
def BK{l:List fH}(c:∀r∈l,r.length<=70368744177664):∀k,k<=l.length->pN l k<=k*70368744177664
 |0,_=>by simp[pN]
 |k+1,d=>by
  have a:k<l.length:=by omega
  have:=BK c k (by omega);have:=c _ (cb a);rw[tQ a];omega
def aeI(l:List fH)(q:l.length<=400)(g:∀r∈l,r.length<=70368744177664)(s:HS):R (.call 90 [.psl (l.map zd)] s)=.val (iV (l.map List.length).sum) s:=by
 refine ac9 ?_;simp[U.VV];generalize j:bO R (.loop U.Bl) _ _=o;have m:=jd j l.length (λ_=>True) (λi=>[(0,.psl (l.map zd)),(3,iV (pN l i)),(4,iV i)]) [(3,iV (pN l l.length))] 0 (λ_ _=>True) (by simp[pN])
  (λi e r d a c=>by
   have f:(i:Int)<l.length:=by omega
   have:=BK g i (by omega);have:=g _ (cb d);have p:bT .i64 ((pN l i:Int)+(l[i].length:Int))=(pN l (i+1):Nat):=by rw[tQ d,cx (by omega) (by omega)];simp
   simp only[ab,ae]at a;simp[U.Bl,a,d,f,p,br (n:=400) (show i<400 by omega) (by omega)]at c;subst c;exact .inl ⟨trivial,_,rfl,by simp[a]⟩)
  (λe r a c=>by
   simp only[ab,ae]at a;simp[U.Bl,a]at c;subst c;exact⟨_,rfl,by simp[a]⟩)
 clear j;rcases m with⟨i,_,_,h,_⟩|⟨_,t,rfl,a⟩
 .exact absurd trivial h
 rw[Dq]at a;simp only[ab,ae]at a;simp[a,aa]
def aeJ(x:Ax)(a:mN x)(s:HS):R (.call 61 [.agg x.c] s)=.val (.bool false) s:=by
 refine acU ?_;have d:=aeI x.nx a.n (λr g=>by obtain⟨i,h⟩:=uG.1 g;have:=a.row h;omega);have j:¬(400:Int)<x.nx.length:=by have:=a.n;omega
 have m:¬(400:Int)<x.fi.length:=by have:=a.f;omega
 have p:¬(6000:Int)<((x.nx.map List.length).sum:Nat):=by have:=a.e;omega
 simp[U.VP,j,m,p,d,aa]
def mo(x:Ax):Bool:=decide (0<x.nx.length/\x.nx.length=x.fi.length/\∀l∈x.nx,∀e∈l,0<=e.to/\e.to<x.nx.length)
def MJ{x:Ax}{i k:Nat}(a:i<x.nx.length)(c:k<x.nx[i].length)(h:¬(0<=(x.nx[i][k]).to/\(x.nx[i][k]).to<=(x.nx.length:Int)-1)):mo x=false:=by
 unfold mo;simp only[zV]
 rintro⟨_,_,d⟩
 have:=d _ (cb a) _ (cb c);omega
def aeK(x:Ax)(J:mN x)(s:HS):R (.call 62 [.agg x.c] s)=.val (.bool (mo x)) s:=by
 refine acV ?_;have M:=J.n;by_cases h0:x.nx.length=0
 .have:mo x=false:=by unfold mo;simp[h0]
  have w:x.nx=[]:=sf.1 h0;rw[this];simp[U.LQ,w,aa]
 by_cases y:x.nx.length=x.fi.length
 case neg=>
  have:mo x=false:=by unfold mo;simp[y]
  have z:¬(x.nx.length:Int)=x.fi.length:=by omega
  rw[this];simp[U.LQ,h0,z,aa]
 simp[U.LQ,h0,y.symm];generalize q:bO R (.loop U.Bj) _ _=o;have A:=jd q x.nx.length (λi=>∀h:i<x.nx.length,∀e∈x.nx[i],0<=e.to/\e.to<x.nx.length) (λi=>[(1,.aw x.c),(3,iV i)]) [] 0 (λ_ o=>mo x=false/\∃p,o=.code .ret p s0/\look p 2=some (.bool false)) (by simp)
  (λi e r j a d=>by
   have B:(i:Int)<x.nx.length:=by omega
   have C:=aX j;simp only[ab,ae]at a;simp[U.Bj,a,B]at d;generalize q:bO R (.loop U.wW) _ _=o at d;have A:=jd q x.nx[i].length (λk=>∀h:k<x.nx[i].length,0<=(x.nx[i][k]).to/\(x.nx[i][k]).to<=(x.nx.length:Int)-1) (λk=>[(1,.aw x.c),(3,iV i),(4,iV k)]) [(1,.aw x.c),(3,iV i)] 2 (λ_ o=>mo x=false/\∃p,o=.code .ret p s0/\look p 2=some (.bool false)) (by simp[a])
    (λk e r m a d=>by
     have t:(k:Int)<x.nx[i].length:=by omega
     have Q:=J.row C;have f:=w62 (x.nx[i][k]).to 0 ((x.nx.length:Int)-1);have O:bT .i64 ((x.nx.length:Int)-1)=(x.nx.length:Int)-1:=cx (by omega) (by omega);simp only[ab,ae]at a;by_cases u:0<=(x.nx[i][k]).to/\(x.nx[i][k]).to<=(x.nx.length:Int)-1
     .rw[dq u]at f;simp only[iV]at f;simp[U.wW,a,j,m,t,O,f,br (n:=6000) (show k<6000 by omega) (by omega)]at d;subst d;exact .inl ⟨λ_=>u,_,rfl,by simp[a]⟩
     rw[cK u]at f;simp only[iV]at f;simp[U.wW,a,j,m,t,O,f]at d;subst d;exact .inr ⟨λh=>u (h m),by simp,MJ j m u,_,rfl,by simp⟩)
    (λe r a d=>by
     simp only[ab,ae]at a;simp[U.wW,a,j]at d;subst d;exact⟨_,rfl,by simp[a]⟩)
   clear q;rcases A with⟨k,m,_,M,D,p,rfl,E⟩|⟨g,p,rfl,a⟩
   .simp at d;subst d;refine .inr ⟨λh=>M λm=>?_,by simp,D,_,rfl,E⟩;have:=h j _ (cb m);omega
   simp only[ab,ae]at a;simp[a,br (n:=400) (show i<400 by omega) (by omega)]at d;subst d;refine .inl ⟨λ_ e H=>?_,_,rfl,by simp[a]⟩;obtain⟨k,m,rfl⟩:=eO.1 H;have:=g k m m;omega)
  (λe r a d=>by
   simp only[ab,ae]at a;simp[U.Bj,a]at d;subst d;exact⟨_,rfl,by simp⟩)
 clear q;rcases A with⟨i,j,_,_,D,p,rfl,E⟩|⟨g,p,rfl,_⟩
 .rw[D];simp[E,aa]
 have:mo x=true:=by unfold mo;simp only[bY];refine⟨by omega,y,λl T e H=>?_⟩;obtain⟨i,j,rfl⟩:=eO.1 T;exact g i j j e H
 rw[this];simp[aa]
structure bA(x:Fa):Prop where
 ok:mN x.i
 to:∀l∈x.nx,∀e∈l,e.to<x.nx.length
 nf:x.nx.length=x.fi.length
 pos:0<x.nx.length
def bA.n{x:Fa}(h:bA x):x.nx.length<=400:=by have:=h.ok.n;simpa[Fa.i]using this
def bA.row{x:Fa}(h:bA x){i:Nat}(a:i<x.nx.length):x.nx[i].length<=6000:=by have:=h.ok.row (i:=i) (l:=x.nx[i].map Eg.i) (by simp[Fa.i,a]);simpa using this
def RY{x:Ax}(n:mN x)(h:mo x=true):∃y:Fa,x=y.i/\bA y:=by
 unfold mo at h;simp only[bY]at h;obtain⟨p,q,j⟩:=h;refine⟨⟨x.nx.map (List.map λe=>⟨e.m,e.to.toNat⟩),x.fi⟩,?_⟩;have a:x=(Fa.mk (x.nx.map (List.map λe=>⟨e.m,e.to.toNat⟩)) x.fi).i:=by unfold Fa.i;simp only[wB];obtain⟨nx,fi⟩:=x;simp only[Ax.mk.injEq,and_true];symm;refine(Fv λl c=>?_).trans (List.map_id _);simp only[tP,wB];refine(Fv λe a=>?_).trans (List.map_id _);have:=(j l c e a).1;simp only[Eg.i,id];rw[JQ this]
 refine⟨a,⟨a▸n,λl c e d=>?_,by simpa using q,by simpa using p⟩⟩;simp only[cU]at c;obtain⟨r,f,rfl⟩:=c;obtain⟨t,g,rfl⟩:=cU.1 d;have:=j r f t g;simp only[bz];omega
def tR(l:bu):Prop:=∀k,(h:k+1<l.length)->fv l[k].m l[k+1].m=true
def rj(x:Fa):Prop:=∀l∈x.nx,tR l
open Classical in
def aeL(x:Fa)(Q:bA x)(s:HS):R (.call 63 [.agg x.c] s)=.val (.bool (decide (rj x))) s:=by
 refine acW ?_;have T:=Q.n;simp[U.VQ];generalize w:bO R (.loop U.Bk) _ _=o;have E:=jd w x.nx.length (λi=>∀h:i<x.nx.length,tR x.nx[i]) (λi=>[(1,.aw x.c),(3,iV i)]) [] 0 (λ_ o=>∃t,o=.code .ret t s0/\look t 2=some (.bool false)) (by simp)
  (λi e r g d f=>by
   have H:(i:Int)<x.nx.length:=by omega
   simp only[ab,ae]at d;simp[U.Bk,d,H]at f;generalize w:bO R (.loop U.wX) _ _=o at f;have E:=Oa w 1 (max 1 x.nx[i].length) (λk=>∀j,(C:j+1=k)->(h:k<x.nx[i].length)->fv (x.nx[i][j]'(by omega)).m x.nx[i][k].m=true) (λk=>[(1,.aw x.c),(3,iV i),(4,iV k)]) [(1,.aw x.c),(3,iV i)] 2 (λ_ o=>∃t,o=.code .ret t s0/\look t 2=some (.bool false)) (by omega) (by simp[d])
    (λk e r J y d f=>by
     have u:k<x.nx[i].length:=by omega
     have z:(k:Int)<x.nx[i].length:=by omega
     have V:=Q.row g;obtain⟨j,C⟩:∃j,j+1=k:=⟨k-1,by omega⟩;have A:j<x.nx[i].length:=by omega
     have B:bT .i64 ((k:Int)-1)=j:=by rw[show(k:Int)-1=j by omega];exact cx (by omega) (by omega)
     have a:=XI x.nx[i][j].m x.nx[i][k].m;simp only[ab,ae]at d;cases D:fv x.nx[i][j].m x.nx[i][k].m
     .rw[D]at a;simp only[Mv.c]at a;simp[U.wX,d,g,u,z,A,B,a]at f;subst f;refine .inr ⟨λh=>?_,by simp,_,rfl,by simp⟩;have:=h j C u;rw[D]at this;cases this
     rw[D]at a;simp only[Mv.c]at a;simp[U.wX,d,g,u,z,A,B,a,br (n:=6000) (show k<6000 by omega) (by omega)]at f;subst f;refine .inl ⟨λW X _=>?_,_,rfl,by simp[d]⟩;obtain rfl:W=j:=by omega
     exact D)
    (λe r d f=>by
     have M:¬(((max 1 x.nx[i].length:Nat):Int)<x.nx[i].length):=by omega
     simp only[ab,ae]at d;generalize(max 1 x.nx[i].length)=q at*;simp[U.wX,d,g,M]at f;subst f;exact⟨_,rfl,by simp[d]⟩)
   clear w;rcases E with⟨k,J,y,_,T,t,rfl,O⟩|⟨p,t,rfl,d⟩
   .simp at f;subst f;refine .inr ⟨λh=>T λj C y=>?_,by simp,_,rfl,O⟩;subst C;exact h g j y
   simp only[ab,ae]at d;simp[d,br (n:=400) (show i<400 by omega) (by omega)]at f;subst f;exact .inl ⟨λ_ k y=>p (k+1) (by omega) (by omega) k rfl y,_,rfl,by simp[d]⟩)
  (λe r d f=>by
   simp only[ab,ae]at d;simp[U.Bk,d]at f;subst f;exact⟨_,rfl,by simp⟩)
 clear w;rcases E with⟨i,g,_,Y,t,rfl,O⟩|⟨p,t,rfl,_⟩
 .rw[cK λh=>Y λg=>h _ (cb g)];simp[O,aa]
 have:rj x:=λl Z=>by obtain⟨i,g,rfl⟩:=eO.1 Z;exact p i g g
 rw[dq this];simp[aa]
def RZ(a b:Eg):pW ⟨true,[0,0,0,0,0]⟩ (.agg a.c) (.agg b.c)=some (decide (a=b)):=by rw[ahe _ _ _ rfl rfl];simp only[Eg.c];rw[dy _ _ _ _ _ _ (eA ..) (dy _ _ _ _ _ _ (eA ..) (dy _ _ _ _ _ _ (eA ..) (dy _ _ _ _ _ _ (eA ..) (dy _ _ _ _ _ _ (eA ..) ahd))))];obtain⟨⟨_,_,_,_⟩,_⟩:=a;obtain⟨⟨_,_,_,_⟩,_⟩:=b;simp[yn,tS,BF]
def iI{α:Type}{a b:List α}(h:a.length=b.length)(f:∀i,(c:i<a.length)->(d:i<b.length)->a[i]=b[i]):a=b:=qD h (λi c d=>f i c d)
def aeM(x y:Fa)(m:x.nx.length<=400)(t:x.fi.length<=400)(W:∀l∈x.nx,l.length<=6000)(s:HS):R (.call 64 [.agg x.c,.agg y.c] s)=.val (.bool (decide (x=y))) s:=by
 refine acX ?_;have fin:∀(o:Out) (f:En),o=.code .ret f s0->look f 4=some (.bool false)->pF [.tmp 4] o=some (.bool false):=by
  rintro _ f rfl h
  simp[h,aa]
 by_cases J:x.nx.length=y.nx.length
 case neg=>
  rw[cK (λh=>J (by rw[h]))];have O:¬(x.nx.length:Int)=y.nx.length:=by omega
  simp[U.LR,O,aa]
 by_cases Q:x.fi.length=y.fi.length
 case neg=>
  rw[cK (λh=>Q (by rw[h]))];have T:¬(x.fi.length:Int)=y.fi.length:=by omega
  simp[U.LR,J.symm,T,aa]
 simp[U.LR,J.symm,Q.symm];generalize z:bO R (.loop U.wY) _ _=o;have C:=jd z x.fi.length (λi=>∀(m:i<x.fi.length) (t:i<y.fi.length),x.fi[i]=y.fi[i]) (λi=>[(2,.aw x.c),(3,.aw y.c),(5,iV i)]) [(2,.aw x.c),(3,.aw y.c)] 0 (λ_ o=>∃f,o=.code .ret f s0/\look f 4=some (.bool false)) (by simp)
  (λi e r j a d=>by
   have q:(i:Int)<x.fi.length:=by omega
   have u:i<y.fi.length:=by omega
   simp only[ab,ae]at a;by_cases w:x.fi[i]=y.fi[i]
   .simp[U.wY,a,j,q,u,w,br (n:=400) (show i<400 by omega) (by omega)]at d;subst d;exact .inl ⟨λ_ _=>w,_,rfl,by simp[a]⟩
   have X:(x.fi[i]==y.fi[i])=false:=by simpa using w
   have V:(x.fi[i] != y.fi[i])=true:=by simpa using w
   simp[U.wY,a,j,q,u,V]at d;subst d;exact .inr ⟨λh=>w (h j u),by simp,_,rfl,by simp⟩)
  (λe r a d=>by
   simp only[ab,ae]at a;simp[U.wY,a]at d;subst d;exact⟨_,rfl,by simp[a]⟩)
 clear z;rcases C with⟨i,j,_,D,f,rfl,E⟩|⟨g,f,rfl,a⟩
 .rw[cK (λh=>D (by subst h;exact λ_ _=>rfl))];simp[E,aa]
 have Y:x.fi=y.fi:=iI Q (λi m t=>g i m m t);simp only[ab,ae]at a;simp;generalize z:bO R (.loop U.w4) _ _=o;have C:=jd z x.nx.length (λi=>∀(m:i<x.nx.length) (t:i<y.nx.length),x.nx[i]=y.nx[i]) (λi=>[(2,.aw x.c),(3,.aw y.c),(6,iV i)]) [] 2 (λ_ o=>∃f,o=.code .ret f s0/\look f 4=some (.bool false)) (by simp[a])
  (λi e r j a d=>by
   have q:(i:Int)<x.nx.length:=by omega
   have u:i<y.nx.length:=by omega
   have Z:=W _ (cb j);simp only[ab,ae]at a;by_cases hlen:x.nx[i].length=y.nx[i].length
   case neg=>
    have A:¬(x.nx[i].length:Int)=y.nx[i].length:=by omega
    simp[U.w4,a,j,q,u,A]at d;subst d;exact .inr ⟨λh=>hlen (by rw[h j u]),by simp,_,rfl,by simp⟩
   simp[U.w4,a,j,q,u,hlen.symm]at d;generalize z:bO R (.loop U.wZ) _ _=o at d;have C:=jd z x.nx[i].length (λk=>∀(m:k<x.nx[i].length) (t:k<y.nx[i].length),x.nx[i][k]=y.nx[i][k]) (λk=>[(2,.aw x.c),(3,.aw y.c),(6,iV i),(7,iV k)]) [(2,.aw x.c),(3,.aw y.c),(6,iV i)] 4 (λ_ o=>∃f,o=.code .ret f s0/\look f 4=some (.bool false)) (by simp[a])
    (λk e r M a d=>by
     have H:(k:Int)<x.nx[i].length:=by omega
     have B:k<y.nx[i].length:=by omega
     have p:=RZ x.nx[i][k] y.nx[i][k];simp only[ab,ae]at a;by_cases w:x.nx[i][k]=y.nx[i][k]
     .rw[dq w]at p;simp only[Eg.c]at p;simp[U.wZ,a,j,u,M,H,B,p,br (n:=6000) (show k<6000 by omega) (by omega)]at d;subst d;exact .inl ⟨λ_ _=>w,_,rfl,by simp[a]⟩
     rw[cK w]at p;simp only[Eg.c]at p;simp[U.wZ,a,j,u,M,H,B,p]at d;subst d;exact .inr ⟨λh=>w (h M B),by simp,_,rfl,by simp⟩)
    (λe r a d=>by
     simp only[ab,ae]at a;simp[U.wZ,a,j]at d;subst d;exact⟨_,rfl,by simp[a]⟩)
   clear z;rcases C with⟨k,M,_,D,f,rfl,E⟩|⟨g,f,rfl,a⟩
   .simp at d;subst d;refine .inr ⟨λh=>D λm t=>?_,by simp,_,rfl,E⟩;simp only[h j u]
   simp only[ab,ae]at a;simp[a,br (n:=400) (show i<400 by omega) (by omega)]at d;subst d;exact .inl ⟨λ_ _=>iI hlen (λk m t=>g k m m t),_,rfl,by simp[a]⟩)
  (λe r a d=>by
   simp only[ab,ae]at a;simp[U.w4,a]at d;subst d;exact⟨_,rfl,by simp⟩)
 clear z;rcases C with⟨i,j,_,D,f,rfl,E⟩|⟨g,f,rfl,_⟩
 .rw[cK (λh=>D (by subst h;exact λ_ _=>rfl))];simp[E,aa]
 have:x=y:=by have h5:x.nx=y.nx:=iI J (λi m t=>g i m m t);cases x;cases y;simp_all
 rw[dq this];simp[aa]
def j8:Fa:=⟨[[]],[false]⟩
def aeN(s:HS):R (.call 75 [] s)=.val (.agg j8.c) s:=by refine ac3 ?_;simp[U.VR,s0,aq,aA,an];exact aY (.agg (.cons (.sl (l:=[.ah]) (l':=[.psl []]) (by simp[an]) (.cons .ah .nil) (λ_=>rfl) (λh=>by cases h)) (.cons (.sl (l:=[.bool false]) (l':=[.bool false]) (by simp[an]) (.data rfl) (λ_=>rfl) (λh=>by cases h)) .nil)))
abbrev nC(n:Nat):ai:=[iV n]
@[simp]def UL(l:az):eT (l.map nC)=true:=cD (λx=>by simp) l
structure Wk where
 a:Ar
 w:bE
 op:az
 pt:bb
 js:bb
 lost:Bool
 sj:Int
@[simp]def Wk.c(x:Wk):ai:=[.psl (x.a.ids.map Ty.c),.bool x.a.root.cell,.int .i64 x.a.root.n,.bool x.a.jumps,.psl (x.w.map Mv.c),.psl (x.op.map nC),.psl (x.pt.map iC),.psl (x.js.map iC),.bool x.lost,.int .i64 x.sj]
def cH(w:bE):Bool:=match w.getLast? with|none=>false|some m=>dH m&&decide (0<m.arg)
def mO(x:Wk):Option Mv:=match x.op.getLast? with|none=>none|some n=>x.w[n]?
def qq(t m:Mv):Bool:=m.id=t.id/\m.arg=t.arg/\m.kind=3/\(t.kind=1∨m.n<=0)
def ju(x:Wk)(m:Mv):Bool:=gT x.a m&&(if x.w=[]then decide (m.id=0)&&dS m else match mO x with
 |none=>false
 |some t=>if x.lost||cH x.w then qq t m&&dH m else
  if dS m then(if 0<t.id/\t.arg=0 then m.id=t.id/\0<m.arg else 0<m.id/\m.arg=0)else
  if dH m/\t.arg=0 then qq t m&&decide (0<t.id)&&x.a.jumps else qq t m)
structure yq(x:Wk):Prop where
 ok:fz x.a
 chk:aQ x.a=0
 len:x.w.length<=400
 op:∀n∈x.op,n<x.w.length
 Oc:x.op.length<=x.w.length
 ptl:x.pt.length=x.w.length
 jsl:x.js.length=x.w.length
def wkL(x:Wk)(v1 v2 v3 v4:HV):ai:=[.psl (x.a.ids.map Ty.c),.bool x.a.root.cell,.int .i64 x.a.root.n,.bool x.a.jumps,v1,v2,v3,v4,.bool x.lost,.int .i64 x.sj]
def wkN(x:Wk)(v1 v2 v3 v4:HV):cq:=[(v1,4,x.w.map Mv.c),(v2,1,x.op.map nC),(v3,1,x.pt.map iC),(v4,1,x.js.map iC)]
def WkE(s:HS)(o:Ky)(x:Wk):Prop:=∃v1 v2 a c ao,mM s o (wkL x v1 v2 a c) ao (wkN x v1 v2 a c)
def WkE.vw1{n:Nat}{s:HS}{o:Ky}{x:Wk}(h:WkE s o x):Vw s (n+4) (.ptr o 0) (.aw x.c):=by obtain⟨v1,v2,a,d,ao,h⟩:=h;refine Vw.ptr h.bm.1 rfl ?_;exact .cons (.data (by simp)) (.cons (.data (by simp)) (.cons (.data (by simp)) (.cons (.data (by simp)) (.cons ((h.own 0 _ _ _ rfl).vw (by simp)) (.cons ((h.own 1 _ _ _ rfl).vw (by simp)) (.cons ((h.own 2 _ _ _ rfl).vw (by simp)) (.cons ((h.own 3 _ _ _ rfl).vw (by simp)) (.cons (.data (by simp)) (.cons (.data (by simp)) .nil)))))))))
def WkE.vw{s:HS}{o:Ky}{x:Wk}(h:WkE s o x):oj s 16 [.ptr o 0] [.aw x.c]:=.cons h.vw1 .nil
def dL(x:Wk)(m:Mv):Wk:=
 if dS m then{x with w:=x.w++[m],op:=x.op++[x.w.length],pt:=x.pt++[-1],js:=x.js++[if 0<m.arg then((x.op.getLastD 0:Nat):Int)else if 0<m.id then 0 else-1],sj:=max x.sj (x.op.length+1)}
 else{x with w:=x.w++[m],op:=x.op.dropLast,pt:=x.pt.set (x.op.getLastD 0) x.w.length++[((x.op.getLastD 0:Nat):Int)],js:=x.js++[((x.op.getLastD 0:Nat):Int)],lost:=x.lost||(dH m&&decide (0<m.id)&&decide (m.arg=0)&& !cH x.w)}
def ahU{o:Ky}{k:Nat}{l:ai}:cI (.ptr o k::l)=false:=by rw[cI];simp[cm]
def rk{a:Ar}{m:Mv}(h:gT a m=true):∃b e,dC a m.id m.arg=some (b,e):=by unfold gT cG lX at h;cases d:dC a m.id m.arg with|none=>rw[d]at h;simp at h|some c=>exact⟨c.1,c.2,rfl⟩
def yr{x:Wk}{m:Mv}(h:ju x m=true):gT x.a m=true:=by unfold ju at h;simp only[aL]at h;exact h.1
def vS{x:Wk}{m:Mv}(a:ju x m=true)(c:x.w≠ []):x.op≠ []:=by
 intro d;unfold ju at a;rw[ar c]at a;have:mO x=none:=by unfold mO;rw[d];rfl
 rw[this]at a;simp at a
def nR{x:Wk}{m:Mv}(a:ju x m=true)(c:x.w=[]):m.id=0/\dS m=true:=by unfold ju at a;rw[au c]at a;simp at a;exact a.2
def BL(x:Wk)(m:Mv):(dL x m).a=x.a:=by unfold dL;split<;>rfl
def MK(x:Wk)(m:Mv):(dL x m).w=x.w++[m]:=by unfold dL;split<;>rfl
def yq.take{x:Wk}(a:yq x){m:Mv}(f:x.w.length<400)(dA:dS m=false->x.op≠ []):yq (dL x m):=by
 have g:=a.Oc;have h:=a.ptl;have j:=a.jsl;cases d:dS m with
 |true=>
  unfold dL;rw[au d];refine⟨a.ok,a.chk,by simp;omega,λn c=>?_,by simp;omega,by simp;omega,by simp;omega⟩;simp only[l5,cr]at c;simp only[bZ,dB];rcases c with c|rfl
  .have:=a.op n c;omega
  omega
 |false=>unfold dL;rw[d];refine⟨a.ok,a.chk,by simp;omega,λn c=>?_,by simp;omega,by simp;omega,by simp;omega⟩;have:=a.op n ((BM _).subset c);simp only[df,bD,bZ,dB];omega
def gn(x:Wk):bE->Wk×Nat
 |[]=>(x,0)
 |m::r=>if ju x m then((gn (dL x m) r).1,(gn (dL x m) r).2+1)else(x,0)
def tU(a:Ar):Wk:=⟨a,[],[],[],[],false,0⟩
def yq.zero{a:Ar}(ok:fz a)(c:aQ a=0):yq (tU a):=⟨ok,c,by simp[tU],by simp[tU],by simp[tU],by simp[tU],by simp[tU]⟩
def Gz(a:Ar)(w:bE):Int×Int:=if aQ a≠0 then(0,aQ a)else if 400<w.length then(0,5)else if(gn (tU a) w).2<w.length then((gn (tU a) w).2,13)else(0,0)
def sk(w:bE):Nat->Bool
 |0=>false
 |j+1=>match w[j]?with|some m=>dH m&&decide (0<m.arg)|none=>false
abbrev gP(e:tO):ai:=[e.1]
section
variable{s:HS}{ao:aW}{of:bb}{aE:cq}{v1 v2:HV}{i:Nat}
end
def jA(w:bE)(c:az):bE:=c.map λi=>rb (w.getD i ⟨0,0,0,0⟩)
structure Sp where
 id:Int
 arg:Int
 b:Bs
 Cm:Bool
 deriving DecidableEq
@[simp]def Sp.c(p:Sp):ai:=[.int .i64 p.id,.int .i64 p.arg,.bool p.b.cell,.int .i64 p.b.n,.bool p.Cm]
def BN(i:Nat):Nat->se->List Sp
 |_,[]=>[]
 |j,b::r=>⟨(i:Int)+1,(j:Int)+1,b,true⟩::BN i (j+1) r
def zA(jumps:Bool):Nat->uJ->List Sp
 |_,[]=>[]
 |i,t::r=>⟨(i:Int)+1,0,t.res,jumps||decide (0<t.ps.length)⟩::(BN i 0 t.ps++zA jumps (i+1) r)
def uK(a:Ar):List Sp:=⟨0,0,a.root,a.jumps⟩::zA a.jumps 0 a.ids
abbrev qs(p:Sp):HV:=.agg p.c
section
variable{l:Ky}{G:bM}{I:ai->HS->Prop}{Fn:HS->Prop}{N:Nat}(hG:∀k,G k->k.toNat<N)(gw:∀x,zz N (I x))(Iw:zz N Fn)
 (eB:∀x rest s1,N<=s1.nx.toNat->I (x::rest) s1->∃b s2,R (.round l [x] s1)=.val (.bool b) s2/\cV G s1 s2/\(b=true->I rest s2)/\(b=false->Fn s2))
include hG gw eB
theorem XJ(a:Ar)(i:Nat)(ps:se)(W:ps.length<4611686018427387904)(X:i<4611686018427387904)(rest:ai)(e:En)(s:HS)(r:Out)(w:look e 1=some (.iK l))(y:look e 4=some (iV i))(f:look e 45=some (.psl (ps.map Bs.c)))(d:look e 46=some (iV ps.length))(g:look e 47=some (iV 0))
  (z:look e 2=some (.aw a.c))(v20 v21 v22:HV)(m:look e 20=some v20)(p:look e 21=some v21)(q:look e 22=some v22)
  (H:N<=s.nx.toNat)(u:I ((BN i 0 ps).map qs++rest) s)(t:ev R (.loop U.pC) e s=r):
  ∃e' s',cV (λk=>G k∨Up N k) s s'/\((r=.code .ret e' s'/\Fn s')∨(r=.code (.exit 2) e' s'/\I rest s'/\look e' 1=some (.iK l)/\look e' 2=some (.aw a.c)/\look e' 20=some v20/\look e' 21=some v21/\look e' 22=some v22)):=by
 refine eI t ps.length
  (λj e s'=>look e 1=some (.iK l)/\look e 4=some (iV i)/\look e 45=some (.psl (ps.map Bs.c))/\look e 46=some (iV ps.length)/\look e 47=some (iV j)/\look e 2=some (.aw a.c)/\look e 20=some v20/\look e 21=some v21/\look e 22=some v22/\
   cV (λk=>G k∨Up N k) s s'/\N<=s'.nx.toNat/\I ((BN i j (ps.drop j)).map qs++rest) s')
  (λr=>∃e' s',cV (λk=>G k∨Up N k) s s'/\((r=.code .ret e' s'/\Fn s')∨(r=.code (.exit 2) e' s'/\I rest s'/\look e' 1=some (.iK l)/\look e' 2=some (.aw a.c)/\look e' 20=some v20/\look e' 21=some v21/\look e' 22=some v22)))
  0 (by omega) ⟨w,y,f,d,g,z,m,p,q,cV.refl,H,u⟩
  (λj e s' r E ⟨w,y,f,d,g,z,m,p,q,J,H,u⟩ t=>?_) (λe s' r ⟨w,y,f,d,g,z,m,p,q,J,H,u⟩ t=>?_)
 .rw[uv E]at u;simp only[BN,bX,bo]at u;have A:=cV.alloc (s:=s') (.cells (cP ps[j].c) 0 2 s'.nx) [s'.nx];have M:=gw _ _ _ u (A.mono (λ_ h=>h.elim));have O:=Ky.aS s'.nx;obtain⟨b,s2,Q,V,Y,T⟩:=eB _ _ _ (by simp only;omega) M;have B:cV (λk=>G k∨Up N k) s s2:=J.trans ((A.mono (λ_ h=>h.elim)).trans (V.mono λk Z=>.inl Z));have C:=br (n:=4611686018427387904) X (by omega);have D:=br E (re W);simp only[qs,Sp.c,Bs.c]at Q;cases b with|false=>simp[U.pC,w,y,f,d,g,E,C,D,aq,aA,an,Q]at t;subst t;exact .inr ⟨by simp,_,_,B,.inl ⟨rfl,T rfl⟩⟩|true=>simp[U.pC,w,y,f,d,g,E,C,D,aq,aA,an,Q]at t;subst t;exact .inl ⟨_,_,rfl,by simp[w],by simp[y],by simp[f],by simp[d],by simp,by simp[z],by simp[m],by simp[p],by simp[q],B,by have:=V.1;simp only at this;omega,Y rfl⟩
 rw[Jb]at u;simp[U.pC,d,g]at t;subst t;exact⟨by simp,_,_,J,.inr ⟨rfl,u,by simp[w,z,m,p,q]⟩⟩
include Iw in
theorem XK(a:Ar)(ok:fz a)(rest:ai)(e:En)(s:HS)(r:Out)(q:look e 1=some (.iK l))(u:look e 2=some (.aw a.c))(j:look e 20=some (.psl (a.ids.map Ty.c)))(d:look e 21=some (iV a.ids.length))(f:look e 22=some (iV 0))
  (M:N<=s.nx.toNat)(y:I ((zA a.jumps 0 a.ids).map qs++rest) s)(g:ev R (.loop U.pD) e s=r):
  ∃e' s',cV (λk=>G k∨Up N k) s s'/\((r=.code .ret e' s'/\Fn s')∨(r=.code (.exit 0) e' s'/\I rest s')):=by
 refine eI g a.ids.length
  (λi e s'=>look e 1=some (.iK l)/\look e 2=some (.aw a.c)/\look e 20=some (.psl (a.ids.map Ty.c))/\look e 21=some (iV a.ids.length)/\look e 22=some (iV i)/\
   cV (λk=>G k∨Up N k) s s'/\N<=s'.nx.toNat/\I ((zA a.jumps i (a.ids.drop i)).map qs++rest) s')
  (λr=>∃e' s',cV (λk=>G k∨Up N k) s s'/\((r=.code .ret e' s'/\Fn s')∨(r=.code (.exit 0) e' s'/\I rest s')))
  0 (by omega) ⟨q,u,j,d,f,cV.refl,M,y⟩
  (λi e s' r z ⟨q,u,j,d,f,O,M,y⟩ g=>?_) (λe s' r ⟨q,u,j,d,f,O,M,y⟩ g=>?_)
 .have Q:=ok.2 _ (cb z);have hl:=ok.1;rw[uv z]at y;simp only[zA,bX,bo,eU,yt]at y;have D:=cV.alloc (s:=s') (.cells (cP a.ids[i].c) 0 3 s'.nx) [s'.nx];have T:=gw _ _ _ y (D.mono (λ_ h=>h.elim));have V:=Ky.aS s'.nx;obtain⟨b,s2,n,W,ht,E⟩:=eB _ _ _ (by simp only;omega) T;have A:cV (λk=>G k∨Up N k) s s2:=O.trans ((D.mono (λ_ h=>h.elim)).trans (W.mono λk X=>.inl X));have Y:N<=s2.nx.toNat:=by have:=W.1;simp only at this;omega
  have B:aj s2.h s'.nx=some (.cells (cP a.ids[i].c) 0 3 s'.nx):=by rw[W.2.2.1 s'.nx (by simp only;omega) (λh=>by have:=hG _ h;omega)];simp
  have p:=br z (re hl);simp only[qs,Sp.c,Ty.c]at n B;cases b with
  |false=>
   cases w:a.jumps<;>rw[w]at n
   .simp at n;simp[U.pD,q,u,j,d,f,z,p,aq,aA,an,w,n]at g;subst g;exact .inr ⟨by simp,_,_,A,.inl ⟨rfl,E rfl⟩⟩
   simp at n;simp[U.pD,q,u,j,d,f,z,p,aq,aA,an,w,n]at g;subst g;exact .inr ⟨by simp,_,_,A,.inl ⟨rfl,E rfl⟩⟩
  |true=>
   have fn:∀e1 C,ev R (.loop U.pC) e1 s2=C->look e1 1=some (.iK l)->look e1 2=some (.aw a.c)->look e1 4=some (iV i)->look e1 20=some (.psl (a.ids.map Ty.c))->look e1 21=some (iV a.ids.length)->look e1 22=some (iV i)->look e1 45=some (.psl (a.ids[i].ps.map Bs.c))->look e1 46=some (iV a.ids[i].ps.length)->look e1 47=some (iV 0)->
     (gE 1 (gE 2 C)).cA (ev R (.rg [22] [⟨some 62,.bin false .add (.t 22) (.k (.int .i64 1)),none⟩,⟨some 22,.mv (.t 62),none⟩]))=r->(∃e' s',r=.code .normal e' s'/\look e' 1=some (.iK l)/\look e' 2=some (.aw a.c)/\look e' 20=some (.psl (a.ids.map Ty.c))/\look e' 21=some (iV a.ids.length)/\look e' 22=some (iV ((i+1:Nat):Int))/\
   cV (λk=>G k∨Up N k) s s'/\N<=s'.nx.toNat/\I ((zA a.jumps (i+1) (a.ids.drop (i+1))).map qs++rest) s')∨(gJ r/\∃e' s',cV (λk=>G k∨Up N k) s s'/\((r=.code .ret e' s'/\Fn s')∨(r=.code (.exit 0) e' s'/\I rest s'))):=by
    intro e1 C m g1 g2 g4 Z h3 h4 h5 h6 h7 g;obtain⟨e2,s3,H,hd⟩:=XJ hG gw eB a i a.ids[i].ps Q (by omega) _ e1 s2 C g1 g4 h5 h6 h7 g2 _ _ _ Z h3 h4 Y (ht rfl) m;clear m;have J:=A.trans (H.mono λk X=>X);rcases hd with⟨rfl,h8⟩|⟨rfl,h9,q1,q2,ha,hg,ho⟩
    .simp at g;subst g;exact .inr ⟨by simp,_,_,J,.inl ⟨rfl,h8⟩⟩
    simp[ho,p]at g;subst g;exact .inl ⟨_,_,rfl,by simp[q1],by simp[q2],by simp[ha],by simp[hg],by simp,J,by have:=H.1;omega,h9⟩
   cases w:a.jumps<;>rw[w]at n
   .simp at n;simp[U.pD,q,u,j,d,f,z,p,aq,aA,an,w,n,B]at g;generalize m:ev R (.loop U.pC) _ s2=C at g;rw[w]at fn;exact fn _ _ m (by simp[q]) (by simp[u]) (by simp) (by simp[j]) (by simp[d]) (by simp[f]) (by simp) (by simp) (by simp) g
   simp at n;simp[U.pD,q,u,j,d,f,z,p,aq,aA,an,w,n,B]at g;generalize m:ev R (.loop U.pC) _ s2=C at g;rw[w]at fn;exact fn _ _ m (by simp[q]) (by simp[u]) (by simp) (by simp[j]) (by simp[d]) (by simp[f]) (by simp) (by simp) (by simp) g
 rw[Jb]at y;simp[U.pD,d,f]at g;subst g;exact⟨by simp,_,_,O,.inr ⟨rfl,y⟩⟩
end
def aeO(a:Ar)(ok:fz a):H3 LU U.prog 123 [.agg a.c] [] ((uK a).map qs):=by
 intro l G I Fn s hG gw Iw eB rest u;simp only[uK,bX,bo]at u;obtain⟨b,s1,g,p,w,q⟩:=eB _ _ s (aV _) u;simp only[qs,Sp.c]at g;have g:R (Task.round l [HV.agg [.int .i64 0,.int .i64 0,.bool a.root.cell,.int .i64 a.root.n,.bool a.jumps]] s)=.val (.bool b) s1:=g;generalize d:ev R U.Mb (bc ([.agg a.c]++[.iK l]++[]) 0) s=r;have f:=d;cases b with
 |false=>simp[U.Mb,g]at d;subst d;exact⟨s1,RU rfl ⟨.ret,_,s1,f,.inr rfl,by simp⟩,p.mono λk t=>.inl t,.inr (q rfl)⟩
 |true=>
  simp[U.Mb,g]at d;generalize j:ev R (.loop U.pD) _ s1=y at d;obtain⟨e2,s2,z,A⟩:=XK hG gw Iw eB a ok rest _ s1 y (by simp) (by simp) (by simp) (by simp) (by simp) p.1 (w rfl) j;clear j;have m:=(p.mono (G:=λk=>G k∨Up s.nx.toNat k) λk t=>.inl t).trans z;rcases A with⟨rfl,h⟩|⟨rfl,h⟩
  .simp at d;subst d;exact⟨s2,RU rfl ⟨.ret,_,s2,f,.inr rfl,by simp⟩,m,.inr h⟩
  simp at d;subst d;exact⟨s2,RU rfl ⟨.normal,_,s2,f,.inl rfl,by simp⟩,m,.inl h⟩
end Go.Proofs.YtcfbbbjhnaienaaGreatDoor.K.Hm.S
