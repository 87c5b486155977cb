/- PactBlame returns true for every pact and word, part 3. -/
import Derived.Test.YtepamfbheocmhaaGreatDoorCaa
import Derived.Test.YtepamfbheocmhaaGreatDoorCab
import Derived.KernelRfl
import Derived.Test.YtepamfbheocmhaaGreatDoorProg
set_option linter.all false
open Int renaming ofNat_eq_natCast->mW
open List renaming length_cons->az,nil_append->bA,length_singleton->dx
open Nat renaming add_zero->gH
open Function renaming comp_def->EU
set_option maxRecDepth 10000
noncomputable section
namespace Go.Proofs.YtepamfbheocmhaaGreatDoor.K.Hm.U
open Go
abbrev o(d:Nat)(p:ll):aP:=⟨some d,p,none⟩
abbrev e(p:ll):aP:=⟨none,p,none⟩
abbrev G(d:Nat)(p:ll)(t:Nat)(b:Bool):aP:=⟨some d,p,some (t,b)⟩
abbrev m(d x:Nat):aP:=⟨some d,.mv (.t x),none⟩
abbrev l(d x:Nat):aP:=⟨some d,.ld (.t x) none,none⟩
abbrev L(d x n:Nat):aP:=⟨some d,.ld (.t x) (some n),none⟩
abbrev z(d:Nat)(b:BinOp)(x y:Nat):aP:=⟨some d,.bin false b (.t x) (.t y),none⟩
abbrev f(d x n:Nat):aP:=⟨some d,.fa (.t x) n,none⟩
abbrev a(d x y n:Nat):aP:=⟨some d,.ia (.t x) (.t y) n,none⟩
abbrev n(d x:Nat):aP:=⟨some d,.len 0 (.t x),none⟩
abbrev x(d t n:Nat):aP:=⟨some d,.ext (.t t) n,none⟩
abbrev mT(d x:Nat)(y:Nat):aP:=⟨some d,.mv (.t x),some (y,true)⟩
abbrev mF(d x:Nat)(y:Nat):aP:=⟨some d,.mv (.t x),some (y,false)⟩
abbrev lT(d x:Nat)(y:Nat):aP:=⟨some d,.ld (.t x) none,some (y,true)⟩
abbrev lF(d x:Nat)(y:Nat):aP:=⟨some d,.ld (.t x) none,some (y,false)⟩
abbrev LT(d x n:Nat)(y:Nat):aP:=⟨some d,.ld (.t x) (some n),some (y,true)⟩
abbrev LF(d x n:Nat)(y:Nat):aP:=⟨some d,.ld (.t x) (some n),some (y,false)⟩
abbrev fT(d x n:Nat)(y:Nat):aP:=⟨some d,.fa (.t x) n,some (y,true)⟩
abbrev fF(d x n:Nat)(y:Nat):aP:=⟨some d,.fa (.t x) n,some (y,false)⟩
abbrev aT(d x z n:Nat)(y:Nat):aP:=⟨some d,.ia (.t x) (.t z) n,some (y,true)⟩
abbrev aF(d x z n:Nat)(y:Nat):aP:=⟨some d,.ia (.t x) (.t z) n,some (y,false)⟩
abbrev nT(d x:Nat)(y:Nat):aP:=⟨some d,.len 0 (.t x),some (y,true)⟩
abbrev nF(d x:Nat)(y:Nat):aP:=⟨some d,.len 0 (.t x),some (y,false)⟩
abbrev K(d:Nat)(x:Int):aP:=⟨some d,.mv (.k (.int .i64 x)),none⟩
abbrev Z(d:Nat):aP:=⟨some d,.mv (.k (.bool false)),none⟩
abbrev O(d:Nat):aP:=⟨some d,.mv (.k (.bool true)),none⟩
abbrev Q(d:Nat):aP:=⟨some d,.mv (.k .ah),none⟩
abbrev V(d:Nat):aP:=⟨some d,.mv (.k .dO),none⟩
abbrev y(d x z:Nat):aP:=⟨some d,.pick (.t x) (.t z) (.k (.bool false)),none⟩
abbrev yT(d x z:Nat)(y:Nat):aP:=⟨some d,.pick (.t x) (.t z) (.k (.bool false)),some (y,true)⟩
abbrev yF(d x z:Nat)(y:Nat):aP:=⟨some d,.pick (.t x) (.t z) (.k (.bool false)),some (y,false)⟩
abbrev Y(d x z:Nat):aP:=⟨some d,.pick (.t x) (.k (.bool true)) (.t z),none⟩
abbrev YT(d x z:Nat)(y:Nat):aP:=⟨some d,.pick (.t x) (.k (.bool true)) (.t z),some (y,true)⟩
abbrev i(d:Nat)(p:BinOp)(x:Nat)(k:Int):aP:=⟨some d,.bin false p (.t x) (.k (.int .i64 k)),none⟩
abbrev iT(d:Nat)(p:BinOp)(x:Nat)(k:Int)(y:Nat):aP:=⟨some d,.bin false p (.t x) (.k (.int .i64 k)),some (y,true)⟩
abbrev iF(d:Nat)(p:BinOp)(x:Nat)(k:Int)(y:Nat):aP:=⟨some d,.bin false p (.t x) (.k (.int .i64 k)),some (y,false)⟩
abbrev zT(d:Nat)(p:BinOp)(x z:Nat)(y:Nat):aP:=⟨some d,.bin false p (.t x) (.t z),some (y,true)⟩
abbrev zF(d:Nat)(p:BinOp)(x z:Nat)(y:Nat):aP:=⟨some d,.bin false p (.t x) (.t z),some (y,false)⟩
abbrev b(d x:Nat):aP:=⟨some d,.fbx (.t x),none⟩
abbrev j(d k:Nat):aP:=⟨some d,.call k [],none⟩
abbrev c(d k x:Nat):aP:=⟨some d,.call k [.t x],none⟩
abbrev cT(d k x:Nat)(y:Nat):aP:=⟨some d,.call k [.t x],some (y,true)⟩
abbrev cF(d k x:Nat)(y:Nat):aP:=⟨some d,.call k [.t x],some (y,false)⟩
abbrev C(d k x z:Nat):aP:=⟨some d,.call k [.t x,.t z],none⟩
abbrev CT(d k x z:Nat)(y:Nat):aP:=⟨some d,.call k [.t x,.t z],some (y,true)⟩
abbrev CF(d k x z:Nat)(y:Nat):aP:=⟨some d,.call k [.t x,.t z],some (y,false)⟩
abbrev J(d k x z v:Nat):aP:=⟨some d,.call k [.t x,.t z,.t v],none⟩
abbrev p(d k n x z:Nat):aP:=⟨some d,.app k n none (.t x) (.t z),none⟩
abbrev k(d x:Nat):aP:=⟨some d,.nck (.t x),none⟩
abbrev N(d x:Nat):aP:=⟨some d,.un .not (.t x),none⟩
abbrev NT(d x:Nat)(y:Nat):aP:=⟨some d,.un .not (.t x),some (y,true)⟩
abbrev NF(d x:Nat)(y:Nat):aP:=⟨some d,.un .not (.t x),some (y,false)⟩
abbrev q(d k x:Nat):aP:=⟨some d,.fbl k [.t x],none⟩
abbrev s(n x z:Nat):aP:=⟨none,.st n (.t x) (.t z),none⟩
abbrev h(n p:Nat)(k:ay)(r:List Rs)(c:HC):HF:=⟨n,p,k,r,c,true⟩
abbrev h0(n p:Nat)(k:ay)(r:List Rs)(c:HC):HF:=⟨n,p,k,r,c,false⟩
abbrev R:HC:=.ret
abbrev W:HC:=.skip
abbrev g(x:ay)(l:List aP):HC:=.rg x l
abbrev t(x a b:Nat):HC:=.rg [x] [m a x,i b .add a 1,m x b]
abbrev d(x:ay)(l:List dL)(k:List aP):HC:=.K8 x l k
abbrev I(t:Nat)(a b:HC):HC:=.cond (.t t) a b
abbrev F(x:ay)(l:List aP):HC:=.seq (.rg x l) .ret
abbrev A(x:ay)(l:List aP)(t:Nat)(a b:HC):HC:=.seq (.rg x l) (.cond (.t t) a b)
abbrev S(a b:HC):HC:=.seq a b
abbrev T(n:Nat)(c:HC):HC:=.block n c
abbrev M(c:HC):HC:=.loop c
abbrev X(n:Nat):HC:=.exit n
abbrev r(n:Nat)(h:aP):dL:=⟨n,h,.r⟩
abbrev v(n:Nat)(h:aP):dL:=⟨n,h,.a⟩
abbrev u(n:Nat)(h:aP):dL:=⟨n,h,.e⟩
abbrev w(n:Nat)(h:aP)(x y:Nat):dL:=⟨n,h,.l x y⟩
@[simp]def Lq:=g [2,4] [b 2 0,Z 4]
@[simp]def Lr:=g [43] [L 22 2 6,c 23 4 22,N 24 23,m 25 24,fF 26 2 0 25,LF 27 26 4 25,mF 28 1 25,CF 29 5 27 28 25,NF 30 29 25,Y 31 25 30,m 32 31,fF 33 2 4 32,fF 34 33 0 32,lF 35 34 32,nF 36 35 32,iF 37 .eql 36 1 32,mF 38 37 32,LT 39 2 6 38,G 40 (.call 6 [.t 39,.k .ah]) 38 true,NT 41 40 38,yF 42 38 41 32,Y 43 32 42]
@[simp]def Ls:=g [4] [j 44 7,m 4 44]
@[simp]def Lt:=g [5,6,7] [L 46 2 6,c 47 9 46,m 48 1,c 49 10 48,C 50 8 47 49,m 45 50,x 51 45 0,x 52 45 1,x 53 45 2,m 5 51,m 6 52,m 7 53]
@[simp]def Lu:=g [65] [m 54 7,i 55 .neq 54 0,m 56 55,mF 57 5 56,iF 58 .lss 57 (-1) 56,Y 59 56 58,m 60 59,mF 61 5 60,mF 62 1 60,nF 63 62 60,zF 64 .geq 61 63 60,Y 65 60 64]
@[simp]def Lw:=g [4] [Z 4]
@[simp]def Lx:=g [67] [m 66 5,i 67 .geq 66 0]
@[simp]def Ly:=d [8,9] [w 0 (L 69 2 6) 0 0,u 1 (c 70 9 69),r 2 (m 71 1),r 3 (m 72 5),r 4 (o 73 (.slc (.t 71) none (some (.t 72)) none 4)),u 5 (c 74 10 73),u 6 (C 75 11 70 74),r 7 (m 68 75),r 8 (x 76 68 0),r 9 (x 77 68 1),r 10 (m 8 76)] [m 9 77]
@[simp]def Lz:=g [88] [m 78 9,i 79 .neq 78 0,m 80 79,mF 81 6 80,mF 82 1 80,mF 83 5 80,aF 84 82 83 4 80,LF 85 84 4 80,cF 86 12 85 80,G 87 (.bin true .neq (.t 81) (.t 86)) 80 false,Y 88 80 87]
@[simp]def LA:=g [4] [Z 4]
@[simp]def I1:=g [10] [K 10 0]
@[simp]def I2:=g [92] [m 89 10,m 90 8,n 91 90,z 92 .lss 89 91]
@[simp]def I3:=d [103] [r 0 (m 95 8),r 1 (m 96 10),r 2 (a 97 95 96 4),w 3 (L 98 97 4) 0 0,r 4 (m 99 1),r 5 (m 100 5),r 6 (a 101 99 100 4),w 7 (L 102 101 4) 0 0] [o 103 (.eqs ⟨true,[0,0,0,0]⟩ false (.t 98) (.t 102))]
@[simp]def I4:=g [4] [Z 4]
def FN:=T 1 (S I3 (I 103 (S I4 R) W))
@[simp]def I5:=t 10 93 94
def rC:=S (S I2 (I 92 W (X 0))) (S FN I5)
def FO:=T 0 (M rC)
@[simp]def I6:=d [11,13] [w 0 (L 105 2 6) 0 0,u 1 (c 106 9 105),r 2 (m 107 1),r 3 (m 108 5),r 4 (o 109 (.slc (.t 107) none (some (.t 108)) none 4)),u 5 (c 110 10 109),u 6 (C 111 8 106 110),r 7 (m 104 111),r 8 (x 112 104 0),r 9 (x 113 104 1),r 10 (x 114 104 2),r 11 (m 11 112),r 12 (m 12 113)] [m 13 114]
@[simp]def I7:=g [4] [m 115 13,i 116 .eql 115 0,m 117 116,mT 118 11 117,iT 119 .eql 118 (-1) 117,y 120 117 119,m 121 120,G 122 (.call 7 []) 121 true,y 123 121 122,m 4 123]
@[simp]def I8:=g [14,15] [L 125 2 6,c 126 9 125,m 127 1,c 128 10 127,C 129 11 126 128,m 124 129,x 130 124 0,x 131 124 1,m 14 130,m 15 131]
@[simp]def Ja:=g [133] [m 132 15,i 133 .neq 132 0]
@[simp]def Jb:=g [4] [Z 4]
@[simp]def Jc:=g [16] [K 16 0]
@[simp]def Jd:=g [142] [m 134 16,m 135 14,n 136 135,z 137 .lss 134 136,m 138 137,mT 139 1 138,nT 140 139 138,iT 141 .lss 140 40 138,y 142 138 141]
@[simp]def Je:=d [17,19] [w 0 (L 146 2 6) 0 0,u 1 (c 147 9 146),r 2 (m 148 1),u 3 (c 149 10 148),r 4 (m 150 14),r 5 (m 151 16),r 6 (a 152 150 151 4),w 7 (L 153 152 4) 0 2,r 8 (q 154 4 153),u 9 (p 155 4 4398046511104 149 154),u 10 (C 156 8 147 155),r 11 (m 145 156),r 12 (x 157 145 0),r 13 (x 158 145 1),r 14 (x 159 145 2),r 15 (m 17 157),r 16 (m 18 158)] [m 19 159]
@[simp]def Jf:=g [165] [m 160 19,i 161 .neq 160 0,m 162 161,mF 163 17 162,iF 164 .neq 163 (-1) 162,Y 165 162 164]
@[simp]def Jg:=g [4] [Z 4]
def FP:=T 3 (S Je (S Jf (I 165 (S Jg R) W)))
@[simp]def Jh:=t 16 143 144
def pP:=S (S Jd (I 142 W (X 2))) (S FP Jh)
def FQ:=T 2 (M pP)
@[simp]def Ji:=g [20] [f 167 2 0,L 168 167 4,m 169 1,C 170 13 168 169,m 166 170,x 171 166 0,x 172 166 1,o 20 (.alloc [.int .u8 0,.ah,.bool false,.bool false]),s 4 20 171,m 21 172]
@[simp]def Jj:=d [4] [w 3 (L 176 2 6) 0 0,r 4 (m 177 1),u 5 (C 178 6 176 177),r 0 (f 173 20 0),w 1 (l 174 173) 0 1,r 2 (o 175 (.bin false .eql (.t 174) (.k (.int .u8 3)))),r 6 (o 179 (.bin true .eql (.t 175) (.t 178))),r 7 (m 180 179),r 8 (mT 181 14 180),w 9 (nT 182 181 180) 1 1,r 10 (iT 183 .eql 182 0 180),r 11 (fT 184 20 0 180),w 12 (lT 185 184 180) 1 1,r 13 (G 186 (.bin false .eql (.t 185) (.k (.int .u8 3))) 180 true)] [G 187 (.bin true .eql (.t 183) (.t 186)) 180 true,y 188 180 187,m 189 188,G 190 (.call 7 []) 189 true,y 191 189 190,m 4 191]
def zx:=S Lq (S (S Lr (I 43 (S Ls R) W)) (S Lt (S (S Lu (I 65 (S Lw R) W)) (S (S Lx (I 67 (S Ly (S (S Lz (I 88 (S LA R) W)) (S (S I1 FO) (S I6 (S I7 R))))) W)) (S I8 (S (S Ja (I 133 (S Jb R) W)) (S (S Jc FQ) (S Ji (S Jj R)))))))))
def VP:=h 192 2 [0,1,2,4,5,6,7,8,9,10,11,13,14,15,16,17,19,20,43,65,67,88,92,103,133,142,165] [.tmp 4] zx
@[simp]def VQ:=g [2] [L 3 1 6,c 4 14 3,m 5 4,LT 6 1 6 5,cT 7 15 6 5,iT 8 .eql 7 0 5,y 9 5 8,m 2 9]
def N3:=S (g [1,2] [b 1 0,Z 2]) (S VQ R)
def f29:=h 10 1 [0,1,2] [.tmp 2] N3
def b25:=S (g [2,4] [b 2 0,Z 4]) (S (A [9] [m 7 1,n 8 7,i 9 .gtr 8 40] 9 (F [4] [Z 4]) W) (S (g [6] [L 11 2 4,m 12 1,C 13 16 11 12,m 10 13,x 14 10 0,x 15 10 1,m 5 14,m 6 15]) (F [4] [m 16 6,i 17 .eql 16 0,m 4 17])))
def f25:=h 18 2 [0,1,2,4,6,9] [.tmp 4] b25
def N4:=S (g [2,4] [b 2 0,Z 4]) (F [4] [f 5 2 4,L 6 5 2,m 7 1,C 8 17 6 7,m 4 8])
def N5:=h 9 2 [0,1,2,4] [.tmp 4] N4
def τ:=S (g [2,4,5,6] [b 2 0,K 4 0,Z 5,K 6 0]) (S (g [7,6] [L 12 2 6,m 13 1,C 14 27 12 13,m 11 14,x 15 11 0,x 16 11 1,o 7 (.alloc [.ah,.ah]),s 2 7 15,m 6 16]) (S (A [18] [m 17 6,i 18 .neq 17 0] 18 (F [4,5,6] [m 19 6,K 4 0,Z 5,m 6 19]) W) (S (g [8] [j 20 28,o 8 (.alloc [.int .i64 0,.bool false]),s 2 8 20]) (S (S (g [9,10] [L 22 7 2,m 23 1,C 24 29 22 23,m 21 24,x 25 21 0,x 26 21 1,m 9 25,m 10 26]) (A [28] [m 27 9,i 28 .eql 27 (-1)] 28 (g [] [m 29 10,m 30 1,m 31 10,a 32 30 31 4,L 33 32 4,c 34 30 33,o 35 (.build [.x (.t 29) 1,.x (.t 34) 1]),s 2 8 35]) W)) (S (d [4,5,6] [r 0 (f 36 8 0),w 1 (l 37 36) 0 0,r 2 (f 38 8 1),w 3 (l 39 38) 0 0,r 4 (m 4 37)] [m 5 39,K 6 0]) R)))))
def f31:=h 40 2 [0,1,2,4,5,6,7,8,9,10,18,28] [.tmp 4,.tmp 5,.tmp 6] τ
def b32:=S (g [1,2] [b 1 0,o 2 (.alloc [.ah,.bool false,.int .i64 0,.bool false,.ah,.ah])]) (S (d [] [r 0 (f 3 1 0),w 1 (L 4 3 4) 0 0,u 2 (c 5 31 4),r 3 (f 6 1 4),w 4 (L 7 6 2) 0 1] [c 8 32 7,o 9 (.build [.x (.t 5) 4,.x (.t 8) 2]),s 6 2 9]) R)
def f32:=h 10 1 [0,1,2] [.cell 2 (some 6)] b32
def υ:=S (g [2] [Q 2]) (F [2] [o 3 (.bsl 4 []),m 4 0,p 5 4 4398046511104 3 4,m 2 5])
def f15:=h0 6 1 [0,2] [.tmp 2] υ
@[simp]def LB:=g [31] [L 25 6 2,c 26 33 25,N 27 26,m 28 27,mF 29 8 28,iF 30 .eql 29 (-1) 28,Y 31 28 30]
def Jk:=S (g [2,4,5] [b 2 0,Q 4,K 5 0]) (S (g [6,7] [L 11 2 6,m 12 1,C 13 27 11 12,m 10 13,x 14 10 0,x 15 10 1,o 6 (.alloc [.ah,.ah]),s 2 6 14,m 7 15]) (S (A [17] [m 16 7,i 17 .neq 16 0] 17 (F [4,5] [m 18 7,Q 4,m 5 18]) W) (S (g [8] [L 20 6 2,m 21 1,C 22 29 20 21,m 19 22,x 23 19 0,x 24 19 1,m 8 23,m 9 24]) (S (S LB (I 31 (F [4,5] [Q 4,K 5 12]) W)) (F [4,5] [L 32 6 2,m 33 8,C 34 34 32 33,m 4 34,K 5 0])))))
def FR:=h 35 2 [0,1,2,4,5,6,7,8,17,31] [.tmp 4,.tmp 5] Jk
def b38:=S (g [1,2] [b 1 0,Z 2]) (S (d [2] [r 0 (f 3 1 0),w 1 (l 4 3) 0 0,r 2 (i 5 .gtr 4 0),r 3 (m 6 5),w 8 (L 11 1 4) 0 0,u 9 (c 12 35 11),r 4 (fT 7 1 1 6),w 5 (lT 8 7 6) 0 1,r 6 (iT 9 .eql 8 0 6),r 7 (y 10 6 9)] [o 13 (.bin true .neq (.t 10) (.t 12)),m 2 13]) R)
def f38:=h 14 1 [0,1,2] [.tmp 2] b38
def b27:=S (g [2,4,5] [b 2 0,o 4 (.alloc [.int .u8 0,.ah,.bool false,.bool false]),K 5 0]) (S (g [6,8] [L 10 2 4,m 11 1,C 12 36 10 11,m 9 12,x 13 9 0,x 14 9 1,x 15 9 2,m 6 13,m 7 14,m 8 15]) (S (A [17] [m 16 8,i 17 .neq 16 0] 17 (F [5] [o 18 (.build [.z [.int .u8 0],.z [.ah],.z [.bool false],.z [.bool false]]),m 19 8,s 4 4 18,m 5 19]) W) (S (d [5] [r 0 (m 20 6),u 1 (c 21 37 20),v 2 (o 22 (.bsl 1 [])),r 3 (m 23 6),r 4 (k 24 23),r 5 (f 25 24 5),w 6 (l 26 25) 0 2,u 7 (p 27 1 17592186044416 22 26),r 8 (m 28 6),u 9 (c 29 38 28),r 10 (m 30 6),r 11 (k 31 30),r 12 (f 32 31 8),w 13 (l 33 32) 0 4] [o 34 (.build [.x (.t 21) 1,.x (.t 27) 1,.x (.t 29) 1,.x (.t 33) 1]),s 4 4 34,K 5 0]) R)))
def f27:=h 35 2 [0,1,2,4,5,6,8,17] [.cell 4 (some 4),.tmp 5] b27
@[simp]def VR:=g [22] [f 5 1 0,L 6 5 4,c 7 39 6,N 8 7,m 9 8,fF 10 1 4 9,fF 11 10 0 9,lF 12 11 9,nF 13 12 9,iF 14 .gtr 13 24 9,Y 15 9 14,m 16 15,fF 17 1 4 16,fF 18 17 1 16,lF 19 18 16,nF 20 19 16,iF 21 .gtr 20 26 16,Y 22 16 21]
def FT:=S (A [28] [m 23 4,f 24 1 4,f 25 24 0,l 26 25,n 27 26,z 28 .lss 23 27] 28 W (X 0)) (S (T 1 (g [3] [m 31 3,f 32 1 4,f 33 32 0,l 34 33,m 35 4,a 36 34 35 1,l 37 36,n 38 37,z 39 .add 31 38,m 3 39])) (t 4 29 30))
def FJ:=S (g [1,2] [b 1 0,Z 2]) (S (S VR (I 22 (F [2] [Z 2]) W)) (S (g [3] [K 3 0]) (S (S (g [4] [K 4 0]) (T 0 (M FT))) (F [2] [m 40 3,i 41 .leq 40 120,m 2 41]))))
def f10:=h 42 1 [0,1,2,3,4,22,28] [.tmp 2] FJ
def φ:=S (g [1,2] [b 1 0,K 2 0]) (S (S (g [3] [f 7 1 0,L 8 7 4,c 9 40 8,m 3 9]) (A [11] [m 10 3,i 11 .neq 10 0] 11 (F [2] [m 12 3,m 2 12]) W)) (S (S (g [4] [f 13 1 4,L 14 13 2,c 15 41 14,m 4 15]) (A [17] [m 16 4,i 17 .neq 16 0] 17 (F [2] [m 18 4,m 2 18]) W)) (S (S (g [6] [f 20 1 0,L 21 20 4,f 22 1 4,L 23 22 2,C 24 42 21 23,m 19 24,x 25 19 0,x 26 19 1,m 5 25,m 6 26]) (A [28] [m 27 6,N 28 27] 28 (F [2] [K 2 13]) W)) (F [2] [K 2 0]))))
def f66:=h 29 1 [0,1,2,3,4,6,11,17,28] [.tmp 2] φ
def b61:=S (g [2,4,5] [b 2 0,K 4 0,K 5 0]) (S (g [7,8] [L 10 2 4,m 11 1,C 12 36 10 11,m 9 12,x 13 9 0,x 14 9 1,x 15 9 2,m 6 13,m 7 14,m 8 15]) (F [4,5] [m 16 7,m 17 8,m 4 16,m 5 17]))
def f61:=h 18 2 [0,1,2,4,5,7,8] [.tmp 4,.tmp 5] b61
@[simp]def LC:=g [4] [m 9 5,i 10 .geq 9 0,m 11 10,fT 12 2 1 11,lT 13 12 11,mT 14 5 11,aT 15 13 14 1 11,lT 16 15 11,y 17 11 16,m 4 17]
def Jl:=S (g [2,4] [b 2 0,Z 4]) (S (g [5] [L 6 2 2,m 7 1,C 8 43 6 7,m 5 8]) (S LC R))
def VS:=h 18 2 [0,1,2,4,5] [.tmp 4] Jl
def CG:=S (A [14] [m 11 5,m 12 0,n 13 12,z 14 .lss 11 13] 14 W (X 0)) (S (T 1 (S (d [25] [r 0 (m 17 0),r 1 (m 18 5),r 2 (a 19 17 18 4),w 3 (L 20 19 4) 0 0,r 4 (m 21 1),r 5 (m 22 5),r 6 (a 23 21 22 4),w 7 (L 24 23 4) 0 0] [o 25 (.eqs ⟨true,[0,0,0,0]⟩ true (.t 20) (.t 24))]) (I 25 (F [4] [Z 4]) W))) (t 5 15 16))
def b23:=S (g [4] [Z 4]) (S (A [10] [m 6 0,n 7 6,m 8 1,n 9 8,z 10 .neq 7 9] 10 (F [4] [Z 4]) W) (S (S (g [5] [K 5 0]) (T 0 (M CG))) (F [4] [O 4])))
def f23:=h 26 2 [0,1,4,5,10,14,25] [.tmp 4] b23
def b68:=S (g [2,4,5] [b 2 0,o 4 (.alloc [.ah,.ah]),K 5 0]) (S (g [6] [L 7 2 6,c 8 54 7,m 6 8]) (S (A [10] [m 9 6,i 10 .eql 9 0] 10 (g [6] [f 12 2 0,L 13 12 4,m 14 1,C 15 53 13 14,m 11 15,x 16 11 0,x 17 11 1,m 6 17]) W) (F [5] [f 18 2 4,L 19 18 2,o 20 (.build [.x (.t 19) 2]),m 21 6,s 2 4 20,m 5 21])))
def f68:=h 22 2 [0,1,2,4,5,6,10] [.cell 4 (some 2),.tmp 5] b68
def b46:=S (g [0] [o 0 (.alloc [.int .i64 0,.bool false])]) (F [] [o 1 (.build [.x (.k (.int .i64 (-1))) 1,.z [.bool false]]),s 2 0 1])
def f46:=h 2 0 [0] [.cell 0 (some 2)] b46
def CH:=S (g [11] [z 11 .lss 10 9]) (S (I 11 W (X 0)) (S (T 1 (S (g [7,6] [m 12 10,a 13 8 10 4,L 14 13 4,o 7 (.alloc [.int .i64 0,.int .i64 0,.int .u8 0,.int .i64 0]),m 6 12,s 4 7 14]) (S (g [4] [L 15 2 2,m 16 4,L 17 7 4,J 18 55 15 16 17,m 4 18]) (A [20] [m 19 4,i 20 .eql 19 (-1)] 20 (F [4,5] [m 21 6,K 4 (-1),m 5 21]) W)))) (g [10] [i 22 .add 10 1,m 10 22])))
def b48:=S (g [2,4,5] [b 2 0,K 4 0,K 5 0]) (S (S (g [8,9,10] [m 8 1,n 9 8,K 10 0]) (T 0 (M CH))) (F [4,5] [m 23 4,m 24 1,n 25 24,m 4 23,m 5 25]))
def f48:=h 26 2 [0,1,2,4,5,6,7,8,9,10,11,20] [.tmp 4,.tmp 5] b48
@[simp]def VT:=g [2] [f 3 1 2,l 4 3,o 5 (.bin false .eql (.t 4) (.k (.int .u8 3))),f 6 1 0,l 7 6,i 8 .gtr 7 0,m 9 8,fT 10 1 1 9,lT 11 10 9,iT 12 .eql 11 0 9,y 13 9 12,o 14 (.bin true .eql (.t 5) (.t 13)),m 2 14]
def b50:=S (g [1,2] [b 1 0,Z 2]) (S VT R)
def f50:=h 15 1 [0,1,2] [.tmp 2] b50
def FU:=S (A [14] [m 10 4,f 11 1 0,l 12 11,n 13 12,z 14 .lss 10 13] 14 W (X 0)) (S (T 1 (d [] [r 2 (f 19 1 0),w 3 (l 20 19) 0 0,r 4 (m 21 4),r 5 (a 22 20 21 3),w 6 (L 23 22 3) 0 0,u 7 (c 24 56 23),r 0 (f 17 3 0),w 1 (l 18 17) 0 1,r 8 (q 25 3 24)] [p 26 3 3518437208883 18 25,f 27 3 0,s 1 27 26])) (t 4 15 16))
def χ:=S (g [1,2] [b 1 0,o 2 (.alloc [.ah,.bool false,.int .i64 0,.bool false])]) (S (g [3] [f 5 1 1,L 6 5 2,f 7 1 3,l 8 7,o 9 (.build [.z [.ah],.x (.t 6) 2,.x (.t 8) 1]),o 3 (.alloc [.ah,.bool false,.int .i64 0,.bool false]),s 4 3 9]) (S (S (g [4] [K 4 0]) (T 0 (M FU))) (F [] [L 28 3 4,s 4 2 28])))
def f18:=h 29 1 [0,1,2,3,4,14] [.cell 2 (some 4)] χ
def CI:=S (A [14] [m 10 4,f 11 1 0,l 12 11,n 13 12,z 14 .lss 10 13] 14 W (X 0)) (S (T 1 (d [] [v 2 (o 19 (.bsl 5 [])),r 3 (f 20 1 0),w 4 (l 21 20) 0 1,r 5 (m 22 4),r 6 (a 23 21 22 1),w 7 (l 24 23) 0 1,u 8 (p 25 5 3518437208883 19 24),r 0 (f 17 3 0),w 1 (l 18 17) 0 2,r 9 (q 26 1 25)] [p 27 1 5864062014805 18 26,f 28 3 0,s 1 28 27])) (t 4 15 16))
def b69:=S (g [1,2] [b 1 0,o 2 (.alloc [.ah,.ah])]) (S (g [3] [o 5 (.bsl 1 []),f 6 1 1,l 7 6,p 8 1 140737488355328 5 7,o 9 (.build [.z [.ah],.x (.t 8) 1]),o 3 (.alloc [.ah,.ah]),s 2 3 9]) (S (S (g [4] [K 4 0]) (T 0 (M CI))) (F [] [L 29 3 2,s 2 2 29])))
def f69:=h 30 1 [0,1,2,3,4,14] [.cell 2 (some 2)] b69
@[simp]def LD:=g [2] [f 3 1 0,f 4 3 1,l 5 4,n 6 5,i 7 .gtr 6 1,m 8 7,fF 9 1 0 8,fF 10 9 1 8,lF 11 10 8,G 12 (.ia (.t 11) (.k (.int .i64 0)) 1) 8 false,lF 13 12 8,Y 14 8 13,m 2 14]
def Jm:=S (g [1,2] [b 1 0,Z 2]) (S LD R)
def VU:=h 15 1 [0,1,2] [.tmp 2] Jm
def uN:=S (g [15] [z 15 .lss 14 13]) (S (I 15 W (X 0)) (S (T 1 (S (g [6] [a 16 12 14 5,L 17 16 5,o 6 (.alloc [.int .i64 0,.int .i64 0,.int .u8 0,.int .i64 0,.int .i64 0]),s 5 6 17]) (g [4] [m 18 4,f 19 6 0,L 20 19 4,q 21 4 20,p 22 4 4398046511104 18 21,m 4 22]))) (g [14] [i 23 .add 14 1,m 14 23])))
def FV:=S (g [2,4] [b 2 0,Q 4]) (S (S (g [12,13,14] [f 7 2 0,f 8 7 0,l 9 8,m 10 1,a 11 9 10 1,l 12 11,n 13 12,K 14 0]) (T 0 (M uN))) (F [4] [m 24 4,m 4 24]))
def VV:=h0 25 2 [0,1,2,4,6,12,13,14,15] [.tmp 4] FV
@[simp]def VW:=g [2] [f 3 1 2,l 4 3,o 5 (.bin false .eql (.t 4) (.k (.int .u8 1))),m 6 5,fF 7 1 2 6,lF 8 7 6,G 9 (.bin false .eql (.t 8) (.k (.int .u8 2))) 6 false,Y 10 6 9,m 2 10]
def b75:=S (g [1,2] [b 1 0,Z 2]) (S VW R)
def f75:=h 11 1 [0,1,2] [.tmp 2] b75
def VX:=S (g [2,4,5,6] [b 2 0,V 4,K 5 0,K 6 0]) (S (S (g [7] [L 10 2 4,c 11 40 10,m 7 11]) (A [13] [m 12 7,i 13 .neq 12 0] 13 (F [4,5,6] [m 14 7,V 4,K 5 0,m 6 14]) W)) (S (A [17] [m 15 1,n 16 15,i 17 .gtr 16 400] 17 (F [4,5,6] [V 4,K 5 0,K 6 5]) W) (S (g [8,9] [L 19 2 4,m 20 1,C 21 57 19 20,m 18 21,x 22 18 0,x 23 18 1,m 8 22,m 9 23]) (S (A [27] [m 24 9,m 25 1,n 26 25,z 27 .lss 24 26] 27 (F [4,5,6] [m 28 9,V 4,m 5 28,K 6 13]) W) (F [4,5,6] [m 29 8,m 4 29,K 5 0,K 6 0])))))
def f63:=h 30 2 [0,1,2,4,5,6,7,8,9,13,17,27] [.tmp 4,.tmp 5,.tmp 6] VX
@[simp]def VY:=g [20] [f 21 3 0,l 22 21,i 23 .gtr 22 0,m 24 23,fT 25 3 1 24,lT 26 25 24,iT 27 .eql 26 0 24,y 28 24 27,m 20 28]
def PJ:=S (g [2] [o 2 (.mv (.k (.int .u8 0)))]) (S (g [3,4] [m 6 0,c 7 58 6,m 5 7,x 8 5 0,x 9 5 1,o 3 (.alloc [.int .i64 0,.int .i64 0,.int .u8 0,.int .i64 0]),s 4 3 8,m 4 9]) (S (T 0 (A [10] [m 11 0,k 12 11,f 13 12 4,l 14 13,n 15 14,i 16 .eql 15 0,m 10 16] 10 (F [2] [o 2 (.mv (.k (.int .u8 1)))]) (A [17] [m 18 4,N 19 18,m 17 19] 17 (F [2] [o 2 (.mv (.k (.int .u8 3)))]) (S VY (I 20 (F [2] [o 2 (.mv (.k (.int .u8 1)))]) W))))) (F [2] [o 2 (.mv (.k (.int .u8 2)))])))
def f64:=h 29 1 [0,2,3,4,10,17,20] [.tmp 2] PJ
@[simp]def VZ:=g [2] [m 9 3,i 10 .gtr 9 0,m 11 10,mT 12 0 11,G 13 (.nck (.t 12)) 11 true,fT 14 13 4 11,lT 15 14 11,mT 16 3 11,iT 17 .sub 16 1 11,aT 18 15 17 4 11,LT 19 18 4 11,cT 20 59 19 11,y 21 11 20,m 22 21,mT 23 0 22,G 24 (.nck (.t 23)) 22 true,fT 25 24 4 22,lT 26 25 22,mT 27 3 22,iT 28 .sub 27 1 22,aT 29 26 28 4 22,fT 30 29 1 22,lT 31 30 22,iT 32 .gtr 31 0 22,y 33 22 32,m 2 33]
def b65:=S (g [2] [Z 2]) (S (g [3] [m 4 0,k 5 4,f 6 5 4,l 7 6,n 8 7,m 3 8]) (S VZ R))
def f65:=h 34 1 [0,2,3] [.tmp 2] b65
@[simp]def aa5:=g [22] [f 7 1 1,f 8 7 1,l 9 8,i 10 .gtr 9 8,m 11 10,fT 12 1 1 11,fT 13 12 1 11,lT 14 13 11,iT 15 .leq 14 64 11,y 16 11 15,m 17 16,fF 18 1 0 17,lF 19 18 17,nF 20 19 17,iF 21 .gtr 20 9 17,Y 22 17 21]
@[simp]def aa6:=g [52] [m 37 4,i 38 .gtr 37 8,m 39 38,mT 40 4 39,iT 41 .leq 40 64 39,y 42 39 41,m 43 42,fF 44 1 0 43,lF 45 44 43,mF 46 3 43,aF 47 45 46 3 43,fF 48 47 0 43,lF 49 48 43,nF 50 49 43,iF 51 .gtr 50 6 43,Y 52 43 51]
@[simp]def aa7:=g [79] [m 74 6,i 75 .gtr 74 8,m 76 75,mT 77 6 76,iT 78 .leq 77 64 76,y 79 76 78]
def AJ:=S (A [61] [m 53 5,f 54 1 0,l 55 54,m 56 3,a 57 55 56 3,f 58 57 0,l 59 58,n 60 59,z 61 .lss 53 60] 61 W (X 2)) (S (T 3 (S (g [6] [f 64 1 0,l 65 64,m 66 3,a 67 65 66 3,f 68 67 0,l 69 68,m 70 5,a 71 69 70 2,f 72 71 1,l 73 72,m 6 73]) (S aa7 (I 79 (F [2] [Z 2]) W)))) (t 5 62 63))
def yR:=S (A [27] [m 23 3,f 24 1 0,l 25 24,n 26 25,z 27 .lss 23 26] 27 W (X 0)) (S (T 1 (S (S (g [4] [f 30 1 0,l 31 30,m 32 3,a 33 31 32 3,f 34 33 1,f 35 34 1,l 36 35,m 4 36]) (S aa6 (I 52 (F [2] [Z 2]) W))) (S (g [5] [K 5 0]) (T 2 (M AJ))))) (t 3 28 29))
def b9:=S (g [1,2] [b 1 0,Z 2]) (S (S aa5 (I 22 (F [2] [Z 2]) W)) (S (S (g [3] [K 3 0]) (T 0 (M yR))) (F [2] [O 2])))
def f9:=h 80 1 [0,1,2,3,4,5,6,22,27,52,61,79] [.tmp 2] b9
def CJ:=S (A [13] [m 9 3,f 10 1 0,l 11 10,n 12 11,z 13 .lss 9 12] 13 W (X 0)) (S (T 1 (A [23] [f 16 1 0,l 17 16,m 18 3,a 19 17 18 3,f 20 19 0,l 21 20,n 22 21,i 23 .gtr 22 5] 23 (F [2] [K 2 5]) W)) (t 3 14 15))
def CK:=S (A [28] [m 24 4,f 25 1 0,l 26 25,n 27 26,z 28 .lss 24 27] 28 W (X 2)) (S (T 3 (A [37] [f 31 1 0,l 32 31,m 33 4,a 34 32 33 3,L 35 34 3,c 36 60 35,N 37 36] 37 (F [2] [K 2 4]) W)) (t 4 29 30))
def b24:=S (g [1,2] [b 1 0,K 2 0]) (S (A [8] [f 5 1 0,l 6 5,n 7 6,i 8 .gtr 7 8] 8 (F [2] [K 2 5]) W) (S (S (g [3] [K 3 0]) (T 0 (M CJ))) (S (S (g [4] [K 4 0]) (T 2 (M CK))) (S (A [41] [f 38 1 1,L 39 38 2,c 40 61 39,N 41 40] 41 (F [2] [K 2 4]) W) (F [2] [K 2 0])))))
def f24:=h 42 1 [0,1,2,3,4,8,13,23,28,37,41] [.tmp 2] b24
def V0:=S (g [1,2] [b 1 0,K 2 0]) (S (A [4] [L 3 1 2,c 4 62 3] 4 (F [2] [K 2 5]) W) (S (S (d [19] [w 0 (L 5 1 2) 0 0,u 1 (c 6 63 5),r 2 (N 7 6),r 3 (m 8 7),w 4 (LF 9 1 2 8) 1 1,u 5 (cF 10 64 9 8),r 6 (NF 11 10 8),r 7 (Y 12 8 11),r 8 (m 13 12),w 9 (LF 14 1 2 13) 2 2,u 10 (cF 15 66 14 13),w 11 (LF 16 1 2 13) 2 3] [CF 17 65 15 16 13,NF 18 17 13,Y 19 13 18]) (I 19 (F [2] [K 2 4]) W)) (F [2] [K 2 0])))
def f76:=h 20 1 [0,1,2,4,19] [.tmp 2] V0
def zy:=S (A [128] [m 125 15,m 126 8,n 127 126,z 128 .lss 125 127] 128 W (X 4)) (S (T 5 (d [14] [r 0 (m 131 14),r 1 (m 132 131),r 2 (mF 133 8 132),r 3 (mF 134 15 132),r 4 (aF 135 133 134 5 132),w 5 (LF 136 135 5 132) 0 0,w 6 (LF 137 13 5 132) 0 0] [CF 138 71 136 137 132,Y 139 132 138,m 14 139])) (t 15 129 130))
def zz:=S (A [98] [m 90 11,f 91 3 0,l 92 91,f 93 10 0,l 94 93,a 95 92 94 1,l 96 95,n 97 96,z 98 .lss 90 97] 98 W (X 2)) (S (T 3 (S (g [12] [f 101 3 0,l 102 101,f 103 10 0,l 104 103,a 105 102 104 1,l 106 105,m 107 11,a 108 106 107 5,L 109 108 5,o 12 (.alloc [.int .i64 0,.int .i64 0,.int .u8 0,.int .i64 0,.int .i64 0]),s 5 12 109]) (S (A [116] [f 110 10 1,L 111 110 4,L 112 2 4,f 113 12 0,L 114 113 4,J 115 69 111 112 114,N 116 115] 116 (F [4,5] [Q 4,Z 5]) W) (S (d [13] [r 2 (f 119 10 1),w 3 (L 120 119 4) 0 0,r 4 (f 121 12 0),w 5 (L 122 121 4) 0 0,u 6 (C 123 70 120 122),r 0 (f 117 12 4),w 1 (l 118 117) 0 2,r 7 (o 124 (.build [.x (.t 118) 1,.x (.t 123) 4])),v 8 (o 13 (.alloc [.int .i64 0,.ah,.bool false,.bool false,.bool false]))] [s 5 13 124]) (S (g [14] [Z 14]) (S (S (g [15] [K 15 0]) (T 4 (M zy))) (A [141] [m 140 14,N 141 140] 141 (g [8] [m 142 8,L 143 13 5,q 144 5 143,p 145 5 3518437208883 142 144,m 8 145]) W))))))) (t 11 99 100))
def lB:=S (A [29] [m 26 9,m 27 8,n 28 27,z 29 .lss 26 28] 29 W (X 0)) (S (T 1 (S (g [10] [m 32 8,m 33 9,a 34 32 33 5,L 35 34 5,o 10 (.alloc [.int .i64 0,.ah,.bool false,.bool false,.bool false]),s 5 10 35]) (S (S (d [78] [r 0 (m 36 7),r 1 (f 37 10 0),w 2 (l 38 37) 0 0,r 3 (a 39 36 38 1),w 4 (l 40 39) 0 0,r 5 (m 41 40),r 6 (mT 42 6 41),r 7 (fT 43 10 0 41),w 8 (lT 44 43 41) 0 0,r 9 (aT 45 42 44 1 41),w 10 (lT 46 45 41) 0 0,r 11 (fT 47 10 1 41),r 12 (fT 48 47 0 41),w 13 (lT 49 48 41) 0 0,u 14 (CT 50 67 46 49 41),r 15 (NT 51 50 41),r 16 (y 52 41 51),r 17 (m 53 52),r 24 (fF 60 10 1 53),w 25 (LF 61 60 4 53) 1 1,u 26 (cF 62 68 61 53),r 18 (fF 54 3 1 53),w 19 (lF 55 54 53) 1 2,r 20 (fF 56 10 0 53),w 21 (lF 57 56 53) 1 2,r 22 (aF 58 55 57 1 53),w 23 (lF 59 58 53) 1 2] [G 63 (.bin true .neq (.t 59) (.t 62)) 53 false,mF 64 63 53,fT 65 3 0 64,lT 66 65 64,nT 67 66 64,iT 68 .eql 67 1 64,mT 69 68 64,fT 70 3 1 69,lT 71 70 69,G 72 (.ia (.t 71) (.k (.int .i64 0)) 1) 69 true,lT 73 72 69,NT 74 73 69,yT 75 69 74 64,NT 76 75 64,yF 77 64 76 53,Y 78 53 77]) (I 78 (F [4,5] [Q 4,Z 5]) W)) (S (d [] [r 0 (m 79 6),r 1 (f 80 10 0),w 2 (l 81 80) 0 0,r 6 (f 85 10 1),r 7 (f 86 85 0),w 8 (l 87 86) 0 0,r 9 (a 88 79 81 1),u 10 (s 1 88 87),r 3 (m 82 7),r 4 (f 83 10 0),w 5 (l 84 83) 0 1] [a 89 82 84 1,e (.st 1 (.t 89) (.k (.bool true)))]) (S (g [11] [K 11 0]) (T 2 (M zz))))))) (t 9 30 31))
def b96:=S (g [2,3,4,5] [b 2 0,b 3 1,Q 4,Z 5]) (S (g [6] [f 16 3 0,l 17 16,n 18 17,o 19 (.mks 1 5864062014805 [.ah] (.t 18) (.t 18)),m 6 19]) (S (g [7] [f 20 3 0,l 21 20,n 22 21,o 23 (.mks 1 140737488355328 [.bool false] (.t 22) (.t 22)),m 7 23]) (S (g [8] [o 24 (.build [.z [.int .i64 0],.z [.ah,.bool false,.bool false,.bool false]]),o 25 (.bsl 5 [.t 24]),m 8 25]) (S (S (g [9] [K 9 0]) (T 0 (M lB))) (F [4,5] [m 146 6,m 4 146,O 5])))))
def f96:=h 147 2 [0,1,2,3,4,5,6,7,8,9,10,11,12,13,14,15,29,78,98,116,128,141] [.tmp 4,.tmp 5] b96
@[simp]def V1:=g [14] [m 7 6,m 8 1,n 9 8,z 10 .lss 7 9,m 11 10,mT 12 5 11,iT 13 .geq 12 0 11,y 14 11 13]
def CL:=S (S V1 (I 14 W (X 0))) (S (T 1 (d [5] [w 0 (L 17 2 2) 0 0,r 1 (m 18 5),r 2 (m 19 1),r 3 (m 20 6),r 4 (a 21 19 20 4),w 5 (L 22 21 4) 0 0] [J 23 72 17 18 22,m 5 23])) (t 6 15 16))
def b74:=S (g [2,4] [b 2 0,K 4 0]) (S (g [5] [K 5 0]) (S (S (g [6] [K 6 0]) (T 0 (M CL))) (F [4] [m 24 5,m 4 24])))
def f74:=h 25 2 [0,1,2,4,5,6,14] [.tmp 4] b74
@[simp]def V2:=g [6] [m 7 0,m 8 1,z 9 .geq 7 8,m 10 9,mT 11 0 10,mT 12 2 10,zT 13 .leq 11 12 10,y 14 10 13,m 6 14]
def b62:=S (g [6] [Z 6]) (S V2 R)
def f62:=h 15 3 [0,1,2,6] [.tmp 6] b62
def V3:=S (g [2,4,5] [b 2 0,K 4 0,K 5 0]) (S (g [6,5] [L 8 2 4,m 9 1,C 10 88 8 9,m 7 10,x 11 7 0,x 12 7 1,m 6 11,m 5 12]) (S (T 0 (A [13] [m 14 5,i 15 .neq 14 0,m 13 15] 13 (F [4,5] [m 16 5,K 4 0,m 5 16]) (A [17] [m 18 6,k 19 18,f 20 19 4,l 21 20,n 22 21,m 23 1,n 24 23,z 25 .lss 22 24,m 17 25] 17 (F [4,5] [m 26 6,k 27 26,f 28 27 4,l 29 28,n 30 29,m 4 30,K 5 13]) W))) (F [4,5] [K 4 0,K 5 0])))
def f45:=h 31 2 [0,1,2,4,5,6,13,17] [.tmp 4,.tmp 5] V3
def b84:=S (g [1,2] [b 1 0,K 2 0]) (S (g [4] [L 6 1 6,c 7 89 6,m 5 7,x 8 5 0,x 9 5 1,m 3 8,m 4 9]) (F [2] [m 10 4,m 2 10]))
def f84:=h 11 1 [0,1,2,4] [.tmp 2] b84
def CM:=S (g [17] [z 17 .lss 16 15]) (S (I 17 W (X 0)) (S (T 1 (S (g [8] [a 18 14 16 5,L 19 18 5,o 8 (.alloc [.int .i64 0,.int .i64 0,.int .u8 0,.int .i64 0,.int .i64 0]),s 5 8 19]) (A [23] [f 20 8 0,L 21 20 4,L 22 5 4,o 23 (.eqs ⟨true,[0,0,0,0]⟩ false (.t 21) (.t 22))] 23 (F [6] [f 24 8 4,l 25 24,m 6 25]) W))) (g [16] [i 26 .add 16 1,m 16 26])))
def b90:=S (g [3,5,6] [b 3 0,b 5 2,K 6 0]) (S (S (g [14,15,16] [f 9 3 0,f 10 9 0,l 11 10,m 12 1,a 13 11 12 1,l 14 13,n 15 14,K 16 0]) (T 0 (M CM))) (F [6] [K 6 (-1)]))
def f90:=h 27 3 [0,1,2,3,5,6,8,14,15,16,17,23] [.tmp 6] b90
def b57:=S (g [1,2] [b 1 0,o 2 (.alloc [.ah,.bool false,.int .i64 0])]) (S (d [] [v 0 (o 3 (.bsl 2 [])),r 1 (f 4 1 0),w 2 (l 5 4) 0 1,u 3 (p 6 2 8796093022208 3 5),r 4 (f 7 1 1),w 5 (L 8 7 2) 0 2] [o 9 (.build [.x (.t 6) 1,.x (.t 8) 2]),s 3 2 9]) R)
def f57:=h 10 1 [0,1,2] [.cell 2 (some 3)] b57
def CN:=S (A [14] [m 11 7,m 12 1,n 13 12,z 14 .lss 11 13] 14 W (X 0)) (S (T 1 (S (A [23] [m 17 6,m 18 1,m 19 7,a 20 18 19 4,L 21 20 4,C 22 90 17 21,N 23 22] 23 (F [4,5] [m 24 6,m 25 7,m 4 24,m 5 25]) W) (g [] [m 26 6,m 27 1,m 28 7,a 29 27 28 4,L 30 29 4,C 31 91 26 30]))) (t 7 15 16))
def b94:=S (g [2,4,5] [b 2 0,V 4,K 5 0]) (S (g [6] [L 8 2 4,o 9 (.build [.x (.t 8) 4,.z [.ah],.z [.ah],.z [.ah],.z [.ah],.z [.bool false],.z [.int .i64 0]]),o 10 (.box (.t 9)),m 6 10]) (S (S (g [7] [K 7 0]) (T 0 (M CN))) (F [4,5] [m 32 6,m 33 1,n 34 33,m 4 32,m 5 34])))
def f94:=h 35 2 [0,1,2,4,5,6,7,14,23] [.tmp 4,.tmp 5] b94
def b95:=S (g [2,3] [o 2 (.alloc [.int .i64 0,.int .i64 0,.int .u8 0,.int .i64 0]),Z 3]) (S (A [9] [m 4 0,k 5 4,f 6 5 5,l 7 6,n 8 7,i 9 .eql 8 0] 9 (F [3] [o 10 (.build [.z [.int .i64 0],.z [.int .i64 0],.z [.int .u8 0],.z [.int .i64 0]]),s 4 2 10,Z 3]) W) (S (d [3] [r 0 (m 11 0),r 1 (k 12 11),r 2 (f 13 12 4),w 3 (l 14 13) 0 0,r 4 (m 15 0),r 5 (k 16 15),r 6 (f 17 16 5),w 7 (l 18 17) 0 0,r 8 (m 19 0),r 9 (k 20 19),r 10 (f 21 20 5),w 11 (l 22 21) 0 0,w 12 (n 23 22) 0 0,r 13 (i 24 .sub 23 1),r 14 (a 25 18 24 1),w 15 (l 26 25) 0 0] [a 27 14 26 4,L 28 27 4,s 4 2 28,O 3]) R))
def f95:=h 29 1 [0,2,3,9] [.cell 2 (some 4),.tmp 3] b95
@[simp]def V4:=g [2] [f 3 1 2,l 4 3,o 5 (.bin false .eql (.t 4) (.k (.int .u8 3))),m 6 5,fT 7 1 3 6,lT 8 7 6,iT 9 .eql 8 (-1) 6,y 10 6 9,m 2 10]
def b28:=S (g [1,2] [b 1 0,Z 2]) (S V4 R)
def f28:=h 11 1 [0,1,2] [.tmp 2] b28
def CO:=S (A [8] [m 4 3,f 5 1 0,l 6 5,n 7 6,z 8 .lss 4 7] 8 W (X 0)) (S (T 1 (A [17] [f 11 1 0,l 12 11,m 13 3,a 14 12 13 2,L 15 14 2,c 16 61 15,N 17 16] 17 (F [2] [Z 2]) W)) (t 3 9 10))
@[simp]def V5:=g [2] [f 18 1 1,L 19 18 2,c 20 61 19,m 21 20,fT 22 1 0 21,lT 23 22 21,nT 24 23 21,iT 25 .eql 24 0 21,mT 26 25 21,fF 27 1 1 26,fF 28 27 0 26,lF 29 28 26,NF 30 29 26,YT 31 26 30 21,y 32 21 31,m 2 32]
def b59:=S (g [1,2] [b 1 0,Z 2]) (S (S (g [3] [K 3 0]) (T 0 (M CO))) (S V5 R))
def f59:=h 33 1 [0,1,2,3,8,17] [.tmp 2] b59
def b60:=S (g [1,2] [b 1 0,Z 2]) (F [2] [f 3 1 1,l 4 3,o 5 (.call 51 [.t 4,.k (.int .i64 1),.k (.int .i64 64)]),m 2 5])
def f60:=h 6 1 [0,1,2] [.tmp 2] b60
@[simp]def PK:=g [2] [f 3 1 0,l 4 3,n 5 4,i 6 .gtr 5 400,m 7 6,fF 8 1 1 7,lF 9 8 7,nF 10 9 7,iF 11 .gtr 10 400 7,Y 12 7 11,m 13 12,fF 14 1 0 13,lF 15 14 13,cF 16 92 15 13,iF 17 .gtr 16 6000 13,Y 18 13 17,m 2 18]
def V6:=S (g [1,2] [b 1 0,Z 2]) (S PK R)
def f104:=h 19 1 [0,1,2] [.tmp 2] V6
@[simp]def PL:=g [17] [f 5 1 0,l 6 5,n 7 6,i 8 .eql 7 0,m 9 8,fF 10 1 0 9,lF 11 10 9,nF 12 11 9,fF 13 1 1 9,lF 14 13 9,nF 15 14 9,zF 16 .neq 12 15 9,Y 17 9 16]
def wo:=S (A [32] [m 25 4,f 26 1 0,l 27 26,m 28 3,a 29 27 28 1,l 30 29,n 31 30,z 32 .lss 25 31] 32 W (X 2)) (S (T 3 (S (d [49] [r 0 (f 35 1 0),w 1 (l 36 35) 0 0,r 2 (m 37 3),r 3 (a 38 36 37 1),w 4 (l 39 38) 0 0,r 5 (m 40 4),r 6 (a 41 39 40 5),r 7 (f 42 41 4),w 8 (l 43 42) 0 0,r 9 (f 44 1 0),w 10 (l 45 44) 0 0,w 11 (n 46 45) 0 0,r 12 (i 47 .sub 46 1)] [o 48 (.call 51 [.t 43,.k (.int .i64 0),.t 47]),N 49 48]) (I 49 (F [2] [Z 2]) W))) (t 4 33 34))
def AK:=S (A [22] [m 18 3,f 19 1 0,l 20 19,n 21 20,z 22 .lss 18 21] 22 W (X 0)) (S (T 1 (S (g [4] [K 4 0]) (T 2 (M wo)))) (t 3 23 24))
def LG:=S (g [1,2] [b 1 0,Z 2]) (S (S PL (I 17 (F [2] [Z 2]) W)) (S (S (g [3] [K 3 0]) (T 0 (M AK))) (F [2] [O 2])))
def f105:=h 50 1 [0,1,2,3,4,17,22,32,49] [.tmp 2] LG
def wq:=S (A [19] [m 12 4,f 13 1 0,l 14 13,m 15 3,a 16 14 15 1,l 17 16,n 18 17,z 19 .lss 12 18] 19 W (X 2)) (S (T 3 (S (d [42] [r 0 (f 22 1 0),w 1 (l 23 22) 0 0,r 2 (m 24 3),r 3 (a 25 23 24 1),w 4 (l 26 25) 0 0,r 5 (m 27 4),r 6 (i 28 .sub 27 1),r 7 (a 29 26 28 5),r 8 (f 30 29 0),w 9 (L 31 30 4) 0 0,r 10 (f 32 1 0),w 11 (l 33 32) 0 0,r 12 (m 34 3),r 13 (a 35 33 34 1),w 14 (l 36 35) 0 0,r 15 (m 37 4),r 16 (a 38 36 37 5),r 17 (f 39 38 0),w 18 (L 40 39 4) 0 0] [C 41 93 31 40,N 42 41]) (I 42 (F [2] [Z 2]) W))) (t 4 20 21))
def AL:=S (A [9] [m 5 3,f 6 1 0,l 7 6,n 8 7,z 9 .lss 5 8] 9 W (X 0)) (S (T 1 (S (g [4] [K 4 1]) (T 2 (M wq)))) (t 3 10 11))
def V7:=S (g [1,2] [b 1 0,Z 2]) (S (S (g [3] [K 3 0]) (T 0 (M AL))) (F [2] [O 2]))
def aa8:=h 43 1 [0,1,2,3,4,9,19,42] [.tmp 2] V7
@[simp]def PM:=g [23] [f 8 2 0,l 9 8,n 10 9,f 11 3 0,l 12 11,n 13 12,z 14 .neq 10 13,m 15 14,fF 16 2 1 15,lF 17 16 15,nF 18 17 15,fF 19 3 1 15,lF 20 19 15,nF 21 20 15,zF 22 .neq 18 21 15,Y 23 15 22]
def wu:=S (A [28] [m 24 5,f 25 2 1,l 26 25,n 27 26,z 28 .lss 24 27] 28 W (X 0)) (S (T 1 (S (d [41] [r 0 (f 31 2 1),w 1 (l 32 31) 0 0,r 2 (m 33 5),r 3 (a 34 32 33 1),w 4 (l 35 34) 0 0,r 5 (f 36 3 1),w 6 (l 37 36) 0 0,r 7 (m 38 5),r 8 (a 39 37 38 1),w 9 (l 40 39) 0 0] [o 41 (.bin true .neq (.t 35) (.t 40))]) (I 41 (F [4] [Z 4]) W))) (t 5 29 30))
def wv:=S (A [69] [m 62 7,f 63 2 0,l 64 63,m 65 6,a 66 64 65 1,l 67 66,n 68 67,z 69 .lss 62 68] 69 W (X 4)) (S (T 5 (S (d [88] [r 0 (f 72 2 0),w 1 (l 73 72) 0 0,r 2 (m 74 6),r 3 (a 75 73 74 1),w 4 (l 76 75) 0 0,r 5 (m 77 7),r 6 (a 78 76 77 5),w 7 (L 79 78 5) 0 0,r 8 (f 80 3 0),w 9 (l 81 80) 0 0,r 10 (m 82 6),r 11 (a 83 81 82 1),w 12 (l 84 83) 0 0,r 13 (m 85 7),r 14 (a 86 84 85 5),w 15 (L 87 86 5) 0 0] [o 88 (.eqs ⟨true,[0,0,0,0,0]⟩ true (.t 79) (.t 87))]) (I 88 (F [4] [Z 4]) W))) (t 7 70 71))
def wx:=S (A [46] [m 42 6,f 43 2 0,l 44 43,n 45 44,z 46 .lss 42 45] 46 W (X 2)) (S (T 3 (S (S (d [61] [r 0 (f 49 2 0),w 1 (l 50 49) 0 0,r 2 (m 51 6),r 3 (a 52 50 51 1),w 4 (l 53 52) 0 0,w 5 (n 54 53) 0 0,r 6 (f 55 3 0),w 7 (l 56 55) 0 0,r 8 (m 57 6),r 9 (a 58 56 57 1),w 10 (l 59 58) 0 0,w 11 (n 60 59) 0 0] [z 61 .neq 54 60]) (I 61 (F [4] [Z 4]) W)) (S (g [7] [K 7 0]) (T 4 (M wv))))) (t 6 47 48))
def LH:=S (g [2,3,4] [b 2 0,b 3 1,Z 4]) (S (S PM (I 23 (F [4] [Z 4]) W)) (S (S (g [5] [K 5 0]) (T 0 (M wu))) (S (S (g [6] [K 6 0]) (T 2 (M wx))) (F [4] [O 4]))))
def aa9:=h 89 2 [0,1,2,3,4,5,6,7,23,28,41,46,61,69,88] [.tmp 4] LH
def qA:=S (S (d [61] [r 0 (m 51 12),r 1 (f 52 1 0),w 2 (l 53 52) 0 0,r 3 (m 54 6),r 4 (m 55 7),r 5 (a 56 54 55 1),w 6 (l 57 56) 0 0,r 7 (a 58 53 57 1),w 8 (l 59 58) 0 0,w 9 (n 60 59) 0 0] [z 61 .lss 51 60]) (I 61 W (X 4))) (S (T 5 (S (d [13] [r 0 (f 64 1 0),w 1 (l 65 64) 0 1,r 2 (m 66 6),r 3 (m 67 7),r 4 (a 68 66 67 1),w 5 (l 69 68) 0 1,r 6 (a 70 65 69 1),w 7 (l 71 70) 0 1,r 8 (m 72 12),r 9 (a 73 71 72 5),w 10 (L 74 73 5) 0 1,v 11 (o 13 (.alloc [.int .i64 0,.int .i64 0,.int .u8 0,.int .i64 0,.int .i64 0]))] [s 5 13 74]) (S (d [88] [r 0 (f 75 13 0),w 1 (L 76 75 4) 0 0,r 2 (m 77 9),r 3 (m 78 10),r 4 (a 79 77 78 4),w 5 (L 80 79 4) 0 0,r 6 (o 81 (.eqs ⟨true,[0,0,0,0]⟩ false (.t 76) (.t 80))),r 7 (m 82 81),r 8 (mT 83 3 82),r 9 (fT 84 13 4 82),w 10 (lT 85 84 82) 0 0] [aT 86 83 85 1 82,lT 87 86 82,y 88 82 87]) (I 88 (g [11] [f 89 13 4,l 90 89,m 11 90]) W)))) (t 12 62 63))
def sJ:=S (S (d [110] [r 0 (m 93 14),r 1 (m 94 6),w 2 (n 95 94) 0 0,r 3 (z 96 .lss 93 95),r 4 (m 97 96),r 5 (mT 98 4 97),r 6 (mT 99 6 97),r 7 (mT 100 14 97),r 8 (aT 101 99 100 1 97),w 9 (lT 102 101 97) 0 0,r 10 (aT 103 98 102 1 97),w 11 (lT 104 103 97) 0 0,r 12 (mT 105 4 97),r 13 (mT 106 11 97),r 14 (aT 107 105 106 1 97),w 15 (lT 108 107 97) 0 0] [zT 109 .neq 104 108 97,y 110 97 109]) (I 110 W (X 6))) (T 7 (t 14 111 112))
def wy:=S (A [48] [m 45 10,m 46 9,n 47 46,z 48 .lss 45 47] 48 W (X 2)) (S (T 3 (S (g [11] [K 11 (-1)]) (S (S (g [12] [K 12 0]) (T 4 (M qA))) (S (A [92] [m 91 11,i 92 .lss 91 0] 92 (X 3) W) (S (g [14] [K 14 0]) (S (T 6 (M sJ)) (S (A [116] [m 113 14,m 114 6,n 115 114,z 116 .eql 113 115] 116 (g [6] [m 117 6,m 118 11,q 119 1 118,p 120 1 17592186044416 117 119,m 6 120]) W) (g [8] [m 121 8,m 122 9,m 123 10,a 124 122 123 4,L 125 124 4,m 126 14,o 127 (.build [.x (.t 125) 4,.x (.t 126) 1]),q 128 5 127,p 129 5 3518437208883 121 128,m 8 129])))))))) (t 10 49 50))
def sK:=S (A [33] [m 30 7,m 31 6,n 32 31,z 33 .lss 30 32] 33 W (X 0)) (S (T 1 (S (g [8] [Q 8]) (S (d [9] [r 0 (f 36 1 0),w 1 (l 37 36) 0 0,r 2 (o 38 (.build [.x (.t 37) 1,.z [.ah],.z [.ah]])),r 3 (m 39 6),r 4 (m 40 7),r 5 (a 41 39 40 1),w 6 (l 42 41) 0 0,r 7 (q 43 1 42)] [C 44 96 38 43,m 9 44]) (S (S (g [10] [K 10 0]) (T 2 (M wy))) (d [] [r 0 (f 130 5 0),w 1 (l 131 130) 0 0,r 2 (m 132 8),r 3 (q 133 1 132),u 4 (p 134 1 5864062014805 131 133),r 5 (f 135 5 1),w 6 (l 136 135) 0 1,r 7 (f 137 1 1),w 8 (l 138 137) 0 1,r 9 (m 139 6),r 10 (m 140 7),r 11 (a 141 139 140 1),w 12 (l 142 141) 0 1,r 13 (a 143 138 142 1),w 14 (l 144 143) 0 1,r 15 (q 145 1 144),u 16 (p 146 1 140737488355328 136 145),r 17 (f 147 5 0)] [s 1 147 134,f 148 5 1,s 1 148 146]))))) (t 7 34 35))
def PN:=S (g [1,2] [b 1 0,o 2 (.alloc [.ah,.ah])]) (S (g [3] [L 15 1 2,c 16 94 15,m 3 16]) (S (A [20] [m 17 3,o 18 (.ia (.t 17) (.k (.int .i64 0)) 1),l 19 18,N 20 19] 20 (F [] [j 21 81,s 2 2 21]) W) (S (g [4] [L 22 1 2,m 23 3,C 24 95 22 23,m 4 24]) (S (A [26] [m 25 4,o 26 (.niq 0 false (.t 25))] 26 (F [] [o 27 (.mks 1 5864062014805 [.ah] (.k (.int .i64 401)) (.k (.int .i64 401))),o 28 (.build [.x (.t 27) 1,.z [.ah]]),s 2 2 28]) W) (S (g [5] [o 5 (.alloc [.ah,.ah])]) (S (g [6] [o 29 (.bsl 1 [.k (.int .i64 0)]),m 6 29]) (S (S (g [7] [K 7 0]) (T 0 (M sK))) (F [] [L 149 5 2,s 2 2 149]))))))))
def aba:=h 150 1 [0,1,2,3,4,5,6,7,8,9,10,11,12,13,14,20,26,33,48,61,88,92,110,116] [.cell 2 (some 2)] PN
def sL:=S (A [14] [m 11 5,m 12 0,n 13 12,z 14 .lss 11 13] 14 W (X 0)) (S (T 1 (S (d [40] [r 0 (m 17 0),r 1 (m 18 5),r 2 (a 19 17 18 4),r 3 (f 20 19 0),w 4 (l 21 20) 0 0,r 5 (m 22 1),r 6 (m 23 5),r 7 (a 24 22 23 4),r 8 (f 25 24 0),w 9 (l 26 25) 0 0,r 10 (z 27 .neq 21 26),r 11 (m 28 27),r 12 (mF 29 0 28),r 13 (mF 30 5 28),r 14 (aF 31 29 30 4 28),r 15 (fF 32 31 1 28),w 16 (lF 33 32 28) 0 0,r 17 (mF 34 1 28),r 18 (mF 35 5 28),r 19 (aF 36 34 35 4 28),r 20 (fF 37 36 1 28),w 21 (lF 38 37 28) 0 0] [zF 39 .neq 33 38 28,Y 40 28 39]) (I 40 (F [4] [Z 4]) W))) (t 5 15 16))
def PO:=S (g [4] [Z 4]) (S (A [10] [m 6 0,n 7 6,m 8 1,n 9 8,z 10 .neq 7 9] 10 (F [4] [Z 4]) W) (S (S (g [5] [K 5 0]) (T 0 (M sL))) (F [4] [O 4])))
def f130:=h 41 2 [0,1,4,5,10,14,40] [.tmp 4] PO
@[simp]def PQ:=g [2] [f 3 1 3,l 4 3,m 5 4,fT 6 1 0 5,lT 7 6 5,nT 8 7 5,iT 9 .eql 8 0 5,y 10 5 9,m 2 10]
def LI:=S (g [1,2] [b 1 0,Z 2]) (S PQ R)
def f131:=h 11 1 [0,1,2] [.tmp 2] LI
@[simp]def PR:=g [6] [f 16 5 0,l 17 16,i 18 .eql 17 0,m 19 18,LT 20 5 4 19,cT 21 35 20 19,y 22 19 21,m 6 22]
@[simp]def fH:=g [8] [f 35 5 0,l 36 35,f 37 7 0,l 38 37,z 39 .eql 36 38,m 40 39,fT 41 5 1 40,lT 42 41 40,fT 43 7 1 40,lT 44 43 40,zT 45 .eql 42 44 40,y 46 40 45,m 47 46,fT 48 5 2 47,lT 49 48 47,G 50 (.bin false .eql (.t 49) (.k (.int .u8 3))) 47 true,y 51 47 50,m 52 51,fT 53 7 2 52,lT 54 53 52,G 55 (.bin false .eql (.t 54) (.k (.int .u8 1))) 52 true,mT 56 55 52,fF 57 5 3 56,lF 58 57 56,iF 59 .leq 58 0 56,YT 60 56 59 52,y 61 52 60,m 8 61]
@[simp]def PS:=g [67] [f 62 3 1,l 63 62,m 64 63,fF 65 3 2 64,lF 66 65 64,Y 67 64 66]
@[simp]def PT:=g [6] [m 68 8,m 69 68,LT 70 5 4 69,cT 71 59 70 69,y 72 69 71,m 6 72]
@[simp]def PU:=g [82] [f 75 7 0,l 76 75,i 77 .gtr 76 0,m 78 77,fT 79 7 1 78,lT 80 79 78,iT 81 .eql 80 0 78,y 82 78 81]
@[simp]def PV:=g [6] [f 83 5 0,l 84 83,f 85 7 0,l 86 85,z 87 .eql 84 86,m 88 87,fT 89 5 1 88,lT 90 89 88,iT 91 .gtr 90 0 88,y 92 88 91,m 6 92]
@[simp]def PW:=g [6] [f 93 5 0,l 94 93,i 95 .gtr 94 0,m 96 95,fT 97 5 1 96,lT 98 97 96,iT 99 .eql 98 0 96,y 100 96 99,m 6 100]
@[simp]def PX:=g [107] [L 101 5 4,c 102 59 101,m 103 102,fT 104 7 1 103,lT 105 104 103,iT 106 .eql 105 0 103,y 107 103 106]
@[simp]def PY:=g [6] [m 108 8,m 109 108,fT 110 7 0 109,lT 111 110 109,iT 112 .gtr 111 0 109,y 113 109 112,m 114 113,fT 115 4 3 114,lT 116 115 114,y 117 114 116,m 6 117]
def Hw:=S (g [3,4,5,6] [b 3 0,b 4 1,b 5 2,Z 6]) (S (A [12] [L 9 4 4,L 10 5 4,C 11 97 9 10,N 12 11] 12 (F [6] [Z 6]) W) (S (A [15] [f 13 3 3,l 14 13,N 15 14] 15 (S PR R) W) (S (A [26] [f 23 3 0,l 24 23,n 25 24,i 26 .eql 25 0] 26 (F [6] [Z 6]) W) (S (g [7] [f 27 3 0,l 28 27,f 29 3 0,l 30 29,n 31 30,i 32 .sub 31 1,a 33 28 32 4,L 34 33 4,o 7 (.alloc [.int .i64 0,.int .i64 0,.int .u8 0,.int .i64 0]),s 4 7 34]) (S fH (S (S PS (I 67 (S PT R) W)) (S (A [74] [L 73 5 4,c 74 35 73] 74 (S (S PU (I 82 (S PV R) W)) (S PW R)) W) (S (S PX (I 107 (S PY R) W)) (F [6] [m 118 8,m 6 118])))))))))
def f132:=h 119 3 [0,1,2,3,4,5,6,7,8,12,15,26,67,74,82,107] [.tmp 6] Hw
@[simp]def Es:=g [] [L 30 3 4,c 31 59 30,m 32 31,fT 33 3 1 32,lT 34 33 32,iT 35 .gtr 34 0 32,y 36 32 35,f 37 5 2,s 1 37 36]
@[simp]def Et:=g [] [f 38 2 1,l 39 38,m 40 39,LF 41 3 4 40,cF 42 59 41 40,mF 43 42 40,fT 44 3 0 43,lT 45 44 43,iT 46 .gtr 45 0 43,yF 47 43 46 40,mF 48 47 40,fT 49 3 1 48,lT 50 49 48,iT 51 .eql 50 0 48,yF 52 48 51 40,mF 53 52 40,fT 54 2 2 53,lT 55 54 53,NT 56 55 53,yF 57 53 56 40,Y 58 40 57,f 59 5 1,s 1 59 58]
def PZ:=S (g [2,3,4] [b 2 0,b 3 1,o 4 (.alloc [.ah,.bool false,.bool false,.bool false])]) (S (g [5] [f 6 2 1,l 7 6,o 8 (.build [.z [.ah],.x (.t 7) 1,.z [.bool false],.x (.k (.bool true)) 1]),o 5 (.alloc [.ah,.bool false,.bool false,.bool false]),s 4 5 8]) (S (A [10] [L 9 3 4,c 10 35 9] 10 (S (d [] [v 0 (o 11 (.bsl 4 [])),r 1 (f 12 2 0),w 2 (l 13 12) 0 1,u 3 (p 14 4 4398046511104 11 13),w 4 (L 15 3 4) 0 2,r 5 (q 16 4 15)] [p 17 4 4398046511104 14 16,f 18 5 0,s 1 18 17]) (F [] [L 19 5 4,s 4 4 19])) W) (S (g [] [o 20 (.bsl 4 []),f 21 2 0,l 22 21,f 23 2 0,l 24 23,n 25 24,i 26 .sub 25 1,o 27 (.slc (.t 22) none (some (.t 26)) none 4),p 28 4 4398046511104 20 27,f 29 5 0,s 1 29 28]) (S Es (S Et (F [] [L 60 5 4,s 4 4 60]))))))
def f133:=h 61 2 [0,1,2,3,4,5,10] [.cell 4 (some 4)] PZ
@[simp]def P0:=g [4] [f 5 2 0,l 6 5,f 7 3 0,l 8 7,z 9 .eql 6 8,m 10 9,fT 11 2 1 10,fT 12 11 1 10,lT 13 12 10,fT 14 3 1 10,fT 15 14 1 10,lT 16 15 10,G 17 (.bin true .eql (.t 13) (.t 16)) 10 true,y 18 10 17,m 19 18,fT 20 2 1 19,fT 21 20 2 19,lT 22 21 19,fT 23 3 1 19,fT 24 23 2 19,lT 25 24 19,G 26 (.bin true .eql (.t 22) (.t 25)) 19 true,y 27 19 26,m 28 27,fT 29 2 1 28,fT 30 29 3 28,lT 31 30 28,fT 32 3 1 28,fT 33 32 3 28,lT 34 33 28,G 35 (.bin true .eql (.t 31) (.t 34)) 28 true,y 36 28 35,m 37 36,fT 38 2 1 37,fT 39 38 0 37,lT 40 39 37,fT 41 3 1 37,fT 42 41 0 37,lT 43 42 37,CT 44 26 40 43 37,y 45 37 44,m 4 45]
def P1:=S (g [2,3,4] [b 2 0,b 3 1,Z 4]) (S P0 R)
def f134:=h 46 2 [0,1,2,3,4] [.tmp 4] P1
def CP:=S (A [15] [m 8 7,f 9 3 0,l 10 9,m 11 1,a 12 10 11 1,l 13 12,n 14 13,z 15 .lss 8 14] 15 W (X 0)) (S (T 1 (S (d [28] [r 0 (f 18 3 0),w 1 (l 19 18) 0 0,r 2 (m 20 1),r 3 (a 21 19 20 1),w 4 (l 22 21) 0 0,r 5 (m 23 7),r 6 (a 24 22 23 5),r 7 (f 25 24 0),w 8 (L 26 25 4) 0 0,w 9 (L 27 5 4) 0 0] [o 28 (.eqs ⟨true,[0,0,0,0]⟩ false (.t 26) (.t 27))]) (I 28 (F [6] [f 29 3 0,l 30 29,m 31 1,a 32 30 31 1,l 33 32,m 34 7,a 35 33 34 5,f 36 35 4,l 37 36,m 6 37]) W))) (t 7 16 17))
def b93:=S (g [3,5,6] [b 3 0,b 5 2,K 6 0]) (S (S (g [7] [K 7 0]) (T 0 (M CP))) (F [6] [K 6 (-1)]))
def f93:=h 38 3 [0,1,2,3,5,6,7,15,28] [.tmp 6] b93
def V8:=S (g [0] [o 0 (.alloc [.ah,.ah])]) (F [] [o 1 (.bsl 1 [.k .ah]),o 2 (.bsl 1 [.k (.bool false)]),o 3 (.build [.x (.t 1) 1,.x (.t 2) 1]),s 2 0 3])
def abb:=h 4 0 [0] [.cell 0 (some 2)] V8
@[simp]def V9:=g [5] [f 6 1 0,l 7 6,n 8 7,i 9 .gtr 8 8,m 10 9,fF 11 1 0 10,lF 12 11 10,mF 13 3 10,CF 14 111 12 13 10,Y 15 10 14,m 5 15]
@[simp]def Wa:=g [16] [f 17 1 1,L 18 17 2,c 19 112 18,N 20 19,m 21 20,fF 22 1 0 21,lF 23 22 21,mF 24 4 21,CF 25 111 23 24 21,Y 26 21 25,m 16 26]
def Wb:=S (g [1,2] [b 1 0,K 2 0]) (S (g [3] [o 3 (.mv (.k (.fn 108 [] [])))]) (S (g [4] [o 4 (.mv (.k (.fn 109 [] [])))]) (S (T 0 (S V9 (I 5 (F [2] [K 2 5]) (S Wa (I 16 (F [2] [K 2 4]) W))))) (F [2] [K 2 0]))))
def f82:=h 27 1 [0,1,2,3,4,5,16] [.tmp 2] Wb
def ψ:=S (g [2,4,5] [b 2 0,V 4,K 5 0]) (S (S (g [6] [L 7 2 4,c 8 86 7,m 6 8]) (A [10] [m 9 6,i 10 .neq 9 0] 10 (F [4,5] [m 11 6,V 4,m 5 11]) W)) (S (A [14] [m 12 1,n 13 12,i 14 .gtr 13 400] 14 (F [4,5] [V 4,K 5 5]) W) (F [4,5] [L 15 2 4,m 16 1,C 17 117 15 16,m 4 17,K 5 0])))
def f86:=h 18 2 [0,1,2,4,5,6,10,14] [.tmp 4,.tmp 5] ψ
def LJ:=S (g [1,2,3] [b 1 0,V 2,K 3 0]) (S (S (g [4] [f 8 1 0,L 9 8 4,c 10 86 9,m 4 10]) (A [12] [m 11 4,i 12 .neq 11 0] 12 (F [2,3] [m 13 4,V 2,m 3 13]) W)) (S (S (g [5] [f 14 1 4,L 15 14 2,c 16 118 15,m 5 16]) (A [18] [m 17 5,i 18 .neq 17 0] 18 (F [2,3] [m 19 5,V 2,m 3 19]) W)) (S (g [6,7] [L 21 1 6,c 22 119 21,m 20 22,x 23 20 0,x 24 20 1,m 6 23,m 7 24]) (S (A [26] [m 25 7,N 26 25] 26 (F [2,3] [V 2,K 3 13]) W) (F [2,3] [m 27 6,m 2 27,K 3 0])))))
def abc:=h0 28 1 [0,1,2,3,4,5,6,7,12,18,26] [.tmp 2,.tmp 3] LJ
@[simp]def P2:=g [4] [f 21 3 0,l 22 21,i 23 .eql 22 0,m 24 23,LT 25 3 4 24,cT 26 35 25 24,y 27 24 26,m 4 27]
@[simp]def iM:=g [7] [f 35 3 0,l 36 35,f 37 5 0,l 38 37,z 39 .eql 36 38,m 40 39,fT 41 3 1 40,lT 42 41 40,fT 43 5 1 40,lT 44 43 40,zT 45 .eql 42 44 40,y 46 40 45,m 47 46,fT 48 3 2 47,lT 49 48 47,G 50 (.bin false .eql (.t 49) (.k (.int .u8 3))) 47 true,y 51 47 50,m 52 51,fT 53 5 2 52,lT 54 53 52,G 55 (.bin false .eql (.t 54) (.k (.int .u8 1))) 52 true,mT 56 55 52,fF 57 3 3 56,lF 58 57 56,iF 59 .leq 58 0 56,YT 60 56 59 52,y 61 52 60,m 7 61]
@[simp]def iN:=g [69] [m 62 0,k 63 62,f 64 63 8,l 65 64,m 66 65,mF 67 0 66,cF 68 38 67 66,Y 69 66 68]
@[simp]def P3:=g [4] [m 70 7,m 71 70,LT 72 3 4 71,cT 73 59 72 71,y 74 71 73,m 4 74]
@[simp]def P4:=g [84] [f 77 5 0,l 78 77,i 79 .gtr 78 0,m 80 79,fT 81 5 1 80,lT 82 81 80,iT 83 .eql 82 0 80,y 84 80 83]
@[simp]def P5:=g [4] [f 85 3 0,l 86 85,f 87 5 0,l 88 87,z 89 .eql 86 88,m 90 89,fT 91 3 1 90,lT 92 91 90,iT 93 .gtr 92 0 90,y 94 90 93,m 4 94]
@[simp]def P6:=g [4] [f 95 3 0,l 96 95,i 97 .gtr 96 0,m 98 97,fT 99 3 1 98,lT 100 99 98,iT 101 .eql 100 0 98,y 102 98 101,m 4 102]
@[simp]def P7:=g [109] [L 103 3 4,c 104 59 103,m 105 104,fT 106 5 1 105,lT 107 106 105,iT 108 .eql 107 0 105,y 109 105 108]
@[simp]def P8:=g [4] [m 110 7,m 111 110,fT 112 5 0 111,lT 113 112 111,iT 114 .gtr 113 0 111,y 115 111 114,m 116 115,mT 117 0 116,G 118 (.nck (.t 117)) 116 true,fT 119 118 0 116,fT 120 119 3 116,lT 121 120 116,y 122 116 121,m 4 122]
def oT:=S (g [3,4] [b 3 1,Z 4]) (S (S (d [14] [r 0 (m 8 0),r 1 (k 9 8),r 2 (f 10 9 0),w 3 (L 11 10 4) 0 0,w 4 (L 12 3 4) 0 0] [C 13 97 11 12,N 14 13]) (I 14 (F [4] [Z 4]) W)) (S (A [20] [m 15 0,k 16 15,f 17 16 4,l 18 17,n 19 18,i 20 .eql 19 0] 20 (S P2 R) W) (S (g [5,6] [m 29 0,c 30 58 29,m 28 30,x 31 28 0,x 32 28 1,o 5 (.alloc [.int .i64 0,.int .i64 0,.int .u8 0,.int .i64 0]),s 4 5 31,m 6 32]) (S (A [34] [m 33 6,N 34 33] 34 (F [4] [Z 4]) W) (S iM (S (S iN (I 69 (S P3 R) W)) (S (A [76] [L 75 3 4,c 76 35 75] 76 (S (S P4 (I 84 (S P5 R) W)) (S P6 R)) W) (S (S P7 (I 109 (S P8 R) W)) (F [4] [m 123 7,m 4 123])))))))))
def abd:=h 124 2 [0,1,3,4,5,6,7,14,20,34,69,76,84,109] [.tmp 4] oT
@[simp]def P9:=g [3] [b 3 1]
@[simp]def Qa:=g [4] [m 8 0,k 9 8,f 10 9 4,l 11 10,n 12 11,m 4 12]
@[simp]def Qb:=g [5] [m 13 0,c 14 38 13,m 5 14]
@[simp]def Qc:=d [] [r 1 (m 16 0),r 2 (k 17 16),r 3 (f 18 17 4),w 4 (l 19 18) 0 0,w 5 (L 20 3 4) 0 0,r 6 (q 21 4 20),u 7 (p 22 4 4398046511104 19 21),r 0 (m 15 0)] [k 23 15,f 24 23 4,s 1 24 22]
@[simp]def Qd:=g [26] [L 25 3 4,c 26 35 25]
@[simp]def Qe:=g [6] [K 6 (-1)]
@[simp]def Qf:=g [27] [f 28 3 1,l 29 28,i 30 .gtr 29 0,m 27 30]
@[simp]def Qg:=d [6] [r 0 (m 31 0),r 1 (k 32 31),r 2 (f 33 32 5),w 3 (l 34 33) 0 0,r 4 (m 35 0),r 5 (k 36 35),r 6 (f 37 36 5),w 7 (l 38 37) 0 0,w 8 (n 39 38) 0 0,r 9 (i 40 .sub 39 1)] [a 41 34 40 1,l 42 41,m 6 42]
@[simp]def Qh:=g [43] [f 44 3 0,l 45 44,i 46 .gtr 45 0,m 43 46]
@[simp]def Qi:=g [6] [K 6 0]
def sM:=T 0 (S Qf (I 27 Qg (S Qh (I 43 Qi W))))
@[simp]def LK:=d [] [r 3 (m 50 0),r 4 (k 51 50),r 5 (f 52 51 5),w 6 (l 53 52) 0 0,r 7 (m 54 4),r 8 (q 55 1 54),u 9 (p 56 1 17592186044416 53 55),r 10 (m 57 0),r 11 (k 58 57),r 12 (f 59 58 6),w 13 (l 60 59) 0 1,r 14 (o 61 (.fbl 1 [.k (.int .i64 (-1))])),u 15 (p 62 1 17592186044416 60 61),r 16 (m 63 0),r 17 (k 64 63),r 18 (f 65 64 7),w 19 (l 66 65) 0 2,r 20 (m 67 6),r 21 (q 68 1 67),u 22 (p 69 1 17592186044416 66 68),r 0 (m 47 0),r 23 (k 70 47),r 24 (f 71 70 5),u 25 (s 1 71 56),r 1 (m 48 0),r 26 (k 72 48),r 27 (f 73 72 6),u 28 (s 1 73 62),r 2 (m 49 0)] [k 74 49,f 75 74 7,s 1 75 69]
@[simp]def LL:=d [] [r 0 (m 76 0),r 1 (m 77 0),r 2 (k 78 77),r 3 (f 79 78 9),w 4 (l 80 79) 0 0,r 5 (m 81 0),r 6 (k 82 81),r 7 (f 83 82 5),w 8 (l 84 83) 0 0,w 9 (n 85 84) 0 0,r 10 (o 86 (.mm true (.t 80) (.t 85)))] [k 87 76,f 88 87 9,s 1 88 86]
@[simp]def LM:=d [7] [r 0 (m 89 0),r 1 (k 90 89),r 2 (f 91 90 5),w 3 (l 92 91) 0 0,r 4 (m 93 0),r 5 (k 94 93),r 6 (f 95 94 5),w 7 (l 96 95) 0 0,w 8 (n 97 96) 0 0,r 9 (i 98 .sub 97 1)] [a 99 92 98 1,l 100 99,m 7 100]
@[simp]def LN:=d [] [r 0 (m 101 0),r 1 (m 102 0),r 2 (k 103 102),r 3 (f 104 103 5),w 4 (l 105 104) 0 0,r 5 (m 106 0),r 6 (k 107 106),r 7 (f 108 107 5),w 8 (l 109 108) 0 0,w 9 (n 110 109) 0 0,r 10 (i 111 .sub 110 1),r 11 (o 112 (.slc (.t 105) none (some (.t 111)) none 1))] [k 113 101,f 114 113 5,s 1 114 112]
@[simp]def LO:=g [] [m 115 0,k 116 115,f 117 116 6,l 118 117,m 119 7,m 120 4,a 121 118 119 1,s 1 121 120]
@[simp]def LP:=d [] [r 2 (m 124 0),r 3 (k 125 124),r 4 (f 126 125 6),w 5 (l 127 126) 0 0,r 6 (m 128 7),r 7 (q 129 1 128),u 8 (p 130 1 17592186044416 127 129),r 9 (m 131 0),r 10 (k 132 131),r 11 (f 133 132 7),w 12 (l 134 133) 0 1,r 13 (m 135 7),r 14 (q 136 1 135),u 15 (p 137 1 17592186044416 134 136),r 0 (m 122 0),r 16 (k 138 122),r 17 (f 139 138 6),u 18 (s 1 139 130),r 1 (m 123 0)] [k 140 123,f 141 140 7,s 1 141 137]
@[simp]def AM:=g [157] [L 142 3 4,c 143 59 142,m 144 143,fT 145 3 0 144,lT 146 145 144,iT 147 .gtr 146 0 144,y 148 144 147,m 149 148,fT 150 3 1 149,lT 151 150 149,iT 152 .eql 151 0 149,y 153 149 152,m 154 153,mT 155 5 154,NT 156 155 154,y 157 154 156]
@[simp]def AN:=g [] [m 158 0,k 159 158,f 160 159 8,e (.st 1 (.t 160) (.k (.bool true)))]
def Eu:=S P9 (S Qa (S Qb (S Qc (S (S Qd (I 26 (S Qe (S sM (S LK (S LL R)))) W)) (S LM (S LN (S LO (S LP (S AM (I 157 AN W))))))))))
def f129:=h0 161 2 [0,1,3,4,5,6,7,26,27,43,157] [] Eu
def AO:=S (A [8] [m 5 4,m 6 0,n 7 6,z 8 .lss 5 7] 8 W (X 0)) (S (T 1 (g [3] [m 11 3,m 12 0,m 13 4,a 14 12 13 1,l 15 14,n 16 15,z 17 .add 11 16,m 3 17])) (t 4 9 10))
def Wc:=S (g [2] [K 2 0]) (S (g [3] [K 3 0]) (S (S (g [4] [K 4 0]) (T 0 (M AO))) (F [2] [m 18 3,m 2 18])))
def abe:=h 19 1 [0,2,3,4,8] [.tmp 2] Wc
def LQ:=S (g [2,3,4] [b 2 0,b 3 1,Z 4]) (S (A [9] [f 5 2 0,l 6 5,f 7 3 0,l 8 7,z 9 .neq 6 8] 9 (F [4] [f 10 2 0,l 11 10,f 12 3 0,l 13 12,z 14 .lss 11 13,m 4 14]) W) (S (A [19] [f 15 2 1,l 16 15,f 17 3 1,l 18 17,z 19 .neq 16 18] 19 (F [4] [f 20 2 1,l 21 20,f 22 3 1,l 23 22,z 24 .lss 21 23,m 4 24]) W) (S (A [29] [f 25 2 2,l 26 25,f 27 3 2,l 28 27,z 29 .neq 26 28] 29 (F [4] [f 30 2 2,l 31 30,f 32 3 2,l 33 32,z 34 .lss 31 33,m 4 34]) W) (F [4] [f 35 2 3,l 36 35,f 37 3 3,l 38 37,z 39 .lss 36 38,m 4 39]))))
def abf:=h 40 2 [0,1,2,3,4,9,19,29] [.tmp 4] LQ
@[simp]def Qj:=g [47] [m 29 3,m 30 5,a 31 29 30 1,l 32 31,N 33 32,m 34 33,mT 35 3 34,fT 36 1 0 34,lT 37 36 34,mT 38 5 34,aT 39 37 38 1 34,lT 40 39 34,mT 41 6 34,aT 42 40 41 5 34,fT 43 42 4 34,lT 44 43 34,aT 45 35 44 1 34,lT 46 45 34,y 47 34 46]
def qB:=S (A [26] [m 19 6,f 20 1 0,l 21 20,m 22 5,a 23 21 22 1,l 24 23,n 25 24,z 26 .lss 19 25] 26 W (X 4)) (S (T 5 (S Qj (I 47 (g [4] [m 48 3,m 49 5,a 50 48 49 1,e (.st 1 (.t 50) (.k (.bool true))),O 4]) W))) (t 6 27 28))
def wz:=S (A [16] [m 12 5,f 13 1 0,l 14 13,n 15 14,z 16 .lss 12 15] 16 W (X 2)) (S (T 3 (S (g [6] [K 6 0]) (T 4 (M qB)))) (t 5 17 18))
def AP:=S (A [11] [m 11 4] 11 W (X 0)) (T 1 (S (g [4] [Z 4]) (S (g [5] [K 5 0]) (T 2 (M wz)))))
def Qk:=S (g [1,2] [b 1 0,Q 2]) (S (g [3] [o 7 (.bsl 1 []),f 8 1 1,l 9 8,p 10 1 140737488355328 7 9,m 3 10]) (S (S (g [4] [O 4]) (T 0 (M AP))) (F [2] [m 51 3,m 2 51])))
def abg:=h 52 1 [0,1,2,3,4,5,6,11,16,26,47] [.tmp 2] Qk
def oU:=S (A [19] [m 16 6,m 17 5,n 18 17,z 19 .lss 16 18] 19 W (X 0)) (S (T 1 (S (A [25] [m 22 1,m 23 6,a 24 22 23 1,l 25 24] 25 (g [] [m 26 5,m 27 6,a 28 26 27 1,e (.st 1 (.t 28) (.k (.int .i64 1)))]) W) (A [33] [f 29 2 1,l 30 29,m 31 6,a 32 30 31 1,l 33 32] 33 (g [] [m 34 5,m 35 6,a 36 34 35 1,e (.st 1 (.t 36) (.k (.int .i64 2)))]) W))) (t 6 20 21))
def sN:=S (S (d [61] [r 0 (m 46 11),r 1 (m 47 9),w 2 (n 48 47) 0 0,r 3 (z 49 .lss 46 48),r 4 (m 50 49),w 5 (LT 51 2 2 50) 0 0,r 6 (mT 52 5 50),r 7 (mT 53 1 50),r 8 (mT 54 9 50),r 9 (mT 55 11 50),r 10 (aT 56 54 55 1 50),w 11 (lT 57 56 50) 0 0,r 12 (mT 58 10 50)] [G 59 (.call 120 [.t 51,.t 52,.t 53,.t 57,.t 58]) 50 true,NT 60 59 50,y 61 50 60]) (I 61 W (X 6))) (T 7 (t 11 62 63))
def wA:=S (A [43] [m 40 10,m 41 5,n 42 41,z 43 .lss 40 42] 43 W (X 4)) (S (T 5 (S (g [11] [K 11 0]) (S (T 6 (M sN)) (S (A [67] [m 64 11,m 65 9,n 66 65,z 67 .eql 64 66] 67 (g [9] [m 68 9,m 69 10,q 70 1 69,p 71 1 17592186044416 68 70,m 9 71]) W) (S (A [74] [m 72 9,n 73 72,i 74 .gtr 73 401] 74 (F [4] [Q 4]) W) (g [] [m 75 8,m 76 10,m 77 11,a 78 75 76 1,s 1 78 77])))))) (t 10 44 45))
def Ev:=T 3 (S (g [8] [m 37 5,n 38 37,o 39 (.mks 1 17592186044416 [.int .i64 0] (.t 38) (.t 38)),m 8 39]) (S (g [9] [Q 9]) (S (S (g [10] [K 10 0]) (T 4 (M wA))) (S (A [82] [m 79 9,n 80 79,m 81 7,z 82 .eql 80 81] 82 (F [4] [m 83 8,m 4 83]) W) (g [5,7] [m 84 8,m 85 9,n 86 85,m 5 84,m 7 86])))))
def Ql:=S (g [2,4] [b 2 0,Q 4]) (S (g [5] [f 12 2 0,l 13 12,n 14 13,o 15 (.mks 1 17592186044416 [.int .i64 0] (.t 14) (.t 14)),m 5 15]) (S (S (g [6] [K 6 0]) (T 0 (M oU))) (S (g [7] [K 7 0]) (T 2 (M Ev)))))
def abh:=h 87 2 [0,1,2,4,5,6,7,8,9,10,11,19,25,33,43,61,67,74,82] [.tmp 4] Ql
def AQ:=S (S (d [24] [r 0 (m 14 7),r 1 (f 15 2 0),w 2 (l 16 15) 0 0,r 3 (m 17 1),r 4 (m 18 6),r 5 (a 19 17 18 1),w 6 (l 20 19) 0 0,r 7 (a 21 16 20 1),w 8 (l 22 21) 0 0,w 9 (n 23 22) 0 0] [z 24 .lss 14 23]) (I 24 W (X 2))) (S (T 3 (d [5] [r 0 (m 27 5),r 1 (f 28 2 0),w 2 (l 29 28) 0 0,r 3 (m 30 1),r 4 (m 31 6),r 5 (a 32 30 31 1),w 6 (l 33 32) 0 0,r 7 (a 34 29 33 1),w 8 (l 35 34) 0 0,r 9 (m 36 7),r 10 (a 37 35 36 5),r 11 (f 38 37 0),w 12 (L 39 38 4) 0 0] [C 40 121 27 39,m 5 40])) (t 7 25 26))
def AR:=S (A [11] [m 8 6,m 9 1,n 10 9,z 11 .lss 8 10] 11 W (X 0)) (S (T 1 (S (g [7] [K 7 0]) (T 2 (M AQ)))) (t 6 12 13))
def Wd:=S (g [2,4] [b 2 0,Q 4]) (S (g [5] [Q 5]) (S (S (g [6] [K 6 0]) (T 0 (M AR))) (F [4] [m 41 5,m 4 41])))
def f142:=h 42 2 [0,1,2,4,5,6,7,11,24] [.tmp 4] Wd
def LR:=S (g [2,3,4] [b 2 0,b 3 1,Z 4]) (S (d [4] [w 0 (L 5 2 4) 0 0,r 1 (f 6 3 0),w 2 (l 7 6) 0 0,r 3 (f 8 3 1),w 4 (l 9 8) 0 0,u 5 (J 10 123 5 7 9),w 6 (L 11 3 4) 0 1,u 7 (C 12 122 10 11),r 8 (i 13 .geq 12 0),r 9 (m 14 13),w 10 (LF 15 2 4 14) 2 2,r 11 (fF 16 3 0 14),w 12 (lF 17 16 14) 2 2,r 13 (fF 18 3 1 14),w 14 (lF 19 18 14) 2 2,u 15 (G 20 (.call 124 [.t 15,.t 17,.t 19,.k (.int .u8 1)]) 14 false),w 16 (LF 21 3 4 14) 2 3] [CF 22 122 20 21 14,iF 23 .geq 22 0 14,Y 24 14 23,m 4 24]) R)
def abi:=h 25 2 [0,1,2,3,4] [.tmp 4] LR
def LS:=S (g [4] [o 4 (.mv (.k .fQ))]) (S (g [] [m 5 0,c 6 126 5]) (S (g [] [m 7 0,m 8 0,k 9 8,f 10 9 1,l 11 10,m 12 1,q 13 1 12,o 14 (.app 1 140737488355328 (some 5) (.t 11) (.t 13)),k 15 7,f 16 15 1,s 1 16 14]) (F [4] [o 4 (.mv (.k .fQ))])))
def abj:=h0 17 2 [0,1,4] [.tmp 4] LS
def We:=S (g [1,2] [b 1 0,Z 2]) (F [2] [f 3 1 0,l 4 3,n 5 4,i 6 .gtr 5 5,m 2 6])
def abk:=h 7 1 [0,1,2] [.tmp 2] We
def Wf:=S (g [1,2] [b 1 0,Z 2]) (F [2] [L 3 1 3,c 4 110 3,N 5 4,m 2 5])
def abl:=h 6 1 [0,1,2] [.tmp 2] Wf
@[simp]def Qm:=g [2] [f 4 1 1,L 5 4 2,c 6 112 5,m 7 6,fT 8 1 0 7,lT 9 8 7,mT 10 3 7,CT 11 128 9 10 7,NT 12 11 7,y 13 7 12,m 14 13,fT 15 1 0 14,lT 16 15 14,nT 17 16 14,iT 18 .eql 17 0 14,mT 19 18 14,fF 20 1 1 19,fF 21 20 0 19,lF 22 21 19,NF 23 22 19,YT 24 19 23 14,y 25 14 24,m 2 25]
def Jn:=S (g [1,2] [b 1 0,Z 2]) (S (g [3] [o 3 (.mv (.k (.fn 127 [] [])))]) (S Qm R))
def abm:=h 26 1 [0,1,2,3] [.tmp 2] Jn
def Wg:=S (g [4] [Z 4]) (F [4] [m 5 0,m 6 1,C 7 129 5 6,i 8 .geq 7 0,m 4 8])
def abn:=h 9 2 [0,1,4] [.tmp 4] Wg
@[simp]def Qn:=g [2] [f 3 1 1,l 4 3,i 5 .geq 4 1,m 6 5,fT 7 1 1 6,lT 8 7 6,iT 9 .leq 8 64 6,y 10 6 9,m 2 10]
def Wh:=S (g [1,2] [b 1 0,Z 2]) (S Qn R)
def abo:=h 11 1 [0,1,2] [.tmp 2] Wh
def Wi:=S (g [1,2,3] [b 1 0,o 2 (.alloc [.ah,.bool false,.int .i64 0,.bool false]),K 3 0]) (S (d [3] [w 2 (L 6 1 4) 0 0,u 3 (c 7 86 6),w 0 (L 4 1 4) 0 1,r 1 (o 5 (.build [.x (.t 4) 4]))] [s 4 2 5,m 3 7]) R)
def abp:=h 8 1 [0,1,2,3] [.cell 2 (some 4),.tmp 3] Wi
@[simp]def Qo:=g [3,4,5,6,7] [b 3 0,b 4 1,b 5 2,o 6 (.alloc [.int .i64 0,.int .i64 0,.bool false,.int .i64 0,.bool false]),o 7 (.alloc [.bool false])]
@[simp]def Qp:=g [10] [L 9 3 4,o 10 (.mkf 130 [.t 9] [])]
@[simp]def ek:=g [8] [o 8 (.alloc [.int .i64 0,.int .i64 0,.bool false,.int .i64 0,.bool false]),s 5 8 11]
@[simp]def Qq:=g [21] [f 12 8 0,l 13 12,l 14 4,z 15 .eql 13 14,m 16 15,fT 17 8 1 16,lT 18 17 16,lT 19 5 16,zT 20 .eql 18 19 16,y 21 16 20]
@[simp]def Qr:=g [] [L 22 8 5,s 5 6 22,e (.st 1 (.t 7) (.k (.bool true)))]
def dT:=T 1 (S Qq (I 21 (S Qr R) W))
def Jo:=T 0 (.rf (.t 10) [11] ek dT)
@[simp]def Qs:=g [] [o 23 (.build [.z [.int .i64 0],.z [.int .i64 0],.z [.bool false,.int .i64 0],.z [.bool false]]),s 5 6 23,e (.st 1 (.t 7) (.k (.bool false)))]
def Wj:=S Qo (S (S Qp Jo) (S Qs R))
def abq:=h 24 3 [0,1,2,3,4,5,6,7,8,10,11,21] [.cell 6 (some 5),.cell 7 none] Wj
@[simp]def Qt:=g [36] [m 25 9,i 26 .neq 25 0,m 27 26,mF 28 8 27,NF 29 28 27,Y 30 27 29,m 31 30,mF 32 5 31,LF 33 7 4 31,CF 34 132 32 33 31,NF 35 34 31,Y 36 31 35]
def sO:=S (g [16] [z 16 .lss 15 14]) (S (I 16 W (X 0)) (S (T 1 (S (g [7] [a 17 13 15 4,L 18 17 4,o 7 (.alloc [.int .i64 0,.int .i64 0,.int .u8 0,.int .i64 0]),s 4 7 18]) (S (S (g [8,9] [L 20 2 4,L 21 7 4,C 22 131 20 21,m 19 22,x 23 19 0,x 24 19 1,m 8 23,m 9 24]) (S Qt (I 36 (X 0) W))) (g [] [m 37 5,L 38 7 4,C 39 133 37 38])))) (g [15] [i 40 .add 15 1,m 15 40])))
def Wl:=S (g [2,4] [b 2 0,V 4]) (S (g [5] [L 10 2 4,o 11 (.build [.x (.t 10) 4,.z [.ah],.z [.ah],.z [.ah],.z [.ah],.z [.ah],.z [.bool false],.z [.bool false],.z [.int .i64 0]]),o 12 (.box (.t 11)),m 5 12]) (S (S (g [13,14,15] [m 13 1,n 14 13,K 15 0]) (T 0 (M sO))) (F [4] [m 41 5,m 4 41])))
def abr:=h 42 2 [0,1,2,4,5,7,8,9,13,14,15,16,36] [.tmp 4] Wl
def Wm:=S (g [1,2] [b 1 0,K 2 0]) (S (g [3] [o 3 (.mv (.k (.fn 134 [] [])))]) (S (T 0 (A [4] [L 5 1 2,c 6 136 5,m 4 6] 4 (F [2] [K 2 5]) (S (d [7] [w 0 (L 8 1 2) 0 0,u 1 (c 9 137 8),r 2 (N 10 9),r 3 (m 11 10),r 4 (fF 12 1 0 11),w 5 (lF 13 12 11) 1 1,r 6 (mF 14 3 11),u 7 (CF 15 138 13 14 11),r 8 (Y 16 11 15),r 9 (m 17 16),w 11 (LF 19 1 2 17) 2 2,u 12 (cF 20 141 19 17),u 13 (cF 21 140 20 17),w 10 (LF 18 1 2 17) 2 4] [CF 22 139 18 21 17,NF 23 22 17,Y 24 17 23,m 7 24]) (I 7 (F [2] [K 2 4]) W)))) (F [2] [K 2 0])))
def abt:=h 25 1 [0,1,2,3,4,7] [.tmp 2] Wm
@[simp]def Qu:=g [1,2,3] [b 1 0,V 2,Z 3]
@[simp]def Qv:=g [4] [o 21 (.build [.z [.int .i64 0],.z [.str []]]),o 4 (.alloc [.int .i64 0,.str []]),s 2 4 21]
@[simp]def Qw:=g [5] [o 22 .mkm,L 23 4 2,o 24 (.build [.z [.ah],.z [.bool false],.z [.bool false]]),e (.mup ⟨true,[0,2]⟩ (.t 22) (.t 23) (.t 24)),m 25 22,o 26 .mkm,o 27 (.build [.x (.t 25) 1,.x (.t 26) 1,.z [.int .i64 0]]),o 28 (.box (.t 27)),m 5 28]
@[simp]def Qx:=g [6] [o 29 .mkm,e (.mup ⟨false,[0]⟩ (.t 29) (.k (.int .i64 0)) (.k (.str []))),m 30 29,m 6 30]
@[simp]def Qy:=g [7] [L 31 4 2,o 32 (.bsl 2 [.t 31]),m 7 32]
@[simp]def Ew:=g [35] [m 33 7,n 34 33,i 35 .gtr 34 0]
@[simp]def Ey:=g [8] [m 36 7,o 37 (.ia (.t 36) (.k (.int .i64 0)) 2),L 38 37 2,o 8 (.alloc [.int .i64 0,.str []]),s 2 8 38]
@[simp]def Ez:=g [7] [m 39 7,o 40 (.slc (.t 39) (some (.k (.int .i64 1))) none none 2),m 7 40]
@[simp]def EA:=d [9] [r 0 (m 41 5),r 1 (k 42 41),r 2 (f 43 42 0),w 3 (l 44 43) 0 1,w 4 (L 45 8 2) 0 1,w 5 (o 46 (.lkp ⟨true,[0,2]⟩ (.t 44) (.t 45) (.agg [.ah,.bool false,.bool false]) false)) 0 1,v 6 (o 9 (.alloc [.ah,.bool false,.bool false]))] [s 3 9 46]
@[simp]def EB:=d [] [r 0 (m 47 5),r 1 (m 48 5),r 2 (k 49 48),r 3 (f 50 49 2),w 4 (l 51 50) 0 0,r 5 (f 52 9 0),w 6 (l 53 52) 0 0,w 7 (n 54 53) 0 0,r 8 (o 55 (.mm true (.t 51) (.t 54)))] [k 56 47,f 57 56 2,s 1 57 55]
@[simp]def uO:=g [75] [f 58 1 4,f 59 58 1,l 60 59,f 61 8 0,l 62 61,a 63 60 62 1,l 64 63,m 65 64,fT 66 9 0 65,lT 67 66 65,nT 68 67 65,iT 69 .gtr 68 0 65,mT 70 69 65,LF 71 8 2 70,LF 72 4 2 70,G 73 (.eqs ⟨true,[0,2]⟩ false (.t 71) (.t 72)) 70 false,YT 74 70 73 65,y 75 65 74]
@[simp]def FX:=g [2,3] [V 2,Z 3]
@[simp]def AS:=g [82,83,84] [f 76 1 4,f 77 76 0,l 78 77,f 79 8 0,l 80 79,a 81 78 80 1,l 82 81,n 83 82,K 84 0]
@[simp]def AT:=g [85] [z 85 .lss 84 83]
@[simp]def AU:=g [11] [a 86 82 84 5,L 87 86 5,o 11 (.alloc [.int .i64 0,.int .i64 0,.int .u8 0,.int .i64 0,.int .i64 0]),s 5 11 87]
@[simp]def AV:=d [12,13] [w 0 (L 89 9 3) 0 0,r 1 (f 90 1 0),w 2 (L 91 90 4) 0 0,r 3 (f 92 11 0),w 4 (L 93 92 4) 0 0,w 5 (L 94 8 2) 0 0,w 6 (L 95 4 2) 0 0,r 7 (o 96 (.eqs ⟨true,[0,2]⟩ false (.t 94) (.t 95))),u 8 (o 97 (.call 142 [.t 89,.t 91,.t 93,.t 96])),r 9 (m 88 97),r 10 (x 98 88 0),v 12 (o 12 (.alloc [.ah,.bool false,.bool false])),u 13 (s 3 12 98),r 11 (x 99 88 1)] [m 13 99]
@[simp]def AW:=g [14,15] [L 101 12 3,c 102 143 101,m 100 102,x 103 100 0,x 104 100 1,m 14 103,m 15 104]
@[simp]def uP:=g [16,17] [m 106 6,f 107 11 4,l 108 107,o 109 (.lkp ⟨false,[0]⟩ (.t 106) (.t 108) (.str []) true),m 105 109,x 110 105 0,x 111 105 1,m 16 110,m 17 111]
@[simp]def uQ:=g [132] [m 112 13,N 113 112,m 114 113,mF 115 17 114,mF 116 115 114,mT 117 16 116,mT 118 14 116,zT 119 .neq 117 118 116,yF 120 116 119 114,Y 121 114 120,m 122 121,fF 123 12 0 122,lF 124 123 122,nF 125 124 122,fF 126 1 4 122,fF 127 126 0 122,lF 128 127 122,nF 129 128 122,G 130 (.mm true (.k (.int .i64 2)) (.t 129)) 122 false,zF 131 .geq 125 130 122,Y 132 122 131]
@[simp]def FY:=g [2,3] [V 2,Z 3]
@[simp]def AX:=g [] [m 133 6,f 134 11 4,l 135 134,m 136 14,e (.mup ⟨false,[0]⟩ (.t 133) (.t 135) (.t 136))]
@[simp]def AY:=g [18] [f 137 11 4,l 138 137,m 139 15,o 140 (.build [.x (.t 138) 1,.x (.t 139) 1]),o 18 (.alloc [.int .i64 0,.str []]),s 2 18 140]
@[simp]def uR:=d [20] [r 0 (m 142 5),r 1 (k 143 142),r 2 (f 144 143 0),w 3 (l 145 144) 0 1,w 4 (L 146 18 2) 0 1,w 5 (o 147 (.lkp ⟨true,[0,2]⟩ (.t 145) (.t 146) (.agg [.ah,.bool false,.bool false]) true)) 0 1,r 6 (m 141 147),r 7 (x 148 141 0),v 9 (o 19 (.alloc [.ah,.bool false,.bool false])),u 10 (s 3 19 148),r 8 (x 149 141 1)] [m 20 149]
@[simp]def uS:=g [151] [m 150 20,N 151 150]
@[simp]def uT:=d [] [r 0 (m 152 5),r 1 (k 153 152),r 2 (f 154 153 0),w 3 (l 155 154) 0 0,w 4 (L 156 18 2) 0 0,w 5 (L 157 12 3) 0 0] [e (.mup ⟨true,[0,2]⟩ (.t 155) (.t 156) (.t 157))]
@[simp]def uU:=g [7] [m 158 7,L 159 18 2,q 160 2 159,p 161 2 5864062014805 158 160,m 7 161]
@[simp]def pQ:=d [] [r 0 (m 162 5),r 1 (k 163 162),r 2 (f 164 163 1),w 3 (l 165 164) 0 0,w 4 (L 166 8 2) 0 0,r 5 (f 168 11 0),w 6 (L 169 168 4) 0 0,w 7 (L 170 18 2) 0 0,r 8 (o 171 (.build [.x (.t 169) 4,.x (.t 170) 2])),r 9 (q 172 6 171),u 10 (o 173 (.men ⟨true,[0,2]⟩ (.t 165) (.t 166) .ah)),r 11 (x 167 173 0),u 12 (p 174 6 2513169434916 167 172),r 13 (x 175 173 1)] [e (.mes (.t 165) (.t 175) (.t 174))]
def Jp:=T 3 (S AU (S AV (S AW (S (S uP (S uQ (I 132 (S FY R) W))) (S AX (S AY (S (S uR (S uS (I 151 (S uT uU) W))) pQ)))))))
@[simp]def AZ:=g [84] [i 176 .add 84 1,m 84 176]
def sP:=S AT (S (I 85 W (X 2)) (S Jp AZ))
def Jq:=T 2 (M sP)
def A0:=T 1 (S Ey (S Ez (S EA (S EB (S (S uO (I 75 (S FX R) W)) (S AS Jq))))))
def qC:=S (S Ew (I 35 W (X 0))) A0
def Jr:=T 0 (M qC)
@[simp]def LV:=g [2,3] [m 177 5,m 2 177,O 3]
def LW:=S Qu (S Qv (S Qw (S Qx (S Qy (S Jr (S LV R))))))
def abu:=h0 178 1 [0,1,2,3,4,5,6,7,8,9,11,12,13,14,15,16,17,18,20,35,75,82,83,84,85,132,151] [.tmp 2,.tmp 3] LW
def wB:=S (A [32] [m 29 12,m 30 11,n 31 30,z 32 .lss 29 31] 32 W (X 0)) (S (T 1 (S (d [53] [w 0 (L 35 5 2) 0 0,r 1 (m 36 1),r 2 (m 37 2),r 3 (m 38 3),r 4 (m 39 11),r 5 (m 40 12),r 6 (a 41 39 40 4),w 7 (L 42 41 4) 0 0,u 8 (o 43 (.call 144 [.t 35,.t 36,.t 37,.t 38,.t 42])),w 9 (L 44 5 2) 0 1,r 10 (m 45 1),r 11 (m 46 2),r 12 (m 47 4),r 13 (m 48 11),r 14 (m 49 12),r 15 (a 50 48 49 4),w 16 (L 51 50 4) 0 1] [o 52 (.call 144 [.t 44,.t 45,.t 46,.t 47,.t 51]),z 53 .neq 43 52]) (I 53 (F [10] [Z 10]) W))) (t 12 33 34))
def Qz:=S (g [5,10] [b 5 0,Z 10]) (S (S (d [21] [r 0 (m 13 1),r 1 (m 14 3),r 2 (a 15 13 14 1),w 3 (l 16 15) 0 0,r 4 (m 17 1),r 5 (m 18 4),r 6 (a 19 17 18 1),w 7 (l 20 19) 0 0] [z 21 .neq 16 20]) (I 21 (F [10] [Z 10]) W)) (S (g [11] [f 22 5 0,l 23 22,o 24 (.build [.x (.t 23) 1,.z [.ah],.z [.ah]]),m 25 3,m 26 4,o 27 (.fbl 1 [.t 25,.t 26]),C 28 96 24 27,m 11 28]) (S (S (g [12] [K 12 0]) (T 0 (M wB))) (F [10] [O 10]))))
def abv:=h 54 5 [0,1,2,3,4,5,10,11,12,21,32,53] [.tmp 10] Qz
def wC:=S (S (d [18] [r 0 (m 7 5),r 1 (m 8 0),w 2 (n 9 8) 0 0,r 3 (z 10 .lss 7 9),r 4 (m 11 10),r 5 (mT 12 0 11),r 6 (mT 13 5 11),r 7 (aT 14 12 13 4 11),w 8 (LT 15 14 4 11) 0 0,w 9 (LT 16 3 4 11) 0 0] [CT 17 93 15 16 11,y 18 11 17]) (I 18 W (X 0))) (T 1 (t 5 19 20))
def Wo:=S (g [3,4] [b 3 1,Q 4]) (S (g [5] [K 5 0]) (S (T 0 (M wC)) (S (S (d [32] [r 0 (m 21 5),r 1 (m 22 0),w 2 (n 23 22) 0 0,r 3 (z 24 .lss 21 23),r 4 (m 25 24),r 5 (mT 26 0 25),r 6 (mT 27 5 25),r 7 (aT 28 26 27 4 25),w 8 (LT 29 28 4 25) 0 0,w 9 (LT 30 3 4 25) 0 0] [G 31 (.eqs ⟨true,[0,0,0,0]⟩ false (.t 29) (.t 30)) 25 true,y 32 25 31]) (I 32 (F [4] [m 33 0,m 4 33]) W)) (S (g [6] [o 34 (.bsl 4 []),m 35 0,m 36 5,o 37 (.slc (.t 35) none (some (.t 36)) none 4),p 38 4 4398046511104 34 37,m 6 38]) (S (d [4] [r 0 (m 39 6),w 1 (L 40 3 4) 0 0,r 2 (q 41 4 40),u 3 (p 42 4 4398046511104 39 41),r 4 (m 43 0),r 5 (m 44 5),r 6 (o 45 (.slc (.t 43) (some (.t 44)) none none 4))] [p 46 4 4398046511104 42 45,m 4 46]) R)))))
def f157:=h 47 2 [0,1,3,4,5,6,18,32] [.tmp 4] Wo
def wD:=S (A [9] [m 6 5,m 7 0,n 8 7,z 9 .lss 6 8] 9 W (X 0)) (S (T 1 (S (d [17] [r 0 (m 12 0),r 1 (m 13 5),r 2 (a 14 12 13 4),w 3 (L 15 14 4) 0 0,w 4 (L 16 3 4) 0 0] [o 17 (.eqs ⟨true,[0,0,0,0]⟩ false (.t 15) (.t 16))]) (I 17 (F [4] [m 18 5,m 4 18]) W))) (t 5 10 11))
def Wp:=S (g [3,4] [b 3 1,K 4 0]) (S (S (g [5] [K 5 0]) (T 0 (M wD))) (F [4] [K 4 (-1)]))
def abw:=h 19 2 [0,1,3,4,5,9,17] [.tmp 4] Wp
@[simp]def QA:=g [31] [f 24 7 0,l 25 24,m 26 25,mT 27 10 26,fT 28 7 1 26,lT 29 28 26,zT 30 .lss 27 29 26,y 31 26 30]
def wE:=S (S QA (I 31 W (X 0))) (S (T 1 (g [9] [m 34 9,m 35 1,m 36 2,m 37 10,o 38 (.build [.x (.t 35) 1,.x (.t 36) 1,.x (.k (.int .u8 2)) 1,.x (.t 37) 1]),q 39 4 38,p 40 4 4398046511104 34 39,m 9 40])) (t 10 32 33))
def QB:=S (g [3,6] [b 3 0,Q 6]) (S (g [7,8] [L 12 3 4,m 13 1,m 14 2,J 15 145 12 13 14,m 11 15,x 16 11 0,x 17 11 1,o 7 (.alloc [.bool false,.int .i64 0]),s 2 7 16,m 8 17]) (S (A [19] [m 18 8,N 19 18] 19 (F [6] [Q 6]) W) (S (g [9] [m 20 1,m 21 2,o 22 (.build [.x (.t 20) 1,.x (.t 21) 1,.x (.k (.int .u8 1)) 1,.z [.int .i64 0]]),o 23 (.bsl 4 [.t 22]),m 9 23]) (S (S (g [10] [K 10 0]) (T 0 (M wE))) (F [6] [m 41 9,m 6 41])))))
def abx:=h 42 3 [0,1,2,3,6,7,8,9,10,19,31] [.tmp 6] QB
@[simp]def QC:=g [43] [m 32 12,f 33 9 1,l 34 33,z 35 .lss 32 34,m 36 35,mT 37 12 36,iT 38 .eql 37 0 36,mT 39 38 36,mF 40 3 39,G 41 (.bin false .eql (.t 40) (.k (.int .u8 1))) 39 false,YT 42 39 41 36,y 43 36 42]
def qD:=S (S QC (I 43 W (X 0))) (S (T 1 (g [11] [m 46 11,m 47 1,m 48 2,m 49 12,o 50 (.build [.x (.t 47) 1,.x (.t 48) 1,.x (.k (.int .u8 3)) 1,.x (.t 49) 1]),q 51 4 50,p 52 4 4398046511104 46 51,m 11 52])) (t 12 44 45))
def LX:=S (g [4,8] [b 4 0,Q 8]) (S (g [9,10] [L 14 4 4,m 15 1,m 16 2,J 17 145 14 15 16,m 13 17,x 18 13 0,x 19 13 1,o 9 (.alloc [.bool false,.int .i64 0]),s 2 9 18,m 10 19]) (S (A [21] [m 20 10,N 21 20] 21 (F [8] [Q 8]) W) (S (g [11] [Q 11]) (S (A [25] [L 22 4 4,m 23 1,m 24 2,J 25 146 22 23 24] 25 (g [11] [m 26 11,m 27 1,m 28 2,o 29 (.build [.x (.t 27) 1,.x (.t 28) 1,.x (.k (.int .u8 3)) 1,.x (.k (.int .i64 (-1))) 1]),q 30 4 29,p 31 4 4398046511104 26 30,m 11 31]) W) (S (S (g [12] [K 12 0]) (T 0 (M qD))) (F [8] [m 53 11,m 8 53]))))))
def aby:=h 54 4 [0,1,2,3,4,8,9,10,11,12,21,25,43] [.tmp 8] LX
def Wq:=S (g [1,2] [b 1 0,Z 2]) (F [2] [L 3 1 2,c 4 112 3,N 5 4,m 2 5])
def abz:=h 6 1 [0,1,2] [.tmp 2] Wq
def Wr:=S (g [4] [Z 4]) (F [4] [m 5 0,m 6 1,C 7 149 5 6,i 8 .geq 7 0,m 4 8])
def abA:=h 9 2 [0,1,4] [.tmp 4] Wr
def wF:=S (g [9] [z 9 .lss 8 7]) (S (I 9 W (X 0)) (S (T 1 (S (g [5] [m 10 8,m 5 10]) (A [16] [m 11 1,m 12 0,m 13 5,a 14 12 13 3,L 15 14 3,o 16 (.dyn (.t 11) [.t 15])] 16 (F [4] [m 17 5,m 4 17]) W))) (g [8] [i 18 .add 8 1,m 8 18])))
def Ws:=S (g [4] [K 4 0]) (S (S (g [7,8] [m 6 0,n 7 6,K 8 0]) (T 0 (M wF))) (F [4] [K 4 (-1)]))
def abB:=h 19 2 [0,1,4,5,7,8,9,16] [.tmp 4] Ws
@[simp]def QD:=g [43] [m 27 1,m 28 4,i 29 .add 28 1,f 30 5 1,L 31 30 2,f 32 2 0,f 33 32 3,l 34 33,m 35 34,fF 36 5 0 35,lF 37 36 35,nF 38 37 35,iF 39 .gtr 38 0 35,Y 40 35 39,o 41 (.build [.x (.t 29) 1,.x (.k (.int .i64 0)) 1,.x (.t 31) 2,.x (.t 40) 1]),o 42 (.dyn (.t 27) [.t 41]),N 43 42]
def oV:=S (g [48] [z 48 .lss 47 46]) (S (I 48 W (X 2)) (S (T 3 (S (g [7,6] [m 49 47,a 50 45 47 2,L 51 50 2,o 7 (.alloc [.bool false,.int .i64 0]),m 6 49,s 2 7 51]) (A [60] [m 52 1,m 53 4,i 54 .add 53 1,m 55 6,i 56 .add 55 1,L 57 7 2,o 58 (.build [.x (.t 54) 1,.x (.t 56) 1,.x (.t 57) 2,.x (.k (.bool true)) 1]),o 59 (.dyn (.t 52) [.t 58]),N 60 59] 60 R W))) (g [47] [i 61 .add 47 1,m 47 61])))
def oW:=S (g [23] [z 23 .lss 22 21]) (S (I 23 W (X 0)) (S (T 1 (S (g [5,4] [m 24 22,a 25 20 22 3,L 26 25 3,o 5 (.alloc [.ah,.bool false,.int .i64 0]),m 4 24,s 3 5 26]) (S (S QD (I 43 R W)) (S (g [45,46,47] [f 44 5 0,l 45 44,n 46 45,K 47 0]) (T 2 (M oV)))))) (g [22] [i 62 .add 22 1,m 22 62])))
def LY:=S (g [2] [b 2 0]) (S (A [17] [m 8 1,f 9 2 0,f 10 9 1,L 11 10 2,f 12 2 0,f 13 12 3,l 14 13,o 15 (.build [.x (.k (.int .i64 0)) 1,.x (.k (.int .i64 0)) 1,.x (.t 11) 2,.x (.t 14) 1]),o 16 (.dyn (.t 8) [.t 15]),N 17 16] 17 R W) (S (g [20,21,22] [f 18 2 0,f 19 18 0,l 20 19,n 21 20,K 22 0]) (T 0 (M oW))))
def abC:=h0 63 2 [0,1,2,4,5,6,7,17,20,21,22,23,43,45,46,47,48,60] [] LY
def LZ:=S (g [2,3,4,5] [b 2 0,b 3 1,Z 4,K 5 0]) (S (g [6,7] [L 11 2 4,c 12 113 11,m 10 12,x 13 10 0,x 14 10 1,o 6 (.alloc [.ah,.bool false,.int .i64 0,.bool false]),s 4 6 13,m 7 14]) (S (A [16] [m 15 7,i 16 .neq 15 0] 16 (F [4,5] [m 17 7,Z 4,m 5 17]) W) (S (g [9] [L 19 6 4,L 20 3 4,C 21 150 19 20,m 18 21,x 22 18 0,x 23 18 1,o 8 (.alloc [.int .i64 0,.int .i64 0,.bool false,.int .i64 0,.bool false]),s 5 8 22,m 9 23]) (F [4,5] [m 24 9,m 4 24,K 5 0]))))
def abD:=h 25 2 [0,1,2,3,4,5,6,7,9,16] [.tmp 4,.tmp 5] LZ
@[simp]def QE:=g [4] [m 18 0,k 19 18,f 20 19 4,l 21 20,n 22 21,i 23 .eql 22 0,m 24 23,LT 25 3 4 24,cT 26 152 25 24,y 27 24 26,m 28 27,LT 29 3 4 28,cT 30 153 29 28,NT 31 30 28,y 32 28 31,m 4 32]
@[simp]def QF:=g [4] [L 42 3 4,f 43 7 0,l 44 43,f 45 7 1,l 46 45,J 47 154 42 44 46,m 48 47,mT 49 0 48,LT 50 7 4 48,LT 51 3 4 48,G 52 (.call 155 [.t 49,.t 50,.t 51]) 48 true,y 53 48 52,m 4 53]
@[simp]def QG:=g [63] [m 54 0,k 55 54,f 56 55 9,l 57 56,m 58 57,mF 59 0 58,G 60 (.nck (.t 59)) 58 false,fF 61 60 10 58,lF 62 61 58,Y 63 58 62]
@[simp]def QH:=g [4] [L 69 3 4,c 70 158 69,m 71 70,fT 72 3 0 71,lT 73 72 71,fT 74 7 0 71,lT 75 74 71,zT 76 .eql 73 75 71,y 77 71 76,m 4 77]
def A1:=S (g [3,4] [b 3 1,Z 4]) (S (g [5,6] [m 9 0,k 10 9,f 11 10 8,L 12 11 1,c 13 151 12,m 8 13,x 14 8 0,x 15 8 1,m 5 14,m 6 15]) (S (A [17] [m 16 6,N 17 16] 17 (S QE R) W) (S (g [7] [m 33 0,k 34 33,f 35 34 4,l 36 35,m 37 5,a 38 36 37 4,L 39 38 4,o 7 (.alloc [.int .i64 0,.int .i64 0,.int .u8 0,.int .i64 0]),s 4 7 39]) (S (A [41] [L 40 3 4,c 41 153 40] 41 (S QF R) W) (S (S QG (I 63 (F [4] [Z 4]) W)) (S (A [66] [m 64 0,c 65 156 64,o 66 (.bin false .eql (.t 65) (.k (.int .u8 2)))] 66 (F [4] [L 67 3 4,c 68 157 67,m 4 68]) W) (S QH R)))))))
def abE:=h 78 2 [0,1,3,4,5,6,7,17,41,63,66] [.tmp 4] A1
@[simp]def QI:=g [3] [b 3 1]
@[simp]def QJ:=g [4] [m 10 0,k 11 10,f 12 11 8,L 13 12 1,c 14 151 13,m 9 14,x 15 9 0,x 16 9 1,m 4 15,m 5 16]
@[simp]def QK:=g [6] [m 17 0,k 18 17,f 19 18 4,l 20 19,n 21 20,m 6 21]
@[simp]def QL:=g [7,8] [K 7 (-1),K 8 (-1)]
@[simp]def QM:=g [22] [L 23 3 4,c 24 153 23,m 22 24]
@[simp]def QN:=g [7,8] [m 25 4,m 26 4,m 7 25,m 8 26]
@[simp]def QO:=g [] [m 27 0,k 28 27,f 29 28 5,l 30 29,m 31 4,m 32 6,a 33 30 31 1,s 1 33 32]
@[simp]def QP:=d [] [r 0 (m 34 0),r 1 (m 35 0),r 2 (k 36 35),r 3 (f 37 36 8),r 4 (f 38 37 0),w 5 (l 39 38) 0 0,r 6 (m 40 0),r 7 (k 41 40),r 8 (f 42 41 8),r 9 (f 43 42 0),w 10 (l 44 43) 0 0,w 11 (n 45 44) 0 0,r 12 (i 46 .sub 45 1),r 13 (o 47 (.slc (.t 39) none (some (.t 46)) none 1))] [k 48 34,f 49 48 8,f 50 49 0,s 1 50 47]
@[simp]def QQ:=g [51] [L 52 3 4,c 53 157 52,m 51 53]
@[simp]def QR:=g [8] [K 8 0]
@[simp]def L9:=g [54] [L 55 3 4,c 56 158 55,m 54 56]
@[simp]def Ma:=g [8] [m 57 4,m 8 57]
def qE:=T 0 (S QM (I 22 (S QN (S QO QP)) (S QQ (I 51 QR (S L9 (I 54 Ma W))))))
@[simp]def Mb:=d [] [r 1 (m 59 0),r 2 (k 60 59),r 3 (f 61 60 7),w 4 (l 62 61) 0 0,r 5 (m 63 0),r 6 (k 64 63),r 7 (f 65 64 9),w 8 (l 66 65) 0 0,r 9 (q 67 1 66),u 10 (p 68 1 140737488355328 62 67),r 0 (m 58 0)] [k 69 58,f 70 69 7,s 1 70 68]
@[simp]def uV:=g [83] [L 71 3 4,c 72 159 71,m 73 72,LT 74 3 4 73,cT 75 157 74 73,y 76 73 75,m 77 76,mT 78 0 77,G 79 (.nck (.t 78)) 77 true,fT 80 79 9 77,lT 81 80 77,NT 82 81 77,y 83 77 82]
@[simp]def A2:=g [] [m 84 0,k 85 84,f 86 85 10,e (.st 1 (.t 86) (.k (.bool true)))]
@[simp]def Mc:=g [] [m 87 0,L 88 3 4,c 89 159 88,m 90 89,LT 91 3 4 90,cT 92 158 91 90,y 93 90 92,k 94 87,f 95 94 9,s 1 95 93]
@[simp]def Md:=d [] [r 1 (m 97 0),r 2 (k 98 97),r 3 (f 99 98 4),w 4 (l 100 99) 0 0,w 5 (L 101 3 4) 0 0,r 6 (q 102 4 101),u 7 (p 103 4 4398046511104 100 102),r 0 (m 96 0)] [k 104 96,f 105 104 4,s 1 105 103]
@[simp]def Me:=d [] [r 2 (m 108 0),r 3 (k 109 108),r 4 (f 110 109 5),w 5 (l 111 110) 0 0,r 6 (m 112 7),r 7 (q 113 1 112),u 8 (p 114 1 17592186044416 111 113),r 9 (m 115 0),r 10 (k 116 115),r 11 (f 117 116 6),w 12 (l 118 117) 0 1,r 13 (m 119 8),r 14 (q 120 1 119),u 15 (p 121 1 17592186044416 118 120),r 0 (m 106 0),r 16 (k 122 106),r 17 (f 123 122 5),u 18 (s 1 123 114),r 1 (m 107 0)] [k 124 107,f 125 124 6,s 1 125 121]
@[simp]def Mf:=g [128] [L 126 3 4,c 127 153 126,N 128 127]
@[simp]def Mg:=g [] [m 129 0,m 130 0,k 131 130,f 132 131 8,f 133 132 0,l 134 133,m 135 6,q 136 1 135,p 137 1 17592186044416 134 136,k 138 129,f 139 138 8,f 140 139 0,s 1 140 137]
@[simp]def Mh:=d [] [r 0 (m 141 0),r 1 (m 142 0),r 2 (k 143 142),r 3 (f 144 143 11),w 4 (l 145 144) 0 0,r 5 (m 146 0),r 6 (k 147 146),r 7 (f 148 147 8),r 8 (f 149 148 0),w 9 (l 150 149) 0 0,w 10 (n 151 150) 0 0,r 11 (o 152 (.mm true (.t 145) (.t 151)))] [k 153 141,f 154 153 11,s 1 154 152]
def EC:=S QI (S QJ (S QK (S QL (S qE (S Mb (S (S uV (I 83 A2 W)) (S Mc (S Md (S Me (S (S Mf (I 128 Mg W)) Mh))))))))))
def abF:=h0 155 2 [0,1,3,4,6,7,8,22,51,54,83,128] [] EC
def QS:=S (g [2] [Z 2]) (F [2] [m 3 0,c 4 135 3,N 5 4,m 2 5])
def abG:=h 6 1 [0,2] [.tmp 2] QS
def wG:=S (g [8] [z 8 .lss 7 6]) (S (I 8 W (X 0)) (S (T 1 (S (g [3] [m 9 7,m 3 9]) (S (d [22] [r 0 (m 10 0),r 1 (m 11 3),r 2 (a 12 10 11 5),r 3 (f 13 12 0),w 4 (L 14 13 4) 0 0,r 5 (m 15 0),r 6 (m 16 3),r 7 (i 17 .add 16 1),r 8 (a 18 15 17 5),r 9 (f 19 18 0),w 10 (L 20 19 4) 0 0] [C 21 160 14 20,N 22 21]) (I 22 (F [2] [Z 2]) W)))) (g [7] [i 23 .add 7 1,m 7 23])))
def Wt:=S (g [2] [Z 2]) (S (S (g [6,7] [m 4 0,n 5 4,i 6 .sub 5 1,K 7 0]) (T 0 (M wG))) (F [2] [O 2]))
def abH:=h 24 1 [0,2,3,6,7,8,22] [.tmp 2] Wt
@[simp]def QT:=g [2] [f 3 1 0,l 4 3,n 5 4,f 6 1 1,l 7 6,n 8 7,o 9 (.mm true (.t 5) (.t 8)),i 10 .gtr 9 400,m 11 10,LF 12 1 2 11,cF 13 161 12 11,iF 14 .gtr 13 6000 11,Y 15 11 14,m 2 15]
def Wu:=S (g [1,2] [b 1 0,Z 2]) (S QT R)
def abI:=h 16 1 [0,1,2] [.tmp 2] Wu
@[simp]def QU:=g [2] [f 5 1 0,l 6 5,n 7 6,i 8 .gtr 7 0,m 9 8,fT 10 1 0 9,lT 11 10 9,nT 12 11 9,fT 13 1 1 9,lT 14 13 9,nT 15 14 9,zT 16 .eql 12 15 9,y 17 9 16,m 18 17,fT 19 1 0 18,lT 20 19 18,G 21 (.mkf 163 [] [.t 3]) 18 true,CT 22 138 20 21 18,NT 23 22 18,y 24 18 23,m 2 24]
def Mi:=S (g [1,2] [o 1 (.box (.t 0)),Z 2]) (S (g [3] [o 4 (.mkf 162 [] [.t 1]),o 3 (.alloc [.gG]),s 1 3 4]) (S QU R))
def abJ:=h 25 1 [0,1,2,3] [.tmp 2] Mi
def QV:=S (g [4] [Z 4]) (F [4] [m 5 0,m 6 1,C 7 165 5 6,i 8 .geq 7 0,m 4 8])
def abK:=h 9 2 [0,1,4] [.tmp 4] QV
@[simp]def QW:=g [4] [f 5 2 1,l 6 5,f 7 3 1,l 8 7,C 9 166 6 8,m 10 9,fT 11 2 0 10,lT 12 11 10,fT 13 3 0 10,lT 14 13 10,G 15 (.call 167 [.t 12,.t 14,.k (.fn 168 [] [])]) 10 true,y 16 10 15,m 4 16]
def QX:=S (g [2,3,4] [b 2 0,b 3 1,Z 4]) (S QW R)
def abL:=h 17 2 [0,1,2,3,4] [.tmp 4] QX
def A3:=S (g [18] [z 18 .lss 17 16]) (S (I 18 W (X 0)) (S (T 1 (S (g [4] [m 19 17,m 4 19]) (d [] [r 3 (f 23 1 0),w 4 (l 24 23) 0 0,r 5 (m 25 4),r 6 (a 26 24 25 1),w 7 (l 27 26) 0 0,r 8 (o 28 (.mkf 172 [] [.t 3])),u 9 (C 29 171 27 28),r 0 (f 20 1 0),w 1 (l 21 20) 0 1,r 2 (m 22 4)] [a 30 21 22 1,s 1 30 29]))) (g [17] [i 31 .add 17 1,m 17 31])))
def Js:=S (g [1,2] [b 1 0,o 2 (.alloc [.ah,.ah])]) (S (g [3] [L 7 1 2,c 8 169 7,o 3 (.alloc [.ah]),s 1 3 8]) (S (A [12] [l 9 3,o 10 (.ia (.t 9) (.k (.int .i64 0)) 1),l 11 10,N 12 11] 12 (F [] [j 13 170,s 2 2 13]) W) (S (S (g [16,17] [f 14 1 0,l 15 14,n 16 15,K 17 0]) (T 0 (M A3))) (S (g [5,6] [L 33 1 2,c 34 173 33,m 32 34,x 35 32 0,x 36 32 1,m 5 35,m 6 36]) (S (A [37] [m 37 6] 37 (g [5] [L 38 1 2,c 39 174 38,m 5 39]) W) (F [] [L 40 1 2,m 41 5,C 42 175 40 41,s 2 2 42]))))))
def abM:=h0 43 1 [0,1,2,3,4,5,6,12,16,17,18,37] [.cell 2 (some 2)] Js
def A4:=S (g [14] [z 14 .lss 13 12]) (S (I 14 W (X 0)) (S (T 1 (S (g [5] [a 15 11 13 1,l 16 15,m 5 16]) (d [] [r 2 (m 19 5),u 3 (c 20 177 19),r 0 (f 17 3 0),w 1 (l 18 17) 0 1,r 4 (q 21 1 20)] [p 22 1 5864062014805 18 21,f 23 3 0,s 1 23 22]))) (g [13] [i 24 .add 13 1,m 13 24])))
def Mj:=S (g [1,2] [b 1 0,o 2 (.alloc [.ah,.ah])]) (S (g [3] [f 6 1 1,l 7 6,c 8 176 7,o 9 (.build [.z [.ah],.x (.t 8) 1]),o 3 (.alloc [.ah,.ah]),s 2 3 9]) (S (S (g [11,12,13] [f 10 1 0,l 11 10,n 12 11,K 13 0]) (T 0 (M A4))) (F [] [L 25 3 2,s 2 2 25])))
def abN:=h0 26 1 [0,1,2,3,5,11,12,13,14] [.cell 2 (some 2)] Mj
@[simp]def QY:=g [4,5,6,8,9] [b 4 0,b 5 1,b 6 2,o 8 (.alloc [.ah,.bool false,.bool false]),Z 9]
@[simp]def QZ:=g [10,11] [L 19 5 4,L 20 6 4,C 21 131 19 20,m 18 21,x 22 18 0,x 23 18 1,m 10 22,m 11 23]
@[simp]def Q0:=g [29] [m 24 11,i 25 .neq 24 0,m 26 25,mF 27 10 26,NF 28 27 26,Y 29 26 28]
@[simp]def Q1:=g [9] [o 30 (.build [.z [.ah],.z [.bool false],.z [.bool false]]),s 3 8 30,Z 9]
@[simp]def Q2:=g [34] [f 31 4 0,l 32 31,n 33 32,i 34 .eql 33 0]
@[simp]def Q3:=d [9] [w 0 (L 35 6 4) 0 0,u 1 (o 36 (.bsl 4 [.t 35])),r 2 (o 37 (.build [.x (.t 36) 1,.z [.bool false],.z [.bool false]])),r 3 (m 38 3),r 4 (m 39 38),r 5 (fT 40 6 0 39),w 6 (lT 41 40 39) 0 1,r 7 (iT 42 .eql 41 0 39),r 8 (y 43 39 42),r 9 (m 44 43),u 14 (s 3 8 37),r 10 (fT 45 6 2 44),w 11 (lT 46 45 44) 0 2,r 12 (G 47 (.bin false .neq (.t 46) (.k (.int .u8 3))) 44 true),r 13 (y 48 44 47)] [m 9 48]
@[simp]def Q4:=g [12] [f 49 4 0,l 50 49,n 51 50,i 52 .sub 51 1,m 12 52]
@[simp]def Q5:=g [13] [f 53 4 0,l 54 53,m 55 12,a 56 54 55 4,L 57 56 4,o 13 (.alloc [.int .i64 0,.int .i64 0,.int .u8 0,.int .i64 0]),s 4 13 57]
@[simp]def Q6:=g [14] [f 58 13 0,l 59 58,i 60 .gtr 59 0,m 61 60,fT 62 13 1 61,lT 63 62 61,iT 64 .eql 63 0 61,y 65 61 64,m 14 65]
@[simp]def Q7:=g [68] [f 66 6 2,l 67 66,o 68 (.bin false .eql (.t 67) (.k (.int .u8 3)))]
@[simp]def Mk:=g [15] [f 69 6 3,l 70 69,i 71 .neq 70 (-1),m 72 71,fT 73 13 2 72,lT 74 73 72,G 75 (.bin false .eql (.t 74) (.k (.int .u8 1))) 72 true,mT 76 75 72,fF 77 6 3 76,lF 78 77 76,iF 79 .eql 78 0 76,YT 80 76 79 72,y 81 72 80,m 82 81,fF 83 6 3 82,lF 84 83 82,iF 85 .eql 84 (-1) 82,mF 86 85 82,fT 87 13 1 86,lT 88 87 86,iT 89 .gtr 88 0 86,mT 90 89 86,mF 91 14 90,mF 92 91 90,fT 93 5 3 92,lT 94 93 92,yF 95 92 94 90,YT 96 90 95 86,yF 97 86 96 82,Y 98 82 97,m 15 98]
@[simp]def Ml:=g [104] [f 99 4 1,l 100 99,m 101 100,fF 102 4 2 101,lF 103 102 101,Y 104 101 103]
@[simp]def Mm:=g [15] [f 105 6 3,l 106 105,i 107 .eql 106 (-1),m 15 107]
@[simp]def Mo:=d [16] [r 0 (f 108 4 0),w 1 (l 109 108) 0 0,r 2 (m 110 12),r 3 (o 111 (.slc (.t 109) none (some (.t 110)) none 4)),u 4 (c 112 178 111),w 5 (L 113 6 4) 0 1,u 6 (c 114 179 113),r 7 (m 115 114),r 12 (f 120 4 2),w 13 (l 121 120) 0 2,r 14 (m 122 121),w 15 (LF 123 6 4 122) 2 2,u 16 (cF 124 179 123 122),r 8 (fT 116 13 1 115),w 9 (lT 117 116 115) 2 4,r 10 (iT 118 .gtr 117 0 115),r 11 (y 119 115 118),r 17 (mF 125 124 122),r 18 (mT 126 14 125),r 19 (yF 127 125 126 122),r 20 (mF 128 127 122),r 21 (fT 129 4 1 128),w 22 (lT 130 129 128) 3 4,r 23 (NT 131 130 128),r 24 (yF 132 128 131 122),r 25 (Y 133 122 132),r 26 (o 134 (.build [.x (.t 112) 1,.x (.t 119) 1,.x (.t 133) 1])),v 27 (o 16 (.alloc [.ah,.bool false,.bool false]))] [s 3 16 134]
@[simp]def Mp:=d [9] [w 0 (L 135 16 3) 0 0,r 1 (m 136 15),r 2 (m 137 136),r 3 (fT 138 6 0 137),w 4 (lT 139 138 137) 0 0,r 5 (fT 140 13 0 137),w 6 (lT 141 140 137) 0 0,r 7 (zT 142 .eql 139 141 137),r 8 (y 143 137 142),r 9 (m 144 143),u 16 (s 3 8 135),r 10 (fT 145 6 1 144),w 11 (lT 146 145 144) 0 1,r 12 (fT 147 13 1 144),w 13 (lT 148 147 144) 0 1,r 14 (zT 149 .eql 146 148 144),r 15 (y 150 144 149)] [m 9 150]
@[simp]def Mq:=g [17] [L 151 6 4,o 152 (.call 180 [.t 151,.k (.bool false)]),m 17 152]
@[simp]def Mr:=g [153] [m 153 14]
@[simp]def Ms:=g [17] [L 154 6 4,o 155 (.call 180 [.t 154,.k (.bool true)]),m 156 155,fT 157 6 0 156,lT 158 157 156,fT 159 13 0 156,lT 160 159 156,zT 161 .eql 158 160 156,y 162 156 161,m 17 162]
@[simp]def Mt:=d [9] [r 0 (f 163 4 0),w 1 (l 164 163) 0 0,u 2 (c 165 178 164),w 3 (L 166 6 4) 0 1,r 4 (q 167 4 166),u 5 (p 168 4 4398046511104 165 167),r 6 (o 169 (.build [.x (.t 168) 1,.z [.bool false],.z [.bool false]])),r 7 (m 170 17),r 8 (m 171 170),r 9 (fT 172 4 1 171),w 10 (lT 173 172 171) 2 2,r 11 (NT 174 173 171),r 12 (y 175 171 174),r 13 (m 176 175),u 18 (s 3 8 169),r 14 (fT 177 4 2 176),w 15 (lT 178 177 176) 2 3,r 16 (NT 179 178 176),r 17 (y 180 176 179)] [m 9 180]
def qF:=S QY (S (S QZ (S Q0 (I 29 (S Q1 R) W))) (S (S Q2 (I 34 (S Q3 R) W)) (S Q4 (S Q5 (S Q6 (S (S Q7 (I 68 (S Mk (S (S Ml (I 104 Mm W)) (S Mo (S Mp R)))) W)) (S Mq (S (S Mr (I 153 Ms W)) (S Mt R)))))))))
def f168:=h 181 4 [0,1,2,3,4,5,6,8,9,10,11,12,13,14,15,16,17,29,34,68,104,153] [.cell 8 (some 3),.tmp 9] qF
def wH:=S (g [13] [z 13 .lss 12 11]) (S (I 13 W (X 0)) (S (T 1 (S (g [7] [a 14 10 12 4,L 15 14 4,o 7 (.alloc [.int .i64 0,.int .i64 0,.int .u8 0,.int .i64 0]),s 4 7 15]) (S (g [] [f 16 7 0,l 17 16,o 18 (.bin false .mul (.k (.int .i64 64)) (.t 17)),f 19 7 1,l 20 19,z 21 .add 18 20,i 22 .add 21 1,o 23 (.cnv .i32 (.t 22)),o 24 (.cis (.t 23)),o 25 (.bin false .add (.t 24) (.k (.str [32]))),C 26 181 4 25]) (g [] [f 27 7 2,l 28 27,o 29 (.cnv .i32 (.t 28)),o 30 (.cis (.t 29)),C 31 181 5 30])))) (g [12] [i 32 .add 12 1,m 12 32])))
def Wv:=S (g [1,2,3] [b 1 0,o 2 (.mv (.k (.str []))),o 3 (.mv (.k (.str [])))]) (S (g [4,5] [o 4 (.alb 188 [.dO,.ah]),o 5 (.alb 188 [.dO,.ah])]) (S (S (g [10,11,12] [f 9 1 0,l 10 9,n 11 10,K 12 0]) (T 0 (M wH))) (S (g [8] [o 33 .mkm,e (.mup ⟨false,[1]⟩ (.t 33) (.k (.bool false)) (.k (.str [110]))),e (.mup ⟨false,[1]⟩ (.t 33) (.k (.bool true)) (.k (.str [121]))),m 34 33,m 8 34]) (S (d [2,3] [u 0 (c 35 104 4),u 1 (c 36 104 5),r 2 (m 37 8),r 3 (f 38 1 1),w 4 (l 39 38) 0 2,w 5 (o 40 (.lkp ⟨false,[1]⟩ (.t 37) (.t 39) (.str []) false)) 0 2,r 6 (z 41 .add 36 40),r 7 (m 42 8),r 8 (f 43 1 2),w 9 (l 44 43) 0 2,w 10 (o 45 (.lkp ⟨false,[1]⟩ (.t 42) (.t 44) (.str []) false)) 0 2,r 11 (z 46 .add 41 45),r 12 (m 2 35)] [m 3 46]) R))))
def f169:=h 47 1 [0,1,2,3,4,5,7,8,10,11,12,13] [.tmp 2,.tmp 3] Wv
@[simp]def Q8:=g [41] [f 31 12 0,L 32 31 4,L 33 9 4,o 34 (.eqs ⟨true,[0,0,0,0]⟩ false (.t 32) (.t 33)),m 35 34,mT 36 2 35,fT 37 12 4 35,lT 38 37 35,aT 39 36 38 1 35,lT 40 39 35,y 41 35 40]
def sQ:=S (A [20] [m 13 11,f 14 5 0,l 15 14,m 16 3,a 17 15 16 1,l 18 17,n 19 18,z 20 .lss 13 19] 20 W (X 0)) (S (T 1 (S (g [12] [f 23 5 0,l 24 23,m 25 3,a 26 24 25 1,l 27 26,m 28 11,a 29 27 28 5,L 30 29 5,o 12 (.alloc [.int .i64 0,.int .i64 0,.int .u8 0,.int .i64 0,.int .i64 0]),s 5 12 30]) (S Q8 (I 41 (F [10] [m 42 1,f 43 12 4,l 44 43,a 45 42 44 1,l 46 45,m 10 46]) W)))) (t 11 21 22))
def Ww:=S (g [5,9,10] [b 5 0,b 9 4,K 10 0]) (S (S (g [11] [K 11 0]) (T 0 (M sQ))) (F [10] [K 10 (-1)]))
def abO:=h 47 5 [0,1,2,3,4,5,9,10,11,12,20,41] [.tmp 10] Ww
@[simp]def Q9:=g [14] [m 9 1,i 10 .eql 9 0,m 11 10,mT 12 2 11,iT 13 .eql 12 0 11,y 14 11 13]
def ED:=S (g [3,6,7] [b 3 0,o 6 (.alloc [.bool false,.int .i64 0]),Z 7]) (S (S Q9 (I 14 (F [7] [f 15 3 1,L 16 15 2,s 2 6 16,O 7]) W)) (S (A [22] [m 17 1,f 18 3 0,l 19 18,n 20 19,o 21 (.call 51 [.t 17,.k (.int .i64 1),.t 20]),N 22 21] 22 (F [7] [o 23 (.build [.z [.bool false],.z [.int .i64 0]]),s 2 6 23,Z 7]) W) (S (g [8] [f 24 3 0,l 25 24,m 26 1,i 27 .sub 26 1,a 28 25 27 3,L 29 28 3,o 8 (.alloc [.ah,.bool false,.int .i64 0]),s 3 8 29]) (S (A [31] [m 30 2,i 31 .eql 30 0] 31 (F [7] [f 32 8 1,L 33 32 2,s 2 6 33,O 7]) W) (S (A [39] [m 34 2,f 35 8 0,l 36 35,n 37 36,o 38 (.call 51 [.t 34,.k (.int .i64 1),.t 37]),N 39 38] 39 (F [7] [o 40 (.build [.z [.bool false],.z [.int .i64 0]]),s 2 6 40,Z 7]) W) (F [7] [f 41 8 0,l 42 41,m 43 2,i 44 .sub 43 1,a 45 42 44 2,L 46 45 2,s 2 6 46,O 7]))))))
def abP:=h 47 3 [0,1,2,3,6,7,8,14,22,31,39] [.cell 6 (some 2),.tmp 7] ED
@[simp]def Ra:=g [6] [m 7 2,i 8 .gtr 7 0,m 9 8,fF 10 3 3 9,lF 11 10 9,Y 12 9 11,m 13 12,mF 14 1 13,iF 15 .gtr 14 0 13,mF 16 15 13,fT 17 3 0 16,lT 18 17 16,mT 19 1 16,iT 20 .sub 19 1 16,aT 21 18 20 3 16,fT 22 21 0 16,lT 23 22 16,nT 24 23 16,iT 25 .gtr 24 0 16,yF 26 16 25 13,Y 27 13 26,m 6 27]
def Hx:=S (g [3,6] [b 3 0,Z 6]) (S Ra R)
def abQ:=h 28 3 [0,1,2,3,6] [.tmp 6] Hx
def wI:=S (g [9] [z 9 .lss 8 7]) (S (I 9 W (X 0)) (S (T 1 (S (g [5] [m 10 8,m 5 10]) (A [16] [m 11 1,m 12 0,m 13 5,a 14 12 13 2,L 15 14 2,o 16 (.dyn (.t 11) [.t 15])] 16 (F [4] [m 17 5,m 4 17]) W))) (g [8] [i 18 .add 8 1,m 8 18])))
def Wx:=S (g [4] [K 4 0]) (S (S (g [7,8] [m 6 0,n 7 6,K 8 0]) (T 0 (M wI))) (F [4] [K 4 (-1)]))
def abR:=h 19 2 [0,1,4,5,7,8,9,16] [.tmp 4] Wx
@[simp]def Rb:=g [2,3,4,5] [b 2 0,b 3 1,o 4 (.alloc [.int .i64 0,.int .i64 0,.bool false,.int .i64 0,.bool false]),o 5 (.alloc [.bool false])]
@[simp]def Rc:=g [6,7] [L 10 2 4,f 11 3 0,l 12 11,f 13 3 1,l 14 13,J 15 114 10 12 14,m 9 15,x 16 9 0,x 17 9 1,o 6 (.alloc [.int .i64 0,.int .i64 0,.bool false,.int .i64 0,.bool false]),s 5 6 16,m 7 17]
@[simp]def Re:=g [19] [m 18 7,N 19 18]
@[simp]def Rf:=g [] [L 20 6 5,s 5 4 20,e (.st 1 (.t 5) (.k (.bool false)))]
@[simp]def Rg:=g [22] [L 21 6 5,o 22 (.mkf 182 [.t 21] [])]
@[simp]def eo:=g [8] [o 8 (.alloc [.int .i64 0,.int .i64 0,.int .u8 0,.int .i64 0]),s 4 8 23]
@[simp]def Rh:=g [26] [L 24 8 4,L 25 3 4,o 26 (.eqs ⟨true,[0,0,0,0]⟩ false (.t 24) (.t 25))]
@[simp]def Ri:=g [] [L 27 6 5,s 5 4 27,e (.st 1 (.t 5) (.k (.bool true)))]
def ep:=T 1 (S Rh (I 26 (S Ri R) W))
def Jt:=T 0 (.rf (.t 22) [23] eo ep)
@[simp]def Rj:=g [] [L 28 6 5,s 5 4 28,e (.st 1 (.t 5) (.k (.bool false)))]
def Rk:=S Rb (S Rc (S (S Re (I 19 (S Rf R) W)) (S (S Rg Jt) (S Rj R))))
def abS:=h 29 2 [0,1,2,3,4,5,6,7,8,19,22,23,26] [.cell 4 (some 5),.cell 5 none] Rk
def Rl:=S (g [1,2,3] [b 1 0,K 2 0,Z 3]) (S (A [7] [f 4 1 0,l 5 4,n 6 5,i 7 .eql 6 0] 7 (F [2,3] [K 2 (-1),Z 3]) W) (F [2,3] [f 8 1 0,l 9 8,f 10 1 0,l 11 10,n 12 11,i 13 .sub 12 1,a 14 9 13 1,l 15 14,m 2 15,O 3]))
def f171:=h 16 1 [0,1,2,3,7] [.tmp 2,.tmp 3] Rl
def Wy:=S (g [1,2] [b 1 0,Z 2]) (F [2] [L 3 1 4,o 4 (.call 154 [.t 3,.k (.int .i64 0),.k (.int .i64 0)]),m 2 4])
def abT:=h 5 1 [0,1,2] [.tmp 2] Wy
def Wz:=S (g [1,2] [b 1 0,Z 2]) (F [2] [f 3 1 2,l 4 3,o 5 (.bin false .eql (.t 4) (.k (.int .u8 3))),m 2 5])
def abU:=h 6 1 [0,1,2] [.tmp 2] Wz
@[simp]def Rm:=g [6] [f 7 3 0,l 8 7,m 9 1,z 10 .eql 8 9,m 11 10,fT 12 3 1 11,lT 13 12 11,mT 14 2 11,zT 15 .eql 13 14 11,y 16 11 15,m 6 16]
def WA:=S (g [3,6] [b 3 0,Z 6]) (S Rm R)
def abV:=h 17 3 [0,1,2,3,6] [.tmp 6] WA
@[simp]def Rn:=g [7] [m 8 0,k 9 8,f 10 9 9,l 11 10,m 12 11,mF 13 0 12,G 14 (.nck (.t 13)) 12 false,fF 15 14 10 12,lF 16 15 12,Y 17 12 16,m 7 17]
@[simp]def Ro:=g [6] [L 23 4 4,c 24 158 23,m 25 24,LF 26 4 4 25,cF 27 157 26 25,mF 28 27 25,mT 29 0 28,G 30 (.nck (.t 29)) 28 true,fT 31 30 0 28,fT 32 31 3 28,lT 33 32 28,yF 34 28 33 25,Y 35 25 34,m 6 35]
@[simp]def Rp:=g [6] [f 36 4 2,l 37 36,o 38 (.bin false .eql (.t 37) (.k (.int .u8 1))),m 39 38,fF 40 5 3 39,lF 41 40 39,iF 42 .eql 41 0 39,Y 43 39 42,m 6 43]
def Hy:=S (g [4,5,6] [b 4 1,b 5 2,Z 6]) (S (T 0 (S Rn (I 7 (F [6] [L 18 5 4,c 19 159 18,m 6 19]) (A [20] [L 21 5 4,c 22 159 21,m 20 22] 20 (S Ro R) W)))) (S Rp R))
def abW:=h 44 3 [0,1,2,4,5,6,7,20] [.tmp 6] Hy
@[simp]def Rq:=g [16] [m 17 4,m 18 17,mT 19 0 18,G 20 (.nck (.t 19)) 18 true,fT 21 20 4 18,lT 22 21 18,mT 23 3 18,aT 24 22 23 4 18,LT 25 24 4 18,cT 26 157 25 18,NT 27 26 18,y 28 18 27,m 16 28]
def Ju:=S (g [2] [o 2 (.mv (.k (.int .u8 0)))]) (S (g [3,4] [m 6 0,k 7 6,f 8 7 8,L 9 8 1,c 10 151 9,m 5 10,x 11 5 0,x 12 5 1,m 3 11,m 4 12]) (S (T 0 (A [13] [m 14 0,c 15 183 14,m 13 15] 13 (F [2] [o 2 (.mv (.k (.int .u8 3)))]) (S Rq (I 16 (F [2] [o 2 (.mv (.k (.int .u8 2)))]) W)))) (F [2] [o 2 (.mv (.k (.int .u8 1)))])))
def f176:=h 29 1 [0,2,3,4,13,16] [.tmp 2] Ju
@[simp]def Rr:=g [2] [f 3 1 0,l 4 3,i 5 .gtr 4 0,m 6 5,fT 7 1 1 6,lT 8 7 6,iT 9 .eql 8 0 6,y 10 6 9,m 2 10]
def WB:=S (g [1,2] [b 1 0,Z 2]) (S Rr R)
def f177:=h 11 1 [0,1,2] [.tmp 2] WB
@[simp]def Ru:=g [2] [f 3 1 0,l 4 3,i 5 .gtr 4 0,m 6 5,fT 7 1 1 6,lT 8 7 6,iT 9 .gtr 8 0 6,y 10 6 9,m 2 10]
def WC:=S (g [1,2] [b 1 0,Z 2]) (S Ru R)
def f178:=h 11 1 [0,1,2] [.tmp 2] WC
@[simp]def Rv:=g [2] [L 3 1 4,c 4 153 3,m 5 4,fT 6 1 3 5,lT 7 6 5,iT 8 .eql 7 (-1) 5,y 9 5 8,m 2 9]
def Rw:=S (g [1,2] [b 1 0,Z 2]) (S Rv R)
def abX:=h 10 1 [0,1,2] [.tmp 2] Rw
def WD:=S (g [2,3,4] [b 2 0,b 3 1,Z 4]) (S (d [4] [r 0 (f 5 2 0),w 1 (l 6 5) 0 0,r 2 (f 7 3 0),w 3 (l 8 7) 0 0,u 4 (C 9 185 6 8),r 5 (f 10 2 1),w 6 (l 11 10) 0 1,r 7 (f 12 3 1),w 8 (l 13 12) 0 1,u 9 (C 14 185 11 13),r 10 (f 15 2 2),w 11 (l 16 15) 0 2,r 12 (f 17 3 2),w 13 (l 18 17) 0 2,u 14 (C 19 186 16 18),r 15 (f 20 2 3),w 16 (l 21 20) 0 3,r 17 (f 22 3 3),w 18 (l 23 22) 0 3] [C 24 185 21 23,o 25 (.fbl 1 [.t 9,.t 14,.t 19,.t 24]),c 26 184 25,i 27 .lss 26 0,m 4 27]) R)
def abY:=h 28 2 [0,1,2,3,4] [.tmp 4] WD
def A5:=S (g [9] [z 9 .lss 8 7]) (S (I 9 W (X 0)) (S (T 1 (S (g [4] [a 10 6 8 1,l 11 10,m 4 11]) (g [2] [m 12 2,m 13 4,n 14 13,z 15 .add 12 14,m 2 15]))) (g [8] [i 16 .add 8 1,m 8 16])))
def WE:=S (g [1,2] [b 1 0,K 2 0]) (S (S (g [6,7,8] [f 5 1 0,l 6 5,n 7 6,K 8 0]) (T 0 (M A5))) (F [2] [m 17 2,m 2 17]))
def abZ:=h 18 1 [0,1,2,4,6,7,8,9] [.tmp 2] WE
@[simp]def Rx:=g [3] [f 4 2 4,l 5 4,i 6 .lss 5 0,m 7 6,fF 8 2 4 7,lF 9 8 7,fF 10 1 0 7,lF 11 10 7,nF 12 11 7,zF 13 .geq 9 12 7,Y 14 7 13,m 3 14]
def Ry:=S (g [2,3] [b 2 0,Z 3]) (S Rx R)
def ab0:=h 15 2 [0,1,2,3] [.tmp 3] Ry
def WG:=S (g [3] [Z 3]) (F [3] [m 4 0,l 5 1,C 6 164 4 5,m 3 6])
def ab1:=h 7 2 [0,1,3] [.tmp 3] WG
def WH:=S (g [4] [Z 4]) (F [4] [m 5 0,m 6 1,C 7 187 5 6,i 8 .geq 7 0,m 4 8])
def ab2:=h 9 2 [0,1,4] [.tmp 4] WH
def ns:=S (g [9] [z 9 .lss 8 7]) (S (I 9 W (X 0)) (S (T 1 (S (g [5] [m 10 8,m 5 10]) (A [16] [m 11 1,m 12 0,m 13 5,a 14 12 13 1,l 15 14,o 16 (.dyn (.t 11) [.t 15])] 16 (F [4] [m 17 5,m 4 17]) W))) (g [8] [i 18 .add 8 1,m 8 18])))
def Rz:=S (g [4] [K 4 0]) (S (S (g [7,8] [m 6 0,n 7 6,K 8 0]) (T 0 (M ns))) (F [4] [K 4 (-1)]))
def ab3:=h 19 2 [0,1,4,5,7,8,9,16] [.tmp 4] Rz
def wJ:=S (g [14] [z 14 .lss 13 12]) (S (I 14 W (X 0)) (S (T 1 (S (g [5] [m 15 13,m 5 15]) (S (d [24] [r 0 (m 16 0),r 1 (m 17 5),r 2 (a 18 16 17 1),w 3 (l 19 18) 0 0,r 4 (m 20 1),r 5 (m 21 5),r 6 (a 22 20 21 1),w 7 (l 23 22) 0 0] [o 24 (.bin true .neq (.t 19) (.t 23))]) (I 24 (F [4] [Z 4]) W)))) (g [13] [i 25 .add 13 1,m 13 25])))
def RA:=S (g [4] [Z 4]) (S (A [10] [m 6 0,n 7 6,m 8 1,n 9 8,z 10 .neq 7 9] 10 (F [4] [Z 4]) W) (S (S (g [12,13] [m 11 0,n 12 11,K 13 0]) (T 0 (M wJ))) (F [4] [O 4])))
def ab4:=h 26 2 [0,1,4,5,10,12,13,14,24] [.tmp 4] RA
def wK:=S (g [18] [z 18 .lss 17 16]) (S (I 18 W (X 0)) (S (T 1 (S (g [7,8] [m 19 17,a 20 15 17 1,l 21 20,m 7 19,m 8 21]) (S (g [9] [m 22 1,m 23 7,a 24 22 23 1,l 25 24,m 9 25]) (A [30] [m 26 2,m 27 8,m 28 9,o 29 (.dyn (.t 26) [.t 27,.t 28]),N 30 29] 30 (F [6] [Z 6]) W)))) (g [17] [i 31 .add 17 1,m 17 31])))
def RB:=S (g [6] [Z 6]) (S (A [14] [m 10 0,n 11 10,m 12 1,n 13 12,z 14 .neq 11 13] 14 (F [6] [Z 6]) W) (S (S (g [15,16,17] [m 15 0,n 16 15,K 17 0]) (T 0 (M wK))) (F [6] [O 6])))
def ab5:=h 32 3 [0,1,2,6,7,8,9,14,15,16,17,18,30] [.tmp 6] RB
def wL:=S (g [14] [z 14 .lss 13 12]) (S (I 14 W (X 0)) (S (T 1 (S (g [5] [m 15 13,m 5 15]) (S (d [24] [r 0 (m 16 0),r 1 (m 17 5),r 2 (a 18 16 17 5),w 3 (L 19 18 5) 0 0,r 4 (m 20 1),r 5 (m 21 5),r 6 (a 22 20 21 5),w 7 (L 23 22 5) 0 0] [o 24 (.eqs ⟨true,[0,0,0,0,0]⟩ true (.t 19) (.t 23))]) (I 24 (F [4] [Z 4]) W)))) (g [13] [i 25 .add 13 1,m 13 25])))
def RC:=S (g [4] [Z 4]) (S (A [10] [m 6 0,n 7 6,m 8 1,n 9 8,z 10 .neq 7 9] 10 (F [4] [Z 4]) W) (S (S (g [12,13] [m 11 0,n 12 11,K 13 0]) (T 0 (M wL))) (F [4] [O 4])))
def ab6:=h 26 2 [0,1,4,5,10,12,13,14,24] [.tmp 4] RC
def wM:=S (g [30] [z 30 .lss 29 28]) (S (I 30 W (X 2)) (S (T 3 (S (g [7] [a 31 27 29 5,L 32 31 5,o 7 (.alloc [.int .i64 0,.int .i64 0,.int .u8 0,.int .i64 0,.int .i64 0]),s 5 7 32]) (d [] [r 3 (m 36 3),r 4 (f 37 7 4),w 5 (l 38 37) 0 0,r 6 (a 39 36 38 1),w 7 (l 40 39) 0 0,r 8 (m 41 4),r 9 (q 42 1 41),u 10 (p 43 1 17592186044416 40 42),r 0 (m 33 3),r 1 (f 34 7 4),w 2 (l 35 34) 0 1] [a 44 33 35 1,s 1 44 43]))) (g [29] [i 45 .add 29 1,m 29 45])))
def wN:=S (g [23] [z 23 .lss 22 21]) (S (I 23 W (X 0)) (S (T 1 (S (g [4,5] [m 24 22,a 25 20 22 1,l 26 25,m 4 24,m 5 26]) (S (g [27,28,29] [m 27 5,n 28 27,K 29 0]) (T 2 (M wM))))) (g [22] [i 46 .add 22 1,m 22 46])))
def sR:=S (g [53] [z 53 .lss 52 51]) (S (I 53 W (X 4)) (S (T 5 (S (g [10,11] [m 54 52,a 55 50 52 1,l 56 55,m 10 54,m 11 56]) (A [57] [m 57 11] 57 (g [9] [m 58 9,m 59 10,q 60 1 59,p 61 1 17592186044416 58 60,m 9 61]) W))) (g [52] [i 62 .add 52 1,m 52 62])))
def sS:=S (g [83] [z 83 .lss 82 81]) (S (I 83 W (X 8)) (S (T 9 (S (g [14] [a 84 80 82 1,l 85 84,m 14 85]) (A [90] [m 86 8,m 87 14,a 88 86 87 1,l 89 88,N 90 89] 90 (S (g [] [m 91 8,m 92 14,a 93 91 92 1,e (.st 1 (.t 93) (.k (.bool true)))]) (g [9] [m 94 9,m 95 14,q 96 1 95,p 97 1 17592186044416 94 96,m 9 97])) W))) (g [82] [i 98 .add 82 1,m 82 98])))
def sU:=S (A [65] [m 63 9,n 64 63,i 65 .gtr 64 0] 65 W (X 6)) (T 7 (S (g [12] [m 66 9,m 67 9,n 68 67,i 69 .sub 68 1,a 70 66 69 1,l 71 70,m 12 71]) (S (g [9] [m 72 9,m 73 9,n 74 73,i 75 .sub 74 1,o 76 (.slc (.t 72) none (some (.t 75)) none 1),m 9 76]) (S (g [80,81,82] [m 77 3,m 78 12,a 79 77 78 1,l 80 79,n 81 80,K 82 0]) (T 8 (M sS))))))
def RD:=S (g [1,2] [b 1 0,Q 2]) (S (g [3] [f 15 1 0,l 16 15,n 17 16,o 18 (.mks 1 5864062014805 [.ah] (.t 17) (.t 17)),m 3 18]) (S (S (g [20,21,22] [f 19 1 0,l 20 19,n 21 20,K 22 0]) (T 0 (M wN))) (S (g [8] [f 47 1 1,l 48 47,c 49 176 48,m 8 49]) (S (g [9] [Q 9]) (S (S (g [50,51,52] [m 50 8,n 51 50,K 52 0]) (T 4 (M sR))) (S (T 6 (M sU)) (F [2] [m 99 8,m 2 99])))))))
def f195:=h 100 1 [0,1,2,3,4,5,7,8,9,10,11,12,14,20,21,22,23,27,28,29,30,50,51,52,53,57,65,80,81,82,83,90] [.tmp 2] RD
def WJ:=S (g [0] [o 0 (.alloc [.ah,.ah])]) (F [] [o 1 (.bsl 1 [.k .ah]),o 2 (.bsl 1 [.k (.bool false)]),o 3 (.build [.x (.t 1) 1,.x (.t 2) 1]),s 2 0 3])
def ab7:=h 4 0 [0] [.cell 0 (some 2)] WJ
def RE:=S (A [19] [m 16 6,m 17 0,n 18 17,z 19 .lss 16 18] 19 W (X 0)) (S (T 1 (S (g [7] [m 22 0,m 23 6,a 24 22 23 5,L 25 24 5,o 7 (.alloc [.int .i64 0,.int .i64 0,.int .u8 0,.int .i64 0,.int .i64 0]),s 5 7 25]) (A [29] [m 26 1,L 27 7 5,o 28 (.dyn (.t 26) [.t 27]),N 29 28] 29 (S (g [] [m 30 0,m 31 5,L 32 7 5,a 33 30 31 5,s 5 33 32]) (t 5 34 35)) W))) (t 6 20 21))
def Mu:=S (g [4] [Q 4]) (S (g [5] [m 8 0,m 9 1,C 10 187 8 9,m 5 10]) (S (A [12] [m 11 5,i 12 .eql 11 (-1)] 12 (F [4] [m 13 0,m 4 13]) W) (S (S (g [6] [m 14 5,i 15 .add 14 1,m 6 15]) (T 0 (M RE))) (S (g [] [m 36 0,m 37 5,o 38 (.slc (.t 36) (some (.t 37)) none none 5),e (.clr 5 [.int .i64 0,.int .i64 0,.int .u8 0,.int .i64 0,.int .i64 0] (.t 38))]) (F [4] [m 39 0,m 40 5,o 41 (.slc (.t 39) none (some (.t 40)) none 5),m 4 41])))))
def ab8:=h0 42 2 [0,1,4,5,6,7,12,19,29] [.tmp 4] Mu
def WK:=S (g [2,3] [b 2 0,Z 3]) (F [3] [l 4 1,f 5 2 4,l 6 5,a 7 4 6 1,l 8 7,N 9 8,m 3 9])
def ab9:=h 10 2 [0,1,2,3] [.tmp 3] WK
def RG:=S (g [1,2,3] [o 1 (.box (.t 0)),o 2 (.alloc [.ah]),o 3 (.alloc [.bool false])]) (S (g [] [o 7 (.bsl 1 [.k (.int .i64 (-1))]),f 8 1 0,l 9 8,n 10 9,C 11 188 7 10,s 1 2 11]) (S (g [4] [f 12 1 0,l 13 12,n 14 13,o 15 (.mks 1 140737488355328 [.bool false] (.t 14) (.t 14)),o 4 (.alloc [.ah]),s 1 4 15]) (S (g [5] [o 16 .mkm,o 5 (.alloc [.fK]),s 1 5 16]) (S (g [6] [o 6 (.alloc [.gG])]) (S (g [] [o 17 (.mkf 189 [] [.t 4,.t 1,.t 3,.t 2,.t 6,.t 5]),s 1 6 17]) (S (g [] [l 18 6,o 19 (.dyn (.t 18) [.k (.int .i64 0)])]) (S (d [] [w 0 (l 20 2) 0 0,u 2 (s 1 2 20),w 1 (l 21 3) 0 1] [s 1 3 21]) R)))))))
def f199:=h 22 1 [0,1,2,3,4,5,6] [.cell 2 none,.cell 3 none] RG
def wO:=S (g [19] [z 19 .lss 18 17]) (S (I 19 W (X 2)) (S (T 3 (S (g [7] [m 20 18,m 7 20]) (d [] [r 3 (m 24 3),r 4 (m 25 7),r 5 (a 26 24 25 1),w 6 (l 27 26) 0 0,u 7 (c 28 192 27),w 9 (L 30 1 2) 0 1,r 10 (m 31 7),r 11 (m 32 3),u 12 (J 33 191 30 31 32),r 2 (m 23 5),r 8 (o 29 (.bin false .add (.t 28) (.k (.str [32])))),r 13 (z 34 .add 29 33),u 14 (C 35 190 23 34),r 0 (m 21 6),r 1 (m 22 7)] [a 36 21 22 1,s 1 36 35]))) (g [18] [i 37 .add 18 1,m 18 37])))
def EE:=T 1 (S (g [5] [o 12 .mkm,m 5 12]) (S (g [6] [m 13 3,n 14 13,o 15 (.mks 1 17592186044416 [.int .i64 0] (.t 14) (.t 14)),m 6 15]) (S (S (g [17,18] [m 16 3,n 17 16,K 18 0]) (T 2 (M wO))) (S (g [3] [m 38 6,m 3 38]) (S (A [42] [m 39 5,o 40 (.len 2 (.t 39)),m 41 4,z 42 .eql 40 41] 42 (F [2] [m 43 3,m 2 43]) W) (g [4] [m 44 5,o 45 (.len 2 (.t 44)),m 4 45]))))))
def RH:=S (g [1,2] [b 1 0,Q 2]) (S (g [3] [f 8 1 0,l 9 8,n 10 9,o 11 (.mks 1 17592186044416 [.int .i64 0] (.t 10) (.t 10)),m 3 11]) (S (g [4] [K 4 0]) (T 0 (M EE))))
def f200:=h 46 1 [0,1,2,3,4,5,6,7,17,18,19,42] [.tmp 2] RH
def wP:=S (g [32] [z 32 .lss 31 30]) (S (I 32 W (X 2)) (S (T 3 (S (g [11] [a 33 29 31 5,L 34 33 5,o 11 (.alloc [.int .i64 0,.int .i64 0,.int .u8 0,.int .i64 0,.int .i64 0]),s 5 11 34]) (d [9] [r 3 (m 38 7),r 4 (f 39 11 4),w 5 (l 40 39) 0 0,u 6 (o 41 (.dyn (.t 38) [.t 40])),r 0 (m 35 9),r 1 (f 36 11 0),w 2 (L 37 36 4) 0 1,r 7 (o 42 (.build [.x (.t 37) 4,.x (.t 41) 1])),r 8 (q 43 5 42)] [p 44 5 3518437208883 35 43,m 9 44]))) (g [31] [i 45 .add 31 1,m 31 45])))
def wQ:=S (A [19] [m 16 8,l 17 6,n 18 17,z 19 .lss 16 18] 19 W (X 0)) (S (T 1 (S (g [9] [Q 9]) (S (S (d [29,30,31] [r 0 (f 22 2 0),w 1 (l 23 22) 0 0,w 2 (l 24 6) 0 0,r 3 (m 25 8),r 4 (a 26 24 25 1),w 5 (l 27 26) 0 0,r 6 (a 28 23 27 1),w 7 (l 29 28) 0 0,w 8 (n 30 29) 0 0,r 9 (K 31 0)] []) (T 2 (M wP))) (d [] [r 0 (f 46 4 0),w 1 (l 47 46) 0 0,r 2 (m 48 9),r 3 (q 49 1 48),u 4 (p 50 1 5864062014805 47 49),r 5 (f 51 4 1),w 6 (l 52 51) 0 1,r 7 (f 53 2 1),w 8 (l 54 53) 0 1,w 9 (l 55 6) 0 1,r 10 (m 56 8),r 11 (a 57 55 56 1),w 12 (l 58 57) 0 1,r 13 (a 59 54 58 1),w 14 (l 60 59) 0 1,r 15 (q 61 1 60),u 16 (p 62 1 140737488355328 52 61),r 17 (f 63 4 0)] [s 1 63 50,f 64 4 1,s 1 64 62])))) (t 8 20 21))
def RI:=S (g [2,3,4] [b 2 0,o 3 (.box (.t 1)),o 4 (.alloc [.ah,.ah])]) (S (g [5] [o 12 .mkm,o 5 (.alloc [.fK]),s 1 5 12]) (S (g [6] [o 6 (.alloc [.ah])]) (S (g [7] [o 13 (.mkf 193 [] [.t 5,.t 3,.t 6]),m 7 13]) (S (g [] [m 14 7,o 15 (.dyn (.t 14) [.k (.int .i64 0)])]) (S (S (g [8] [K 8 0]) (T 0 (M wQ))) (F [] [L 65 4 2,s 2 4 65]))))))
def f201:=h 66 2 [0,1,2,3,4,5,6,7,8,9,11,19,29,30,31,32] [.cell 4 (some 2)] RI
def Jv:=S (g [2] [Q 2]) (S (A [4] [m 3 0,o 4 (.niq 0 false (.t 3))] 4 (F [2] [Q 2]) W) (F [2] [o 5 (.bsl 1 []),m 6 0,p 7 1 140737488355328 5 6,m 2 7]))
def f202:=h0 8 1 [0,2,4] [.tmp 2] Jv
def RJ:=S (g [2] [Q 2]) (S (A [4] [m 3 0,o 4 (.niq 0 false (.t 3))] 4 (F [2] [Q 2]) W) (F [2] [o 5 (.bsl 5 []),m 6 0,p 7 5 3518437208883 5 6,m 2 7]))
def f203:=h 8 1 [0,2,4] [.tmp 2] RJ
def Jw:=S (g [2] [Q 2]) (S (A [4] [m 3 0,o 4 (.niq 0 false (.t 3))] 4 (F [2] [Q 2]) W) (F [2] [o 5 (.bsl 4 []),m 6 0,p 7 4 4398046511104 5 6,m 2 7]))
def f204:=h0 8 1 [0,2,4] [.tmp 2] Jw
@[simp]def RK:=g [2] [f 3 1 2,l 4 3,o 5 (.bin false .eql (.t 4) (.k (.int .u8 3))),m 6 5,fT 7 1 3 6,lT 8 7 6,iT 9 .eql 8 (-1) 6,y 10 6 9,m 2 10]
def WL:=S (g [1,2] [b 1 0,Z 2]) (S RK R)
def aca:=h 11 1 [0,1,2] [.tmp 2] WL
@[simp]def RL:=g [4] [f 5 2 2,l 6 5,o 7 (.bin false .neq (.t 6) (.k (.int .u8 3))),m 8 7,fT 9 2 0 8,lT 10 9 8,iT 11 .gtr 10 0 8,y 12 8 11,m 13 12,fT 14 2 1 13,lT 15 14 13,iT 16 .gtr 15 0 13,mT 17 1 13,G 18 (.bin true .eql (.t 16) (.t 17)) 13 true,y 19 13 18,m 4 19]
def RM:=S (g [2,4] [b 2 0,Z 4]) (S RL R)
def acb:=h 20 2 [0,1,2,4] [.tmp 4] RM
def EF:=S (g [4,5] [K 4 0,o 5 (.mv (.k .fQ))]) (S (g [] [m 6 0,c 7 126 6]) (S (g [] [m 8 0,m 9 0,k 10 9,f 11 10 1,l 12 11,m 13 1,o 14 (.aps 140737488355328 (some 5) (.t 12) (.t 13)),k 15 8,f 16 15 1,s 1 16 14]) (F [4,5] [m 17 1,o 18 (.len 1 (.t 17)),m 4 18,o 5 (.mv (.k .fQ))])))
def acd:=h0 19 2 [0,1,4,5] [.tmp 4,.tmp 5] EF
@[simp]def RN:=g [2,3] [b 2 0,b 3 1]
@[simp]def RO:=d [14,15,16] [w 2 (L 9 2 5) 0 0,r 3 (f 10 2 2),r 4 (f 11 10 1),w 5 (l 12 11) 0 0,u 6 (C 13 195 9 12),w 0 (L 7 2 5) 0 1,r 1 (o 8 (.mkf 194 [.t 7] [])),u 7 (o 14 (.bsl 1 [.t 8,.t 13])),w 8 (n 15 14) 2 2,r 9 (K 16 0)] []
@[simp]def RP:=g [17] [z 17 .lss 16 15]
@[simp]def RQ:=g [5] [a 18 14 16 1,l 19 18,m 5 19]
@[simp]def RR:=g [20] [m 20 5]
@[simp]def dU:=g [6] [o 6 (.alloc [.int .i64 0,.int .i64 0,.int .u8 0,.int .i64 0]),s 4 6 21]
@[simp]def RS:=g [25] [l 22 3,L 23 6 4,o 24 (.dyn (.t 22) [.t 23]),N 25 24]
def ec:=T 3 (S RS (I 25 R W))
def EG:=T 2 (.rf (.t 20) [21] dU ec)
def EH:=T 1 (S RQ (S RR EG))
@[simp]def RT:=g [16] [i 26 .add 16 1,m 16 26]
def wR:=S RP (S (I 17 W (X 0)) (S EH RT))
def Jx:=T 0 (M wR)
def RU:=S RN (S RO Jx)
def f208:=h0 27 2 [0,1,2,3,5,6,14,15,16,17,20,21,25] [] RU
@[simp]def RV:=g [2] [m 3 0,k 4 3,f 5 4 4,l 6 5,n 7 6,i 8 .gtr 7 0,m 9 8,mT 10 0 9,G 11 (.nck (.t 10)) 9 true,fT 12 11 8 9,fT 13 12 0 9,lT 14 13 9,nT 15 14 9,iT 16 .eql 15 0 9,y 17 9 16,m 2 17]
def Mw:=S (g [2] [Z 2]) (S RV R)
def ace:=h 18 1 [0,2] [.tmp 2] Mw
def wS:=S (g [9] [z 9 .lss 8 7]) (S (I 9 W (X 0)) (S (T 1 (S (g [5] [a 10 6 8 1,l 11 10,m 5 11]) (A [14] [m 12 5,m 13 3,z 14 .neq 12 13] 14 (F [2] [m 15 5,m 2 15]) W))) (g [8] [i 16 .add 8 1,m 8 16])))
def WM:=S (g [2] [K 2 0]) (S (g [3] [K 3 0]) (S (S (g [6,7,8] [m 6 0,n 7 6,K 8 0]) (T 0 (M wS))) (F [2] [m 17 3,m 2 17])))
def acf:=h 18 1 [0,2,3,5,6,7,8,9,14] [.tmp 2] WM
def RW:=S (g [4] [K 4 0]) (S (g [5] [m 7 0,c 8 196 7,m 5 8]) (S (g [6] [m 9 1,c 10 196 9,m 6 10]) (S (A [11] [m 11 5] 11 (S (A [12] [m 12 6] 12 (F [4] [K 4 0]) W) (F [4] [K 4 (-1)])) W) (S (A [13] [m 13 6] 13 (F [4] [K 4 1]) W) (S (A [16] [m 14 0,m 15 1,z 16 .lss 14 15] 16 (F [4] [K 4 (-1)]) W) (S (A [19] [m 17 0,m 18 1,z 19 .gtr 17 18] 19 (F [4] [K 4 1]) W) (F [4] [K 4 0])))))))
def acg:=h 20 2 [0,1,4,5,6,11,12,13,16,19] [.tmp 4] RW
def RX:=S (g [4] [K 4 0]) (S (g [5] [m 7 0,c 8 197 7,m 5 8]) (S (g [6] [m 9 1,c 10 197 9,m 6 10]) (S (A [11] [m 11 5] 11 (S (A [12] [m 12 6] 12 (F [4] [K 4 0]) W) (F [4] [K 4 (-1)])) W) (S (A [13] [m 13 6] 13 (F [4] [K 4 1]) W) (S (A [16] [m 14 0,m 15 1,z 16 .lss 14 15] 16 (F [4] [K 4 (-1)]) W) (S (A [19] [m 17 0,m 18 1,z 19 .gtr 17 18] 19 (F [4] [K 4 1]) W) (F [4] [K 4 0])))))))
def ach:=h 20 2 [0,1,4,5,6,11,12,13,16,19] [.tmp 4] RX
def nu:=S (g [9] [z 9 .lss 8 7]) (S (I 9 W (X 0)) (S (T 1 (S (g [5] [m 10 8,m 5 10]) (A [16] [m 11 1,m 12 0,m 13 5,a 14 12 13 5,L 15 14 5,o 16 (.dyn (.t 11) [.t 15])] 16 (F [4] [m 17 5,m 4 17]) W))) (g [8] [i 18 .add 8 1,m 8 18])))
def RY:=S (g [4] [K 4 0]) (S (S (g [7,8] [m 6 0,n 7 6,K 8 0]) (T 0 (M nu))) (F [4] [K 4 (-1)]))
def aci:=h 19 2 [0,1,4,5,7,8,9,16] [.tmp 4] RY
@[simp]def RZ:=g [26] [m 21 5,o 22 (.bin false .gtr (.t 21) (.k (.int .u64 0))),m 23 22,mF 24 6 23,G 25 (.bin false .gtr (.t 24) (.k (.int .u64 9223372036854775807))) 23 false,Y 26 23 25]
def wT:=S (A [37] [m 34 8,m 35 7,n 36 35,z 37 .lss 34 36] 37 W (X 0)) (T 1 (d [8] [r 1 (m 39 7),r 2 (m 40 8),r 3 (o 41 (.slc (.t 39) (some (.t 40)) none none 1)),r 4 (m 42 7),r 5 (m 43 8),r 6 (o 44 (.slc (.t 42) none (some (.t 43)) none 1)),u 7 (o 45 (.cpy 1 (.t 41) (.t 44))),r 0 (m 38 8)] [z 46 .add 38 45,m 8 46]))
def Mx:=S (g [4] [Q 4]) (S (A [10] [m 9 1,i 10 .lss 9 0] 10 (g [] [o 11 .bad,e .bad]) W) (S (g [5,6] [m 13 0,n 14 13,o 15 (.cnv .u64 (.t 14)),m 16 1,o 17 (.cnv .u64 (.t 16)),C 18 198 15 17,m 12 18,x 19 12 0,x 20 12 1,m 5 19,m 6 20]) (S (S RZ (I 26 (g [] [o 27 .bad,e .bad]) W)) (S (g [7] [m 28 6,o 29 (.cnv .i64 (.t 28)),o 30 (.mks 1 17592186044416 [.int .i64 0] (.t 29) (.t 29)),m 7 30]) (S (g [8] [m 31 7,m 32 0,o 33 (.cpy 1 (.t 31) (.t 32)),m 8 33]) (S (T 0 (M wT)) (F [4] [m 47 7,m 4 47])))))))
def acj:=h0 48 2 [0,1,4,5,6,7,8,10,26,37] [.tmp 4] Mx
def qG:=S (g [20] [z 20 .lss 19 18]) (S (I 20 W (X 0)) (S (T 1 (S (g [9] [a 21 17 19 5,L 22 21 5,o 9 (.alloc [.int .i64 0,.int .i64 0,.int .u8 0,.int .i64 0,.int .i64 0]),s 5 9 22]) (S (A [27] [l 23 1,f 24 9 4,l 25 24,a 26 23 25 1,l 27 26] 27 (g [] [e (.st 1 (.t 3) (.k (.bool true)))]) (A [33] [l 28 4,f 29 9 4,l 30 29,a 31 28 30 1,l 32 31,i 33 .lss 32 0] 33 (g [] [l 34 5,f 35 9 4,l 36 35,o 37 (.dyn (.t 34) [.t 36])]) W)) (A [38] [l 38 3] 38 R W)))) (g [19] [i 39 .add 19 1,m 19 39])))
def R0:=S (g [] [l 10 1,m 11 0,a 12 10 11 1,e (.st 1 (.t 12) (.k (.bool true)))]) (S (S (g [17,18,19] [f 13 2 0,l 14 13,m 15 0,a 16 14 15 1,l 17 16,n 18 17,K 19 0]) (T 0 (M qG))) (d [] [w 5 (L 45 2 2) 0 0,r 6 (m 46 0),w 7 (l 47 4) 0 0,u 8 (J 48 191 45 46 47),w 4 (l 44 6) 0 1,u 9 (C 49 190 44 48),w 0 (l 40 1) 0 2,r 1 (m 41 0),r 10 (a 50 40 41 1),u 11 (e (.st 1 (.t 50) (.k (.bool false)))),w 2 (l 42 4) 0 3,r 3 (m 43 0)] [a 51 42 43 1,s 1 51 49]))
def ack:=h0 52 7 [0,1,2,3,4,5,6,9,17,18,19,20,27,33,38] [] R0
def Jy:=S (g [4] [K 4 0]) (S (g [5,6] [m 8 0,m 9 1,o 10 (.lkp ⟨false,[2]⟩ (.t 8) (.t 9) (.int .i64 0) true),m 7 10,x 11 7 0,x 12 7 1,m 5 11,m 6 12]) (S (A [14] [m 13 6,N 14 13] 14 (S (g [5] [m 15 0,o 16 (.len 2 (.t 15)),m 5 16]) (g [] [m 17 0,m 18 1,m 19 5,e (.mup ⟨false,[2]⟩ (.t 17) (.t 18) (.t 19))])) W) (F [4] [m 20 5,m 4 20])))
def acm:=h0 21 2 [0,1,4,5,6,14] [.tmp 4] Jy
def wU:=S (g [50] [z 50 .lss 49 48]) (S (I 50 W (X 2)) (S (T 3 (S (g [11] [a 51 47 49 1,l 52 51,m 11 52]) (S (g [] [o 53 (.call 103 [.t 7,.k (.int .u8 32)])]) (g [] [m 54 11,c 55 192 54,C 56 181 7 55])))) (g [49] [i 57 .add 49 1,m 49 57])))
def wV:=S (g [26] [z 26 .lss 25 24]) (S (I 26 W (X 0)) (S (T 1 (S (g [9] [a 27 23 25 5,L 28 27 5,o 9 (.alloc [.int .i64 0,.int .i64 0,.int .u8 0,.int .i64 0,.int .i64 0]),s 5 9 28]) (S (d [47,48,49] [r 0 (f 29 9 0),r 1 (f 30 29 0),w 2 (l 31 30) 0 0,r 3 (f 32 9 0),r 4 (f 33 32 1),w 5 (l 34 33) 0 0,r 6 (f 35 9 0),r 7 (f 36 35 2),w 8 (l 37 36) 0 0,r 9 (o 38 (.cnv .i64 (.t 37))),r 10 (f 39 9 0),r 11 (f 40 39 3),w 12 (l 41 40) 0 0,r 13 (m 42 2),r 14 (f 43 9 4),w 15 (l 44 43) 0 0,r 16 (a 45 42 44 1),w 17 (l 46 45) 0 0,u 18 (o 47 (.bsl 1 [.t 31,.t 34,.t 38,.t 41,.t 46])),w 19 (n 48 47) 1 1,r 20 (K 49 0)] []) (T 2 (M wU))))) (g [25] [i 58 .add 25 1,m 25 58])))
def WN:=S (g [3,6] [b 3 0,o 6 (.mv (.k (.str [])))]) (S (g [7] [o 7 (.alb 188 [.dO,.ah])]) (S (g [] [f 12 3 1,l 13 12,m 14 1,a 15 13 14 1,l 16 15,c 17 199 16,C 18 181 7 17]) (S (S (g [23,24,25] [f 19 3 0,l 20 19,m 21 1,a 22 20 21 1,l 23 22,n 24 23,K 25 0]) (T 0 (M wV))) (F [6] [c 59 104 7,m 6 59]))))
def acn:=h 60 3 [0,1,2,3,6,7,9,11,23,24,25,26,47,48,49,50] [.tmp 6] WN
def WQ:=S (g [2] [o 2 (.mv (.k (.str [])))]) (F [2] [m 3 0,c 4 200 3,m 2 4])
def aco:=h 5 1 [0,2] [.tmp 2] WQ
def EI:=S (g [5] [K 5 0]) (S (d [6,7] [w 0 (l 9 1) 0 0,w 1 (l 10 2) 0 0,r 2 (m 11 0),r 3 (a 12 10 11 1),w 4 (l 13 12) 0 0,w 5 (o 14 (.lkp ⟨false,[0]⟩ (.t 9) (.t 13) (.int .i64 0) true)) 0 0,r 6 (m 8 14),r 7 (x 15 8 0),r 8 (x 16 8 1),r 9 (m 6 15)] [m 7 16]) (S (A [18] [m 17 7,N 18 17] 18 (S (g [6] [l 19 3,n 20 19,m 6 20]) (S (d [] [w 0 (l 21 1) 0 0,w 1 (l 22 2) 0 0,r 2 (m 23 0),r 3 (a 24 22 23 1),w 4 (l 25 24) 0 0,r 5 (m 26 6)] [e (.mup ⟨false,[0]⟩ (.t 21) (.t 25) (.t 26))]) (g [] [l 27 3,m 28 0,q 29 1 28,p 30 1 17592186044416 27 29,s 1 3 30]))) W) (F [5] [m 31 6,m 5 31])))
def acp:=h0 32 4 [0,1,2,3,5,6,7,18] [.tmp 5] EI
@[simp]def R1:=g [15] [m 5 1,L 6 2 5,c 7 201 6,o 8 (.dyn (.t 5) [.t 7]),N 9 8,m 10 9,fF 11 2 2 10,fF 12 11 0 10,lF 13 12 10,NF 14 13 10,Y 15 10 14]
def wW:=S (g [20] [z 20 .lss 19 18]) (S (I 20 W (X 0)) (S (T 1 (S (g [4] [m 21 19,m 4 21]) (A [27] [m 22 1,L 23 2 5,m 24 4,C 25 202 23 24,o 26 (.dyn (.t 22) [.t 25]),N 27 26] 27 R W))) (g [19] [i 28 .add 19 1,m 19 28])))
def Jz:=S (g [2] [b 2 0]) (S (S R1 (I 15 R W)) (S (g [18,19] [f 16 2 2,f 17 16 1,l 18 17,K 19 0]) (T 0 (M wW))))
def acq:=h0 29 2 [0,1,2,4,15,18,19,20,27] [] Jz
def WR:=S (g [2,3,4] [o 2 (.box (.t 0)),o 3 (.box (.t 1)),o 4 (.mv (.k .gG))]) (F [4] [o 5 (.mkf 203 [] [.t 2,.t 3]),m 4 5])
def acr:=h 6 2 [0,1,2,3,4] [.tmp 4] WR
def WS:=S (g [2] [Z 2]) (F [2] [m 3 0,m 4 0,z 5 .neq 3 4,m 2 5])
def acs:=h 6 1 [0,2] [.tmp 2] WS
def WT:=S (g [2] [Z 2]) (F [2] [m 3 0,m 4 0,z 5 .neq 3 4,m 2 5])
def acu:=h 6 1 [0,2] [.tmp 2] WT
def acv:=S (g [4,5] [o 4 (.mv (.k (.int .u64 0))),o 5 (.mv (.k (.int .u64 0)))]) (S (.cond (.k (.bool false)) (S (g [6,7] [m 11 0,o 12 (.cnv .u32 (.t 11)),m 13 1,o 14 (.cnv .u32 (.t 13)),C 15 205 12 14,m 10 15,x 16 10 0,x 17 10 1,m 6 16,m 7 17]) (F [4,5] [m 18 6,o 19 (.cnv .u64 (.t 18)),m 20 7,o 21 (.cnv .u64 (.t 20)),m 4 19,m 5 21])) W) (S (g [8,9] [m 23 0,m 24 1,C 25 206 23 24,m 22 25,x 26 22 0,x 27 22 1,m 8 26,m 9 27]) (F [4,5] [m 28 8,m 29 9,m 4 28,m 5 29])))
def f226:=h 30 2 [0,1,4,5,6,7,8,9] [.tmp 4,.tmp 5] acv
def WU:=S (g [2] [o 2 (.mv (.k (.str [])))]) (F [2] [m 3 0,c 4 207 3,m 2 4])
def acw:=h 5 1 [0,2] [.tmp 2] WU
def WV:=S (g [2] [o 2 (.mv (.k (.str [])))]) (F [2] [m 3 0,o 4 (.call 208 [.t 3,.k (.int .i64 10)]),m 2 4])
def acx:=h 5 1 [0,2] [.tmp 2] WV
def WW:=S (g [1,2] [b 1 0,o 2 (.alloc [.int .i64 0,.int .i64 0,.int .u8 0,.int .i64 0])]) (F [] [f 3 1 0,l 4 3,f 5 1 1,l 6 5,o 7 (.build [.x (.t 4) 1,.x (.t 6) 1,.x (.k (.int .u8 1)) 1,.z [.int .i64 0]]),s 4 2 7])
def acy:=h 8 1 [0,1,2] [.cell 2 (some 4)] WW
def WX:=S (g [2,4] [b 2 0,o 4 (.alloc [.int .i64 0,.int .i64 0,.int .u8 0,.int .i64 0])]) (F [] [f 5 2 0,l 6 5,f 7 2 1,l 8 7,m 9 1,o 10 (.build [.x (.t 6) 1,.x (.t 8) 1,.x (.k (.int .u8 2)) 1,.x (.t 9) 1]),s 4 4 10])
def acz:=h 11 2 [0,1,2,4] [.cell 4 (some 4)] WX
@[simp]def R2:=g [13] [f 5 1 4,l 6 5,m 7 6,mT 8 0 7,LT 9 1 5 7,G 10 (.call 204 [.t 9,.k (.int .i64 (-1))]) 7 true,G 11 (.dyn (.t 8) [.t 10]) 7 true,NT 12 11 7,y 13 7 12]
def qH:=S (g [16] [z 16 .lss 15 14]) (S (I 16 W (X 0)) (S (T 1 (S (g [4] [m 17 15,m 4 17]) (A [23] [m 18 0,L 19 1 5,m 20 4,C 21 204 19 20,o 22 (.dyn (.t 18) [.t 21]),N 23 22] 23 R W))) (g [15] [i 24 .add 15 1,m 15 24])))
def JA:=S (S R2 (I 13 R W)) (S (g [14,15] [l 14 2,K 15 0]) (T 0 (M qH)))
def acA:=h0 25 3 [0,1,2,4,13,14,15,16,23] [] JA
def WY:=S (g [2,4] [b 2 0,o 4 (.alloc [.int .i64 0,.int .i64 0,.int .u8 0,.int .i64 0])]) (F [] [f 5 2 0,l 6 5,f 7 2 1,l 8 7,m 9 1,o 10 (.build [.x (.t 6) 1,.x (.t 8) 1,.x (.k (.int .u8 3)) 1,.x (.t 9) 1]),s 4 4 10])
def acB:=h 11 2 [0,1,2,4] [.cell 4 (some 4)] WY
def acC:=S (g [4,5] [o 4 (.mv (.k (.int .u32 0))),o 5 (.mv (.k (.int .u32 0)))]) (S (g [6] [m 7 0,o 8 (.cnv .u64 (.t 7)),m 9 1,o 10 (.cnv .u64 (.t 9)),z 11 .mul 8 10,m 6 11]) (F [4,5] [m 12 6,o 13 (.bin false .shr (.t 12) (.k (.int .u64 32))),o 14 (.cnv .u32 (.t 13)),m 15 6,o 16 (.cnv .u32 (.t 15)),m 4 14,m 5 16]))
def acD:=h 17 2 [0,1,4,5,6] [.tmp 4,.tmp 5] acC
def acE:=S (g [4,5] [o 4 (.mv (.k (.int .u64 0))),o 5 (.mv (.k (.int .u64 0)))]) (S (g [6] [m 14 0,o 15 (.bin false .and (.t 14) (.k (.int .u64 4294967295))),m 6 15]) (S (g [7] [m 16 0,o 17 (.bin false .shr (.t 16) (.k (.int .u64 32))),m 7 17]) (S (g [8] [m 18 1,o 19 (.bin false .and (.t 18) (.k (.int .u64 4294967295))),m 8 19]) (S (g [9] [m 20 1,o 21 (.bin false .shr (.t 20) (.k (.int .u64 32))),m 9 21]) (S (g [10] [m 22 6,m 23 8,z 24 .mul 22 23,m 10 24]) (S (g [11] [m 25 7,m 26 8,z 27 .mul 25 26,m 28 10,o 29 (.bin false .shr (.t 28) (.k (.int .u64 32))),z 30 .add 27 29,m 11 30]) (S (g [12] [m 31 11,o 32 (.bin false .and (.t 31) (.k (.int .u64 4294967295))),m 12 32]) (S (g [13] [m 33 11,o 34 (.bin false .shr (.t 33) (.k (.int .u64 32))),m 13 34]) (S (g [12] [m 35 12,m 36 6,m 37 9,z 38 .mul 36 37,z 39 .add 35 38,m 12 39]) (S (g [4] [m 40 7,m 41 9,z 42 .mul 40 41,m 43 13,z 44 .add 42 43,m 45 12,o 46 (.bin false .shr (.t 45) (.k (.int .u64 32))),z 47 .add 44 46,m 4 47]) (F [5] [m 48 0,m 49 1,z 50 .mul 48 49,m 5 50])))))))))))
def acF:=h 51 2 [0,1,4,5,6,7,8,9,10,11,12,13] [.tmp 4,.tmp 5] acE
def WZ:=S (g [2] [o 2 (.mv (.k (.str [])))]) (S (A [3] [m 3 0] 3 (F [2] [o 2 (.mv (.k (.str [116,114,117,101])))]) W) (F [2] [o 2 (.mv (.k (.str [102,97,108,115,101])))]))
def acG:=h 4 1 [0,2,3] [.tmp 2] WZ
abbrev H:Tr HF:=.lf
abbrev D(f:HF):Tr HF:=.nd (some f) .lf .lf
abbrev E(f:HF)(l r:Tr HF):Tr HF:=.nd (some f) l r
abbrev B(l r:Tr HF):Tr HF:=.nd none l r
def CQ:Tr HF:=B (B (E VP (B (E f66 (E f18 (E f105 (D abz) (D acn)) (E abh (D abX) H)) (B (B (D f169) (D acG)) (E abn (D f201) H))) (B (E f9 (E f134 (D abH) (D acw)) (E abj (D ab5) H)) (E f90 (B (D f171) H) (E abu (D ace) H)))) (E FR (B (E f75 (E f130 (D abD) (D acr)) (B (D ab1) H)) (E f62 H (B (D aca) H))) (E f68 (E f74 (B (D abL) (D acA)) (B (D ab8) H)) (E f28 (E f129 (D abW) H) (E abx (D aci) H))))) (E f25 (E f32 (E VS (E VU (E aa9 (D abB) (D acp)) (E abi (D abZ) H)) (B (E abb (D abP) H) (E abp (D f203) H))) (B (E f76 (B (D abJ) (D acy)) (B (D f195) H)) (E f94 (E abc (D abU) H) (E f157 (D acg) H)))) (E f27 (B (E f64 (E f132 (D abF) (D acu)) (B (D ab3) H)) (E f45 (B (D abR) H) (E abr (D acd) H))) (E f48 (B (B (D abN) (D acD)) (E abl (D f199) H)) (E f60 (E abf (D f177) H) (B (D ack) H)))))) (B (E f29 (E f31 (E f61 (E f69 (E aa8 (D abA) (D aco)) (E f142 (D abY) H)) (B (B (D abO) H) (E abo (D f202) H))) (B (E f24 (E f93 (D abI) (D acx)) (B (D ab6) H)) (E f57 (E f86 (D abT) H) (E abv (D acf) H)))) (E f38 (B (E f63 (E f131 (D abE) (D acs)) (B (D ab2) H)) (B H (B (D acb) H))) (E f46 (B (B (D abM) (D acB)) (E abk (D ab9) H)) (E f59 (E abe (D f176) H) (E aby (D acj) H))))) (E N5 (E f15 (B (E VV (E aba (D abC) (D acq)) (B (D ab0) H)) (B (B (D abQ) H) (E abq (D f204) H))) (E f23 (E f96 (B (D abK) (D acz)) (B (D ab7) H)) (E f95 (E abd (D abV) H) (E abw (D ach) H)))) (E f10 (B (E f65 (E f133 (D abG) (D f226)) (B (D ab4) H)) (E f84 (E f82 (D abS) H) (E abt (D f208) H))) (E f50 (B (B (D f168) (D acF)) (E abm (D f200) H)) (E f104 (E abg (D f178) H) (B (D acm) H))))))
def prog(k:Nat):Option HF:=fE CQ k
abbrev P:=Go.Proofs.Tryz.prog
def uW:uA (λk F=>oP Go.Proofs.Tryz.prog k F=true) CQ:=Ln.get _ _ (by kernel_rfl)
end Go.Proofs.YtepamfbheocmhaaGreatDoor.K.Hm.U
namespace Go.Proofs.YtepamfbheocmhaaGreatDoor.K.Hm
open Go
def od(p:aC):Prop:=∃n,∀m,n<=m->p m
def od.of{p:aC}(h:∀m,p m):od p:=⟨0,λm _=>h m⟩
def od.mono{p q:aC}(h:od p)(a:∀m,p m->q m):od q:=let⟨n,h⟩:=h;⟨n,λm b=>a m (h m b)⟩
def od.and{p q:aC}(h:od p)(k:od q):od λm=>p m/\q m:=let⟨a,h⟩:=h;let⟨b,k⟩:=k;⟨max a b,λm c=>⟨h m (by omega),k m (by omega)⟩⟩
def Good:Out->Prop
 |.bad _=>False
 |_=>True
def Conv(F:Nat->Task->Out)(ih:Task->Out):Prop:=∀t o,ih t=o->Good o->od λm=>F m t=o
section conv
variable{F:Nat->Task->Out}{ih:Task->Out}
def ew(K:Nat->En->HS->Out)(k:En->HS->Out):Prop:=∀e s o,k e s=o->Good o->od λm=>K m e s=o
def Conv.val(c:Conv F ih){t:Task}{f:Nat->HV->HS->Out}{g:HV->HS->Out}{d:Nat}{o:Out}(i:∀v s o,g v s=o->Good o->od λm=>f m v s=o)(h:(ih t).nO g (.bad d)=o)(b:Good o):
  od λm=>(F m t).nO (f m) (.bad d)=o:=by
 cases a:ih t with|val v s=>rw[a]at h;exact((c t _ a trivial).and (i v s o h b)).mono λm ⟨j,k⟩=>by rw[j];exact k|code x e s=>rw[a]at h;subst h;exact b.elim|bad w=>rw[a]at h;subst h;exact b.elim
def CS(i:Conv F ih){K:Nat->En->HS->Out}{k:En->HS->Out}(b:ew K k)(op:aP)(e:En)(s:HS){o:Out}(h:one ih op e s k=o)(a:Good o):od λm=>one (F m) op e s (K m)=o:=by
 unfold one at h ⊢;cases j:kD e op.g with
 |none=>rw[j]at h;subst h;exact a.elim
 |some q=>
  rw[j]at h;cases q with
  |false=>exact b _ _ _ h a
  |true=>simp only[bN]at h ⊢;cases c:cU op.op e s with|v v s'=>rw[c]at h;exact b _ _ _ h a|bad=>rw[c]at h;subst h;exact a.elim|call f l=>rw[c]at h;exact i.val (f:=λm v s'=>K m (e.put op.d v) s') (λv s o h a=>b _ _ _ h a) h a|round f l=>rw[c]at h;exact i.val (f:=λm v s'=>K m (e.put op.d v) s') (λv s o h a=>b _ _ _ h a) h a
def rD(a:Conv F ih){K:Nat->En->HS->Out}{k:En->HS->Out}(b:ew K k):∀(l:List aP),ew (λm=>lV (F m) (K m) l) (lV ih k l)
 |[]=>b
 |op::l=>λe s o h c=>CS a (rD a b l) op e s h c
def zA(hc:Conv F ih){K:Nat->En->HS->List HS->Out}{k:En->HS->List HS->Out}(hk:∀vs,ew (λm e s=>K m e s vs) (λe s=>k e s vs)):∀(l:List dL) (vs:List HS),ew (λm e s=>kG (F m) (K m) l e s vs) (λe s=>kG ih k l e s vs)
 |[],vs=>hk vs
 |d::l,vs=>λe s o h ho=>CS hc (K:=λm e' s'=>kG (F m) (K m) l e' s' (DK.rec (motive:=λ_=>List HS) vs (λ_ _=>vs) (vs++[s']) (vs++[s']) d.k)) (k:=λe' s'=>kG ih k l e' s' (DK.rec (motive:=λ_=>List HS) vs (λ_ _=>vs) (vs++[s']) (vs++[s']) d.k))
   (λe' s' o' b a=>zA hc hk l _ e' s' o' b a) d.o e s h ho
def ew.same(k:En->HS->Out):ew (λ_=>k) k:=λ_ _ _ h _=>od.of λ_=>h
def CU(i:Conv F ih)(outs:ay)(main:List dL)(a:List aP):ew (λm=>NV (F m) outs main a) (NV ih outs main a):=by
 intro f s o h g;refine zA i (K:=λm e s' c=>gD (bS e c main) (lV (F m) (λd b=>.code .normal (gL outs d f) b) a e s') (.bad 14)) (k:=λe s' c=>gD (bS e c main) (lV ih (λd b=>.code .normal (gL outs d f) b) a e s') (.bad 14)) (λc e s' o h g=>?_) main [s] f s o h g;have h:gD (bS e c main) (lV ih (λd b=>.code .normal (gL outs d f) b) a e s') (.bad 14)=o:=h;show od λm=>gD (bS e c main) (lV (F m) (λd b=>.code .normal (gL outs d f) b) a e s') (.bad 14)=o
 cases j:bS e c main with|false=>rw[j]at h;subst h;exact g.elim|true=>rw[j]at h;exact rD i (ew.same _) a e s' o h g
def zB(d:Conv F ih)(x:X)(ps:ay)(iS body:HC):ew (λm=>lg (F m) x ps iS body) (lg ih x ps iS body):=by
 intro e s o h c;unfold lg at h
 split at h
 .rename_i f a b g
  split at h
  .rename_i v s2 i;refine(d _ _ i trivial).mono λm j=>?_
   show lg (F m) x ps iS body e s=o;unfold lg;rw[g];simp only[j];exact h
  subst h;exact c.elim
 subst h;exact c.elim
def fP{A:Nat->Out}{a:Out}{K:Nat->En->HS->Out}{k:En->HS->Out}(d:∀o,a=o->Good o->od λm=>A m=o)(g:ew K k){o:Out}(h:a.bY k=o)(f:Good o):od λm=>(A m).bY (K m)=o:=by
 cases b:a with
 |val v s=>rw[b]at h;subst h;exact(d _ b trivial).mono λm c=>by rw[c];rfl
 |bad w=>rw[b]at h;subst h;exact f.elim
 |code x e s=>rw[b]at h;cases x with|normal=>exact((d _ b trivial).and (g e s o h f)).mono λm ⟨j,n⟩=>by rw[j];exact n|ret=>subst h;exact(d _ b trivial).mono λm c=>by rw[c];rfl|exit i=>subst h;exact(d _ b trivial).mono λm c=>by rw[c];rfl
def zC{A B:Nat->En->HS->Out}{a b:En->HS->Out}(f:ew A a)(g:ew B b)(x:X):ew (λm e s=>bN (bp x e) (λv=>v.asBool (A m e s) (B m e s) (.bad 8)) (.bad 8)) (λe s=>bN (bp x e) (λv=>v.asBool (a e s) (b e s) (.bad 8)) (.bad 8)):=by
 intro e s o h c;have h:bN (bp x e) (λv=>v.asBool (a e s) (b e s) (.bad 8)) (.bad 8)=o:=h;show od λm=>bN (bp x e) (λv=>v.asBool (A m e s) (B m e s) (.bad 8)) (.bad 8)=o
 cases d:bp x e with
 |none=>rw[d]at h;subst h;exact c.elim
 |some v=>
  rw[d]at h;cases v<;>first|(subst h;exact c.elim)|skip
  rename_i q;cases q with|true=>exact f e s o h c|false=>exact g e s o h c
def gf(i:Nat)(o:Out):Out:=Out.rec (motive:=λ_=>Out) (λ_ _=>.bad 9) (λx e' s'=>Ex.rec (motive:=λ_=>Out) (.code .normal e' s') (.code .ret e' s') (λj=>gD (Nat.beq i j) (.code .normal e' s') (.code (.exit j) e' s')) x) (λw=>.bad w) o
def CV{A:Nat->En->HS->Out}{a:En->HS->Out}(d:ew A a)(i:Nat):ew (λm e s=>gf i (A m e s)) (λe s=>gf i (a e s)):=by
 intro e s o h c;have h:gf i (a e s)=o:=h;show od λm=>gf i (A m e s)=o
 cases b:a e s with|val v s1=>rw[b]at h;subst h;exact c.elim|bad w=>rw[b]at h;subst h;exact c.elim|code x e1 s1=>rw[b]at h;exact(d e s _ b trivial).mono λm f=>by rw[f];exact h
def uX(p:Conv F ih):∀(c:HC),ew (λm=>ev (F m) c) (ev ih c):=by
 intro c
 induction c with|skip=>exact ew.same _|ret=>exact ew.same _|exit i=>exact ew.same _|seq a b d f=>exact λe s o h g=>fP (d e s) f h g|cond x a b d f=>exact zC d f x|block i c j=>exact CV j i|loop c j=>exact λe s o h g=>fP (j e s) (λe s o h g=>p _ o h g) h g|rg outs l=>exact λe s o h g=>rD p (ew.same _) l e s o h g|K8 outs main k=>exact CU p outs main k|rf x ps iS body _ _=>exact zB p x ps iS body|KX r=>exact ew.same _|Oy t q n=>exact ew.same _|gh u=>exact ew.same _
def wX(p:Conv F ih):∀(c:HC),ew (λm=>bJ (F m) c) (bJ ih c):=by
 intro c
 induction c with|skip=>exact ew.same _|ret=>exact ew.same _|exit i=>exact ew.same _|seq a b d f=>exact λe s o h g=>fP (d e s) f h g|cond x a b d f=>exact zC d f x|block i c j=>exact CV j i|loop c j=>exact λe s o h g=>fP (j e s) (λe s o h g=>p _ o h g) h g|rg outs l=>exact λe s o h g=>rD p (ew.same _) l e s o h g|K8 outs main k=>exact CU p outs main k|rf x ps iS body _ _=>exact zB p x ps iS body|KX r=>exact ew.same _|Oy t q n=>exact ew.same _|gh u=>exact ew.same _
def zD(f:Conv F ih)(G:HF)(args:aj){v:HV}(h:iX G ih args=some v):od λm=>iX G (F m) args=some v:=by
 unfold iX at h ⊢;cases d:Nat.beq (aM args) G.np with
 |false=>rw[d]at h;cases h
 |true=>
  rw[d]at h;simp only[gD]at h ⊢;cases a:bJ ih G.c (bb args 0) s0 with
  |val v s=>rw[a]at h;cases h
  |bad w=>rw[a]at h;cases h
  |code x e s=>
   rw[a]at h;refine(wX f G.c _ _ _ a trivial).mono λm b=>?_
   have b:bJ (F m) G.c (bb args 0) s0=.code x e s:=b;rw[b];exact h
def EJ(f:Conv F ih)(G:HF)(args:aj){v:HV}(h:iX G ih args=some v):od λm=>fL G (F m) args=fL G ih args:=by
 unfold iX at h;unfold fL;cases d:Nat.beq (aM args) G.np with
 |false=>rw[d]at h;cases h
 |true=>
  rw[d]at h;simp only[gD]at h;cases a:bJ ih G.c (bb args 0) s0 with
  |val v s=>rw[a]at h;cases h
  |bad w=>rw[a]at h;cases h
  |code x e s=>
   refine(wX f G.c _ _ _ a trivial).mono λm b=>?_
   have b:bJ (F m) G.c (bb args 0) s0=.code x e s:=b;rw[b]
def yS(c:Conv F ih)(G:HF)(args:aj)(s:HS){o:Out}(h:bP G ih args s=o)(d:Good o):od λm=>bP G (F m) args s=o:=by
 unfold bP at h ⊢;cases j:cj args with
 |true=>rw[j]at h;simp only[cond_true]at h ⊢;generalize(bif da args then args else n9 args)=a at h ⊢;cases b:iX G ih a with|none=>rw[b]at h;subst h;exact d.elim|some v=>rw[b]at h;exact(zD c G a b).mono λm f=>by rw[f];exact h
 |false=>
  rw[j]at h;simp only[cond_false]at h ⊢
  split at h
  .rename_i l t k;cases b:iX G ih l with|none=>rw[b]at h;subst h;exact d.elim|some v=>rw[b]at h;have g:=EJ c G l b;exact((zD c G l b).and g).mono λm ⟨f,i⟩=>by rw[f,i];exact h
  subst h;exact d.elim
def yU(g:Conv F ih)(G:HF)(args:aj)(s:HS){o:Out}(h:dw G ih args s=o)(b:Good o):od λm=>dw G (F m) args s=o:=by
 unfold dw at h ⊢;cases f:Nat.beq (aM args) G.np with
 |false=>rw[f]at h;subst h;exact b.elim
 |true=>
  rw[f]at h;simp only[gD]at h ⊢;cases a:ev ih G.c (bb args 0) s with
  |val v s=>rw[a]at h;subst h;exact b.elim
  |bad w=>rw[a]at h;subst h;exact b.elim
  |code x e s'=>
   rw[a]at h;refine(uX g G.c _ _ _ a trivial).mono λm d=>?_
   have d:ev (F m) G.c (bb args 0) s=.code x e s':=d;rw[d];exact h
def wY(q:Conv F ih)(l:Ky)(args:aj)(s:HS){o:Out}(h:gx ih l args s=o)(c:Good o):od λm=>gx (F m) l args s=o:=by
 unfold gx at h
 split at h
 case h_2=>subst h;exact c.elim
 rename_i u y e ps iS body k;cases hlen:Nat.beq (aM args) (aM ps)with
 |false=>rw[hlen]at h;subst h;exact c.elim
 |true=>
 rw[hlen,cond_true]at h
 split at h
 case h_2=>subst h;exact c.elim
 rename_i e1 s1 f
 split at h
 case h_2=>subst h;exact c.elim
 rename_i z r t g b a i;cases d:Nat.beq z 0 with
 |false=>rw[d]at h;subst h;exact c.elim
 |true=>
 rw[d,cond_true]at h;cases j:ev ih body e1 (s1.aK l (.loop 2 r t g b a))with
 |val v s=>rw[j]at h;subst h;exact c.elim
 |bad w=>rw[j]at h;subst h;exact c.elim
 |code x e2 s2=>
  rw[j]at h;refine((uX q iS _ _ _ f trivial).and (uX q body _ _ _ j trivial)).mono λm ⟨n,p⟩=>?_
  have n:ev (F m) iS (oi e ps args) s=.code .normal e1 s1:=n;have p:ev (F m) body e1 (s1.aK l (.loop 2 r t g b a))=.code x e2 s2:=p;unfold gx;rw[k];simp only[hlen,cond_true,n,i,d,p];exact h
def sV{L:jg}{P:Nat->Option HF}(d:Conv F ih)(t:Task){o:Out}(h:step L P ih t=o)(a:Good o):od λm=>step L P (F m) t=o:=by
 cases t with
 |call f args s=>
  have h:se L f args s (bu P ih f args s)=o:=h;show od λm=>se L f args s (bu P (F m) f args s)=o
  unfold se at h ⊢;cases i:Nat.beq f L.dk with
  |true=>rw[i]at h;exact od.of λ_=>h
  |false=>
  cases k:Nat.beq f L.str with
  |true=>rw[i,k]at h;exact od.of λ_=>h
  |false=>
  cases p:Nat.beq f L.fmt with
  |true=>rw[i,k,p]at h;exact od.of λ_=>h
  |false=>
   rw[i,k,p]at h;cases b:(bN L.uI (λt=>Nat.beq f t) false)with
   |true=>
    cases j:L.uI with
    |none=>rw[j]at b;cases b
    |some t=>rw[j]at h b;simp only[bN]at h b ⊢;rw[b]at h ⊢;exact od.of λ_=>h
   |false=>
   have q:∀K:Out,bN L.uI (λt=>bif Nat.beq f t then lp args s else hH L f args s K) (hH L f args s K)=hH L f args s K:=by intro K;cases j:L.uI with|none=>rfl|some t=>rw[j]at b;simp only[bN]at b ⊢;rw[b];rfl
   simp only[cond_false]at h ⊢;rw[q]at h;simp only[q];rcases zb L f args s with n|⟨_,rfl,n⟩
   case inr=>simp only[n]at h ⊢;exact od.of λ_=>h
   simp only[n]at h ⊢;have h:bu P ih f args s=o:=h;show od λm=>bu P (F m) f args s=o
   unfold bu at h ⊢;cases r:P f with
   |none=>rw[r]at h;subst h;exact a.elim
   |some G=>
    rw[r]at h;have h:(bif G.pu then bP G ih args s else dw G ih args s)=o:=h;show od λm=>(bif G.pu then bP G (F m) args s else dw G (F m) args s)=o
    cases g:G.pu with|true=>rw[g]at h;exact yS d G args s h a|false=>rw[g]at h;exact yU d G args s h a
 |round l args s=>exact wY d l args s h a
 |loop c e s=>exact fP (uX d c e s) (λe s o h a=>d _ o h a) h a
 |og c e s=>exact fP (wX d c e s) (λe s o h a=>d _ o h a) h a
end conv
section W0
variable{L:jg}{P:Nat->Option HF}
def JB(n:Nat)(t:Task)(h:Good (run L P n t)):run L P (n+1) t=run L P n t:=by
 induction n generalizing t with
 |zero=>exact h.elim
 |succ n ih=>
  have a:Conv (λ_=>run L P (n+1)) (run L P n):=λt o h b=>od.of λ_=>by subst h;exact ih t b
  obtain⟨k,c⟩:=sV (L:=L) (P:=P) a t (o:=run L P (n+1) t) rfl h;exact c k (aW _)
def wZ{n m:Nat}(a:n<=m){t:Task}(h:Good (run L P n t)):run L P m t=run L P n t:=by induction a with|refl=>rfl|step a ih=>rw[<-ih];exact JB _ t (by rw[ih];exact h)
open Classical in
def dQ(L:jg)(P:Nat->Option HF)(t:Task):Out:=if h:∃n,Good (run L P n t)then run L P h.choose t else .bad 0
def A6{n:Nat}{t:Task}(h:Good (run L P n t)):dQ L P t=run L P n t:=by
 have a:∃n,Good (run L P n t):=⟨n,h⟩;unfold dQ;rw[dif_pos a];rcases Nat.le_total n a.choose with b|b
 .exact wZ b h
 exact(wZ b a.choose_spec).symm
def CW:Conv (run L P) (dQ L P):=by
 intro t o h a;subst h;unfold dQ at a ⊢
 split at a
 .rename_i b;rw[dif_pos b];exact⟨b.choose,λm c=>wZ c a⟩
 exact a.elim
def dr{t:Task}{o:Out}(h:step L P (dQ L P) t=o)(a:Good o):dQ L P t=o:=by obtain⟨n,c⟩:=sV CW t h a;have b:run L P (n+1) t=o:=c n (aW _);rw[<-b];exact A6 (by rw[b];exact a)
def w4{t:Task}{o:Out}(h:dQ L P t=o)(a:Good o):∃n,run L P n t=o:=by obtain⟨n,b⟩:=CW t o h a;exact⟨n,b n (aW _)⟩
end W0
end Go.Proofs.YtepamfbheocmhaaGreatDoor.K.Hm
namespace Go.Proofs.YtepamfbheocmhaaGreatDoor.K.Hm.S
open Go
section
variable{R:Task->Out}{e:En}{s:HS}
@[simp]def W1:bJ R .skip e s=.code .normal e s:=rfl
@[simp]def ω:bJ R .ret e s=.code .ret e s:=rfl
@[simp]def W2{i:Nat}:bJ R (.exit i) e s=.code (.exit i) e s:=rfl
@[simp]def My{a b:HC}:bJ R (.seq a b) e s=(bJ R a e s).bY (bJ R b):=rfl
@[simp]def Uz{i:Nat}{c:HC}:bJ R (.block i c) e s=gf i (bJ R c e s):=rfl
@[simp]def acH{outs:ay}{l:List aP}:bJ R (.rg outs l) e s=lV R (λe' s'=>.code .normal (gL outs e' e) s') l e s:=rfl
@[simp]def Γ{outs:ay}{m:List dL}{t:List aP}:bJ R (.K8 outs m t) e s=NV R outs m t e s:=rfl
@[simp]def acI{x:X}{ps:ay}{a b:HC}:bJ R (.rf x ps a b) e s=lg R x ps a b e s:=rfl
@[simp]def acJ{k:ay}:bJ R (.gh k) e s=bN (canon k e s) (λp=>.code .normal p.1 p.2) (.bad 52):=rfl
@[simp]def Δ{k:ay}:bJ R (.KX k) e s=bN (qa s e k) (λp=>.code .normal p.1 p.2) (.bad 50):=rfl
def CX(v:bO)(a b:Out):Out:=bN v (λv=>v.asBool a b (.bad 8)) (.bad 8)
@[simp low]theorem CY{x:X}{a b:HC}:bJ R (.cond x a b) e s=CX (bp x e) (bJ R a e s) (bJ R b e s):=rfl
@[simp]def Θ:ev R .skip e s=.code .normal e s:=rfl
@[simp]def acK:ev R .ret e s=.code .ret e s:=rfl
@[simp]def Ξ{i:Nat}:ev R (.exit i) e s=.code (.exit i) e s:=rfl
@[simp]def EK{a b:HC}:ev R (.seq a b) e s=(ev R a e s).bY (ev R b):=rfl
@[simp]def w5{i:Nat}{c:HC}:ev R (.block i c) e s=gf i (ev R c e s):=rfl
@[simp]def ahr{outs:ay}{l:List aP}:ev R (.rg outs l) e s=lV R (λe' s'=>.code .normal (gL outs e' e) s') l e s:=rfl
@[simp]def acL{outs:ay}{m:List dL}{t:List aP}:ev R (.K8 outs m t) e s=NV R outs m t e s:=rfl
@[simp]def ahs{x:X}{ps:ay}{a b:HC}:ev R (.rf x ps a b) e s=lg R x ps a b e s:=rfl
@[simp low]theorem uY{x:X}{a b:HC}:ev R (.cond x a b) e s=CX (bp x e) (ev R a e s) (ev R b e s):=rfl
@[simp]def nw{b:Bool}{x y:Out}:CX (some (.bool b)) x y=if b=true then x else y:=by cases b<;>rfl
@[simp]def jR{f:En->HS->Out}:(Out.code .normal e s).bY f=f e s:=rfl
@[simp]def Mz{f:En->HS->Out}:(Out.code .ret e s).bY f=.code .ret e s:=rfl
@[simp]def K0{i:Nat}{f:En->HS->Out}:(Out.code (.exit i) e s).bY f=.code (.exit i) e s:=rfl
@[simp]def R3{i:Nat}:gf i (.code .normal e s)=.code .normal e s:=rfl
@[simp]def Φ{i:Nat}:gf i (.code .ret e s)=.code .ret e s:=rfl
@[simp]def W3{i j:Nat}:gf i (.code (.exit j) e s)=if i=j then .code .normal e s else .code (.exit j) e s:=by
 show(Bool.rec (motive:=λ_=>Out) (Out.code (.exit j) e s) (.code .normal e s) (Nat.beq i j))=_;by_cases h:i=j
 .subst h;simp
 have:Nat.beq i j=false:=by cases hb:Nat.beq i j with|false=>rfl|true=>exact absurd (nP hb) h
 rw[this,au h]
@[simp]def Ψ{p:Prop}[Decidable p]{x y:Out}{i:Nat}:gf i (if p then x else y)=if p then gf i x else gf i y:=by split<;>rfl
@[simp]def UA{β:Type}{v:HV}{f:HV->HS->β}{d:β}:(Out.val v s).nO f d=f v s:=rfl
@[simp]def dG{α β:Type}{a:α}{f:α->β}{d:β}:bN (some a) f d=f a:=rfl
@[simp]def Im{α β:Type}{f:α->β}{d:β}:bN none f d=d:=rfl
@[simp]def JC{β:Type}{b:Bool}{x y:β}:gD b x y=if b=true then x else y:=by cases b<;>rfl
def cL(a b:Nat):Nat.beq a b=decide (a=b):=by rw[qf];simp
def bZ(a b:Nat):Nat.ble a b=decide (a<=b):=by rw[qf];simp[Nat.ble_eq]
def rE(a b:Nat):Nat.blt a b=decide (a<b):=by show Nat.ble (a+1) b=_;rw[bZ];rfl
@[simp]def MA(a b:Nat):Nat.add a b=a+b:=rfl
@[simp]def Ω(a b:Nat):Nat.mul a b=a*b:=rfl
@[simp]def Fy{n:Nat}:bp (.t n) e=look e n:=rfl
@[simp]def NW{v:HV}:bp (.k v) e=some v:=rfl
@[simp]def W4{k:Nat}:look .nil k=none:=rfl
@[simp]def dY{n k:Nat}{v:HV}{r:En}:look (.cons n v r) k=if n=k then some v else look r k:=by show(Bool.rec (motive:=λ_=>bO) (look r k) (some v) (Nat.beq n k))=_;rw[cL];by_cases h:n=k<;>simp[h]
@[simp]def aaa{k:Nat}{x:HV}:En.p8 .nil k x=.cons k x .nil:=rfl
@[simp]def JD{n k:Nat}{v x:HV}{r:En}:(En.cons n v r).p8 k x=if n=k then .cons n x r else .cons n v (r.p8 k x):=by show(Bool.rec (motive:=λ_=>En) (En.cons n v (r.p8 k x)) (.cons n x r) (Nat.beq n k))=_;rw[cL];by_cases h:n=k<;>simp[h]
@[simp]def qX{n k:Nat}{x:HV}:look (e.p8 n x) k=if n=k then some x else look e k:=by
 induction e with
 |nil=>simp
 |cons m v r ih=>
  rw[JD];by_cases h:m=n
  .subst h;simp only[bj,dY];split<;>rfl
  simp only[h,bn,dY,ih];by_cases a:m=k
  .subst a;simp[jQ h]
  simp[a]
@[simp]def W5{n:Nat}{v:HV}:e.put (some n) v=.cons n v e:=rfl
@[simp]def W6{v:HV}:e.put none v=e:=rfl
@[simp]def UB{l:En}:gL [] l e=e:=rfl
@[simp]def R4{n:Nat}{outs:ay}{l:En}:gL (n::outs) l e=gL outs l (bN (look l n) (λv=>e.p8 n v) e):=rfl
@[simp]def UC{i:Nat}:bb [] i=.nil:=rfl
@[simp]def R5{v:HV}{l:aj}{i:Nat}:bb (v::l) i=.cons i v (bb l (i+1)):=rfl
@[simp]def W8:fY [] e=some []:=rfl
@[simp]def pG{x:X}{l:List X}:fY (x::l) e=bN (bp x e) (λv=>bN (fY l e) (λl=>some (v::l)) none) none:=rfl
def w6(R:Task->Out)(d:bE)(e:En)(s:HS)(K:En->HS->Out)(r:cR):Out:=match r with|.v v s'=>K (e.put d v) s'|.call f l=>(R (.call f l s)).nO (λv s'=>K (e.put d v) s') (.bad 1)|.round f l=>(R (.round f l s)).nO (λv s'=>K (e.put d v) s') (.bad 2)|.bad=>.bad 3
@[simp]def acM{d:bE}{K:En->HS->Out}{v:HV}{s':HS}:w6 R d e s K (.v v s')=K (e.put d v) s':=rfl
@[simp]def UD{d:bE}{K:En->HS->Out}{f:Nat}{l:aj}:w6 R d e s K (.call f l)=(R (.call f l s)).nO (λv s'=>K (e.put d v) s') (.bad 1):=rfl
@[simp]def R6{d:bE}{K:En->HS->Out}{f:Ky}{l:aj}:w6 R d e s K (.round f l)=(R (.round f l s)).nO (λv s'=>K (e.put d v) s') (.bad 2):=rfl
def W9(v:bO)(b:Bool)(x y:Out):Out:=match v with|some (.bool q)=>if q=b then x else y|some .undef=>y|_=>.bad 4
@[simp]def mj{q b:Bool}{x y:Out}:W9 (some (.bool q)) b x y=if q=b then x else y:=rfl
@[simp]def zE{b:Bool}{x y:Out}:W9 (some .undef) b x y=y:=rfl
@[simp]def aab{K:En->HS->Out}:lV R K [] e s=K e s:=rfl
@[simp]def Xa{K:En->HS->Out}{d:bE}{op:ll}{l:List aP}:lV R K (⟨d,op,none⟩::l) e s=w6 R d e s (lV R K l) (cU op e s):=by show one R ⟨d,op,none⟩ e s (lV R K l)=_;unfold one;have a:kD e (aP.mk d op none).g=some true:=rfl;rw[a];show cR.rec (motive:=λ_=>Out) _ _ _ _ (cU op e s)=_;cases cU op e s<;>rfl
def FZ{K:En->HS->Out}{d:bE}{op:ll}{t:Nat}{b:Bool}{l:List aP}:lV R K (⟨d,op,some (t,b)⟩::l) e s=W9 (look e t) b (w6 R d e s (lV R K l) (cU op e s)) (lV R K l (e.put d .undef) s):=by
 show one R ⟨d,op,some (t,b)⟩ e s (lV R K l)=_;unfold one;have a:kD e (aP.mk d op (some (t,b))).g=match look e t with|some (.bool q)=>some (q==b)|some .undef=>some false|_=>none:=rfl
 rw[a];cases look e t with
 |none=>rfl
 |some v=>
  cases v<;>try rfl
  rename_i q;show Bool.rec (motive:=λ_=>Out) _ _ (q==b)=_;by_cases h:q=b
  .subst h;rw[show(q==q)=true by simp,mj,ar rfl];show cR.rec (motive:=λ_=>Out) _ _ _ _ (cU op e s)=_;cases cU op e s<;>rfl
  rw[mj,au h,show(q==b)=false by cases q<;>cases b<;>simp_all]
@[simp]def acN{K:En->HS->Out}{d:bE}{op:ll}{t:Nat}{b:Bool}{l:List aP}(h:look e t=some (.bool b)):lV R K (⟨d,op,some (t,b)⟩::l) e s=w6 R d e s (lV R K l) (cU op e s):=by rw[FZ,h,mj,ar rfl]
@[simp]def acO{K:En->HS->Out}{d:bE}{op:ll}{t:Nat}{b:Bool}{l:List aP}(h:look e t=some (.bool !b)):lV R K (⟨d,op,some (t,b)⟩::l) e s=lV R K l (e.put d .undef) s:=by rw[FZ,h,mj,au (by cases b<;>simp)]
@[simp]def acP{K:En->HS->Out}{d:bE}{op:ll}{t:Nat}{b:Bool}{l:List aP}(h:look e t=some .undef):lV R K (⟨d,op,some (t,b)⟩::l) e s=lV R K l (e.put d .undef) s:=by rw[FZ,h,zE]
@[simp]def acQ{x:X}{a b:HC}(h:bp x e=some (.bool true)):bJ R (.cond x a b) e s=bJ R a e s:=by rw[CY,h,nw,ar rfl]
@[simp]def acR{x:X}{a b:HC}(h:bp x e=some (.bool false)):bJ R (.cond x a b) e s=bJ R b e s:=by rw[CY,h,nw,au (by simp)]
@[simp]def aht{x:X}{a b:HC}(h:bp x e=some (.bool true)):ev R (.cond x a b) e s=ev R a e s:=by rw[uY,h,nw,ar rfl]
@[simp]def ahu{x:X}{a b:HC}(h:bp x e=some (.bool false)):ev R (.cond x a b) e s=ev R b e s:=by rw[uY,h,nw,au (by simp)]
@[simp]def Ai{v:HV}:rv s (some v)=.v v s:=rfl
@[simp]def Ld:rv s none=.bad:=rfl
@[simp]def acS{p:Prop}[Decidable p]{x y:bO}:rv s (if p then x else y)=if p then rv s x else rv s y:=by split<;>rfl
@[simp]def cH{α:Type}(l:List α):aM l=l.length:=bB l
@[simp]def A7{α:Type}(l:List α)(k:Nat):y8 l k=l[k]?:=vC l k
@[simp]def w7{α:Type}(n:Nat)(l:List α):gE n l=l.take n:=jA n l
@[simp]def w8{α:Type}(n:Nat)(l:List α):ig n l=l.drop n:=lZ n l
def bT{n:Int}(c: -9223372036854775808<=n)(b:n<9223372036854775808):bQ .i64 n=n:=by
 cases n with
 |ofNat m=>
  have h:m<9223372036854775808:=by have:=b;simp only[mW]at this;omega
  have a:Nat.blt m 9223372036854775808=true:=by rw[rE];simpa using h
  show(bif Nat.blt m 9223372036854775808 then Int.ofNat m else _)=_;rw[a];rfl
 |negSucc m=>
  have h:m<9223372036854775808:=by omega
  have a:Nat.blt m 9223372036854775808=true:=by rw[rE];simpa using h
  show(bif Nat.blt m 9223372036854775808 then Int.negSucc m else _)=_;rw[a];rfl
def bo{i n:Nat}(h:i<n)(a:n<=4611686018427387904):bQ .i64 ((i:Int)+1)=(i:Int)+1:=bT (by omega) (by omega)
@[simp]def Xb(a b:Int):vx a b=a+b:=by cases a<;>cases b<;>rfl
@[simp]def Xc(a b:Int):Ie a b=a-b:=by
 cases a with
 |negSucc=>rfl
 |ofNat a=>cases b with|negSucc=>rfl|ofNat b=>show(bif Nat.ble b a then Int.ofNat (a-b)else Int.negSucc (b-(a+1)))=_;rw[bZ];by_cases h:b<=a<;>(simp[h];omega)
def rF(a b:Int):mP a b=decide (a=b):=by rw[qf,qY];simp
def oX(a b:Int):jU a b=decide (a<=b):=by
 cases a with
 |ofNat a=>cases b with|ofNat b=>show Nat.ble a b=_;rw[bZ];simp|negSucc b=>show false=_;symm;simp only[zo,mW];omega
 |negSucc a=>cases b with|ofNat b=>show true=_;symm;simp only[bX,mW];omega|negSucc b=>show Nat.ble b a=_;rw[bZ];rw[qf];simp only[bX];omega
def rG(a b:ay):pY a b=decide (a=b):=by rw[qf,oq];simp
@[simp]def acT{x:X}:cU (.mv x) e s=rv s (bp x e):=rfl
def N6(c:bO)(a b:cR):cR:=bN c (λv=>v.asBool a b .bad) .bad
@[simp]def aac{q:Bool}{a b:cR}:N6 (some (.bool q)) a b=if q=true then a else b:=by cases q<;>rfl
@[simp]def Xd{c a b:X}:cU (.pick c a b) e s=N6 (bp c e) (rv s (bp a e)) (rv s (bp b e)):=rfl
@[simp]def UE{z:aj}:cU (.alloc z) e s=s.new z (λo=>.ptr o 0):=rfl
def Xe(v:bO)(s:HS):cR:=bN v (λv=>bN (cellsOf v) (λl=>s.new l (λo=>.ptr o 0)) .bad) .bad
@[simp]def aad{x:X}:cU (.box x) e s=Xe (bp x e) s:=rfl
def Xf(v:bO)(s:HS):cR:=bN v (λv=>bN (cellsOf v) (λl=>.v (.aw l) s) .bad) .bad
@[simp]def aae{x:X}:cU (.fbx x) e s=Xf (bp x e) s:=rfl
@[simp]def UF{l:aj}:cellsOf (.agg l)=some l:=rfl
@[simp]def UG{k:IntKind}{n:Int}:cellsOf (.int k n)=some [.int k n]:=rfl
@[simp]def R7{b:Bool}:cellsOf (.bool b)=some [.bool b]:=rfl
@[simp]def UH{b:ay}:cellsOf (.str b)=some [.str b]:=rfl
@[simp]def R8:cellsOf .ah=some [.ah]:=rfl
@[simp]def R9:cellsOf .dO=some [.dO]:=rfl
@[simp]def UI{l:aO}:cellsOf (.psl l)=some [.psl l]:=rfl
@[simp]def Sa{l:aj}:cellsOf (.aw l)=some [.aw l]:=rfl
@[simp]def Xg{o:Ky}{a b c:Nat}:cellsOf (.sl o a b c)=some [.sl o a b c]:=rfl
@[simp]def UJ{o:Ky}{a:Nat}:cellsOf (.ptr o a)=some [.ptr o a]:=rfl
@[simp]def Xh{o:Ky}:cellsOf (.mp o)=some [.mp o]:=rfl
@[simp]def Xi{f:Nat}{a b:aj}:cellsOf (.fn f a b)=some [.fn f a b]:=rfl
@[simp]def UK{v:HV}:Xf (some v) s=bN (cellsOf v) (λl=>.v (.aw l) s) .bad:=rfl
@[simp]def UL{v:HV}:Xe (some v) s=bN (cellsOf v) (λl=>s.new l (λo=>.ptr o 0)) .bad:=rfl
@[simp]def Sc:eA e []=some []:=rfl
def EM(v:bO)(n:Nat)(r:Option aj):Option aj:=match v with|some v=>(match cellsOf v,r with|some l,some m=>bif Nat.beq (aM l) n then some (l++m)else none|_,_=>none)|none=>none
@[simp]def Xj{l:aj}{r:List Pc}:eA e (.z l::r)=(eA e r).map (l++ ·):=by rw[eA];cases eA e r<;>rfl
@[simp]def Xk{x:X}{n:Nat}{r:List Pc}:eA e (.x x n::r)=EM (bp x e) n (eA e r):=rfl
@[simp]def N7{v:HV}{n:Nat}{m:aj}:EM (some v) n (some m)=bN (cellsOf v) (λl=>if l.length=n then some (l++m)else none) none:=by
 show(match cellsOf v,some m with|some l,some m=>bif Nat.beq (aM l) n then some (l++m)else none|_,_=>none)=_;cases cellsOf v with
 |none=>rfl
 |some l=>
  show(bif Nat.beq (aM l) n then some (l++m)else none)=if l.length=n then some (l++m)else none
  rw[cH,cL];by_cases h:l.length=n<;>simp[h]
@[simp]def UM{ps:List Pc}:cU (.build ps) e s=bN (eA e ps) (λl=>.v (.agg l) s) .bad:=rfl
@[simp]def Xl{n:Nat}:flat n []=some []:=rfl
@[simp]def UN{n:Nat}{v:HV}{r:aj}:flat n (v::r)=EM (some v) n (flat n r):=rfl
@[simp]def UO{n:Nat}:ju n []=some []:=rfl
@[simp]def Sd{n:Nat}{v:HV}{r:aj}:ju n (v::r)=bN (cellsOf v) (λl=>bN (ju n r) (λm=>if l.length=n then some (l::m)else none) none) none:=by
 rw[ju];cases cellsOf v with
 |none=>rfl
 |some l=>cases ju n r with|none=>rfl|some m=>simp[cL]
@[simp]def aaf{sz:Nat}{xs:List X}:cU (.bsl sz xs) e s=bN (fY xs e) (λl=>bN (flat sz l) (λm=>s.new m (λo=>.sl o 0 xs.length sz)) .bad) .bad:=by show bN (fY xs e) (λl=>bN (flat sz l) (λm=>s.new m (λo=>.sl o 0 (aM xs) sz)) .bad) .bad=_;rw[cH]
@[simp]def aag{sz:Nat}{xs:List X}:cU (.fbl sz xs) e s=bN (fY xs e) (λl=>bN (ju sz l) (λm=>.v (.psl m) s) .bad) .bad:=rfl
def ldV(v:bO)(n:bE)(s:HS):cR:=bN v (λv=>v.kB (λo k=>rv s (s.load o k n)) (rv s (lY v n))) .bad
@[simp]def acU{x:X}{n:bE}:cU (.ld x n) e s=ldV (bp x e) n s:=rfl
@[simp]def aah{o:Ky}{k:Nat}{n:bE}:ldV (some (.ptr o k)) n s=rv s (s.load o k n):=rfl
@[simp]def acV{c:aj}{n:Nat}:ldV (some (.aw c)) (some n) s=if n<=c.length then .v (.agg (c.take n)) s else .bad:=by show rv s (gD (Nat.ble n (aM c)) (some (.agg (gE n c))) none)=_;simp[bZ]
@[simp]def acW{c:aj}:ldV (some (.aw c)) none s=rv s c[0]?:=by show rv s (y8 c 0)=_;rw[A7]
def pR(n:Nat)(p v:bO)(s:HS):cR:=bN p (λp=>p.kB (λo k=>bN v (λv=>bN (cellsOf v) (λl=>gD (Nat.beq (aM l) n) (bN (s.store o k l) (λs'=>.v .undef s') .bad) .bad) .bad) .bad) .bad) .bad
@[simp]def acX{n:Nat}{a x:X}:cU (.st n a x) e s=pR n (bp a e) (bp x e) s:=rfl
@[simp]def iO{n:Nat}{o:Ky}{k:Nat}{v:HV}:pR n (some (.ptr o k)) (some v) s=bN (cellsOf v) (λl=>if l.length=n then bN (s.store o k l) (λs'=>.v .undef s') .bad else .bad) .bad:=by show bN (cellsOf v) (λl=>gD (Nat.beq (aM l) n) (bN (s.store o k l) (λs'=>cR.v .undef s') .bad) .bad) cR.bad=_;simp[cL]
def faV(v:bO)(bm:Nat)(s:HS):cR:=bN v (λv=>v.kB (λo k=>.v (.ptr o (Nat.add k bm)) s) (rv s (faP v bm))) .bad
@[simp]def acY{x:X}{n:Nat}:cU (.fa x n) e s=faV (bp x e) n s:=rfl
@[simp]def aai{o:Ky}{k n:Nat}:faV (some (.ptr o k)) n s=.v (.ptr o (k+n)) s:=rfl
@[simp]def ahv{c:aj}{n:Nat}:faV (some (.aw c)) n s=if n<=c.length then .v (.aw (c.drop n)) s else .bad:=by show rv s (gD (Nat.ble n (aM c)) (some (.aw (ig n c))) none)=_;simp[bZ]
def EN(v i:bO)(sz:Nat)(s:HS):cR:=bN v (λv=>v.Oz (λo bm len DJ=>bN i (λq=>q.asInt (λ_ z=>Int.rec (motive:=λ_=>cR) (λn=>gD (Nat.blt n len) (gD (Nat.beq sz DJ) (.v (.ptr o (Nat.add bm (Nat.mul n sz))) s) .bad) .bad) (λ_=>.bad) z) .bad) .bad) (rv s (Uq v i sz))) .bad
@[simp]def acZ{x i:X}{sz:Nat}:cU (.ia x i sz) e s=EN (bp x e) (bp i e) sz s:=rfl
@[simp]def Xm{aq:aO}{k:IntKind}{n sz:Nat}:EN (some (.psl aq)) (some (.int k (n:Int))) sz s=bN aq[n]? (λr=>if r.length=sz then .v (.aw r) s else .bad) .bad:=by show rv s (match y8 aq n with|some r=>gD (Nat.beq (aM r) sz) (some (HV.aw r)) none|none=>none)=_;rw[A7];cases aq[n]?with|none=>rfl|some r=>simp[cL]
@[simp]def JE{o:Ky}{bm len a:Nat}{k:IntKind}{n sz:Nat}:EN (some (.sl o bm len a)) (some (.int k (n:Int))) sz s=if n<len then if sz=a then .v (.ptr o (bm+n*sz)) s else .bad else .bad:=by show gD (Nat.blt n len) (gD (Nat.beq sz a) (cR.v (.ptr o (Nat.add bm (Nat.mul n sz))) s) .bad) .bad=_;simp[cL,rE]
@[simp]def ac0{aq:aO}{k:IntKind}{sz:Nat}:EN (some (.psl aq)) (some (.int k 0)) sz s=bN aq[0]? (λr=>if r.length=sz then .v (.aw r) s else .bad) .bad:=Xm (n:=0)
@[simp]def ac1{o:Ky}{bm len a:Nat}{k:IntKind}{sz:Nat}:EN (some (.sl o bm len a)) (some (.int k 0)) sz s=if 0<len then if sz=a then .v (.ptr o (bm+0*sz)) s else .bad else .bad:=JE (n:=0)
def xh(k:Nat)(v:bO)(s:HS):cR:=bN v (λv=>bN (K9 k s v) (λn=>.v (.int .i64 (.ofNat n)) s) .bad) .bad
@[simp]def aaj{k:Nat}{x:X}:cU (.len k x) e s=xh k (bp x e) s:=rfl
@[simp]def Xn{l:aO}:xh 0 (some (.psl l)) s=.v (.int .i64 (l.length:Int)) s:=by show cR.v (.int .i64 (.ofNat (aM l))) s=_;rw[cH];rfl
@[simp]def UP:xh 0 (some .ah) s=.v (.int .i64 0) s:=rfl
@[simp]def aak{o:Ky}{a n c:Nat}:xh 0 (some (.sl o a n c)) s=.v (.int .i64 (n:Int)) s:=rfl
@[simp]def Xo{l:ay}:xh 1 (some (.str l)) s=.v (.int .i64 (l.length:Int)) s:=by show cR.v (.int .i64 (.ofNat (aM l))) s=_;rw[cH];rfl
def ny(c:Bool)(op:BinOp)(a b:bO)(s:HS):cR:=bN a (λa=>bN b (λb=>rv s (GR c op a b)) .bad) .bad
@[simp]def aal{a:Bool}{op:BinOp}{x y:X}:cU (.bin a op x y) e s=ny a op (bp x e) (bp y e) s:=rfl
@[simp]def aam{k:IntKind}{a b:Int}:ny false .add (some (.int k a)) (some (.int k b)) s=.v (.int k (bQ k (a+b))) s:=by show rv s (bif decide (k=k)then some (.int k (bQ k (vx a b)))else none)=_;simp
@[simp]def aan{k:IntKind}{a b:Int}:ny false .sub (some (.int k a)) (some (.int k b)) s=.v (.int k (bQ k (a-b))) s:=by show rv s (bif decide (k=k)then some (.int k (bQ k (Ie a b)))else none)=_;simp
@[simp]def aao{k:IntKind}{a b:Int}:ny false .mul (some (.int k a)) (some (.int k b)) s=.v (.int k (bQ k (a*b))) s:=by show rv s (bif decide (k=k)then some (.int k (bQ k (a*b)))else none)=_;simp
@[simp]def aap{k:IntKind}{a b:Int}:ny false .eql (some (.int k a)) (some (.int k b)) s=.v (.bool (decide (a=b))) s:=by show rv s (bif decide (k=k)then some (.bool (mP a b))else none)=_;simp[rF]
@[simp]def aaq{k:IntKind}{a b:Int}:ny false .neq (some (.int k a)) (some (.int k b)) s=.v (.bool (!decide (a=b))) s:=by show rv s (bif decide (k=k)then some (.bool (!mP a b))else none)=_;simp[rF]
@[simp]def aar{k:IntKind}{a b:Int}:ny false .lss (some (.int k a)) (some (.int k b)) s=.v (.bool (decide (a<b))) s:=by show rv s (bif decide (k=k)then some (.bool (!jU b a))else none)=_;simp only[eO,cond_true,Ai,oX];rw[show(!decide (b<=a))=decide (a<b) by by_cases h:a<b<;>simp[h]<;>omega]
@[simp]def aas{k:IntKind}{a b:Int}:ny false .leq (some (.int k a)) (some (.int k b)) s=.v (.bool (decide (a<=b))) s:=by show rv s (bif decide (k=k)then some (.bool (jU a b))else none)=_;simp[oX]
@[simp]def aat{k:IntKind}{a b:Int}:ny false .gtr (some (.int k a)) (some (.int k b)) s=.v (.bool (decide (b<a))) s:=by show rv s (bif decide (k=k)then some (.bool (!jU a b))else none)=_;simp only[eO,cond_true,Ai,oX];rw[show(!decide (a<=b))=decide (b<a) by by_cases h:b<a<;>simp[h]<;>omega]
@[simp]def aau{k:IntKind}{a b:Int}:ny false .geq (some (.int k a)) (some (.int k b)) s=.v (.bool (decide (b<=a))) s:=by show rv s (bif decide (k=k)then some (.bool (jU b a))else none)=_;simp[oX]
@[simp]def Xp{a b:Bool}:ny true .eql (some (.bool a)) (some (.bool b)) s=.v (.bool (a==b)) s:=rfl
@[simp]def Xq{a b:Bool}:ny true .neq (some (.bool a)) (some (.bool b)) s=.v (.bool (a != b)) s:=rfl
@[simp]def Xr{a b:ay}:ny false .neq (some (.str a)) (some (.str b)) s=.v (.bool (!decide (a=b))) s:=by show rv s (some (.bool (!pY a b)))=_;rw[rG];rfl
def unR(op:UnOp)(v:bO)(s:HS):cR:=match v with
  |some (.bool b)=>(match op with|.not=>.v (.bool (!b)) s|_=>.bad)
  |some (.int k n)=>(match op with|.neg=>.v (.int k (bQ k (0-n))) s|_=>.bad)
  |_=>.bad
@[simp]def ac2{op:UnOp}{x:X}:cU (.un op x) e s=unR op (bp x e) s:=rfl
@[simp]def ac3{b:Bool}:unR .not (some (.bool b)) s=.v (.bool (!b)) s:=rfl
@[simp]def ac4{k:IntKind}{n:Int}:unR .neg (some (.int k n)) s=.v (.int k (bQ k (0-n))) s:=rfl
@[simp]def aav{g:Nat}{c cs:List X}:cU (.mkf g c cs) e s=bN (fY c e) (λa=>bN (fY cs e) (λb=>.v (.fn g a b) s) .bad) .bad:=rfl
def Xs(v:bO)(i:Nat)(s:HS):cR:=bN v (λv=>v.NP (λl=>rv s (y8 l i)) .bad) .bad
@[simp]def aaw{x:X}{i:Nat}:cU (.ext x i) e s=Xs (bp x e) i s:=rfl
@[simp]def Xt{l:aj}{i:Nat}:Xs (some (.bM l)) i s=rv s l[i]?:=by show rv s (y8 l i)=_;rw[A7]
def Se(v:bO)(s:HS):cR:=bN v (λv=>v.kB (λo k=>.v (.ptr o k) s) (match v with|.aw c=>.v (.aw c) s|_=>.bad)) .bad
@[simp]def aax{x:X}:cU (.nck x) e s=Se (bp x e) s:=rfl
@[simp]def aay{o:Ky}{k:Nat}:Se (some (.ptr o k)) s=.v (.ptr o k) s:=rfl
@[simp]def Xu{c:aj}:Se (some (.aw c)) s=.v (.aw c) s:=rfl
def mmR(m:Bool)(a b:bO)(s:HS):cR:=match a,b with|some (.int k a),some (.int _ b)=>.v (.int k (bif m then(bif jU a b then b else a)else(bif jU a b then a else b))) s|_,_=>.bad
@[simp]def ac5{m:Bool}{x y:X}:cU (.mm m x y) e s=mmR m (bp x e) (bp y e) s:=rfl
@[simp]def ac6{k j:IntKind}{a b:Int}:mmR true (some (.int k a)) (some (.int j b)) s=.v (.int k (max a b)) s:=by
 show cR.v (.int k (bif true then(bif jU a b then b else a)else(bif jU a b then a else b))) s=_;rw[oX];by_cases h:a<=b
 .simp[h,Int.max_eq_right h]
 simp[h,Int.max_eq_left (Int.le_of_lt (Int.not_le.1 h))]
@[simp]def Xv{f:Nat}{xs:List X}:cU (.call f xs) e s=bN (fY xs e) (λl=>.call f l) .bad:=rfl
def Sf(v:bO)(l:Option aj):cR:=match v,l with|some (.fn f a b),some l=>.call f (a++l++b)|some (.iR r),some l=>.round r l|_,_=>.bad
@[simp]def aaz{x:X}{xs:List X}:cU (.dyn x xs) e s=Sf (bp x e) (fY xs e):=rfl
@[simp]def ac7{f:Nat}{a b l:aj}:Sf (some (.fn f a b)) (some l)=.call f (a++l++b):=rfl
@[simp]def aaA{r:Ky}{l:aj}:Sf (some (.iR r)) (some l)=.round r l:=rfl
def Xw(K:Kd)(neg:Bool)(a b:bO)(s:HS):cR:=match a,b with|some a,some b=>(match ql K a b with|some q=>.v (.bool (q != neg)) s|none=>.bad)|_,_=>.bad
@[simp]def aaB{K:Kd}{neg:Bool}{x y:X}:cU (.eqs K neg x y) e s=Xw K neg (bp x e) (bp y e) s:=rfl
@[simp]def UQ{K:Kd}{neg:Bool}{x y:HV}:Xw K neg (some x) (some y) s=bN (ql K x y) (λq=>.v (.bool (q != neg)) s) .bad:=by show(match ql K x y with|some q=>cR.v (.bool (q != neg)) s|none=>.bad)=_;cases ql K x y<;>rfl
def CZ(k:Nat)(neg:Bool)(v:bO)(s:HS):cR:=bN v (λv=>bN (nM k v) (λq=>.v (.bool (q != neg)) s) .bad) .bad
@[simp]def aaC{k:Nat}{neg:Bool}{x:X}:cU (.niq k neg x) e s=CZ k neg (bp x e) s:=rfl
@[simp]def Xx{neg:Bool}:CZ 3 neg (some .dO) s=.v (.bool (true != neg)) s:=rfl
@[simp]def aaD{neg:Bool}{o:Ky}{k:Nat}:CZ 3 neg (some (.ptr o k)) s=.v (.bool (false != neg)) s:=rfl
@[simp]def Xy{neg:Bool}{c:aj}:CZ 3 neg (some (.aw c)) s=.v (.bool (false != neg)) s:=rfl
end
@[simp]def UR{e:En}{s:HS}:dN e s []=some []:=rfl
@[simp]def US{e:En}{s:HS}{n:Nat}{r:List Rs}:dN e s (.tmp n::r)=bN (look e n) (λv=>bN (dN e s r) (λl=>some (v::l)) none) none:=by
 rw[dN];cases look e n with
 |none=>rfl
 |some v=>cases dN e s r<;>rfl
def N8(v:bO)(s:HS)(sz:bE):bO:=match v with|some (.ptr o k)=>s.load o k sz|some (.aw c)=>lY (.aw c) sz|_=>none
@[simp]def Sg{e:En}{s:HS}{n:Nat}{sz:bE}{r:List Rs}:dN e s (.cell n sz::r)=bN (N8 (look e n) s sz) (λv=>bN (dN e s r) (λl=>some (v::l)) none) none:=by
 rw[dN];cases look e n with
 |none=>rfl
 |some v=>
  cases v<;>try rfl
  .rename_i o k;show(match s.load o k sz,dN e s r with|some v,some l=>some (v::l)|_,_=>none)=bN (s.load o k sz) (λv=>bN (dN e s r) (λl=>some (v::l)) none) none;cases s.load o k sz with
   |none=>rfl
   |some v=>cases dN e s r<;>rfl
  rename_i c;show(match lY (.aw c) sz,dN e s r with|some v,some l=>some (v::l)|_,_=>none)=bN (lY (.aw c) sz) (λv=>bN (dN e s r) (λl=>some (v::l)) none) none;cases lY (.aw c) sz with
  |none=>rfl
  |some v=>cases dN e s r<;>rfl
@[simp]def UT{o:Ky}{k:Nat}{s:HS}{sz:bE}:N8 (some (.ptr o k)) s sz=s.load o k sz:=rfl
def n4:Option aj->HS->Out
 |some [v],s=>.val v s
 |some l,s=>.val (.bM l) s
 |none,_=>.bad 10
@[simp]def ac8{v:HV}{s:HS}:n4 (some [v]) s=.val v s:=rfl
@[simp]def ac9{s:HS}:n4 (some []) s=.val (.bM []) s:=rfl
@[simp]def ada{v w:HV}{l:aj}{s:HS}:n4 (some (v::w::l)) s=.val (.bM (v::w::l)) s:=rfl
def jH(F:HF)(e:En)(s:HS):leave F e s=n4 (dN e s F.rs) s:=by
 unfold leave n4
 split<;>simp_all
def zG(o:Out):bO:=match o with
 |.val v s'=>(match vw s' 16 v with|some (a,_)=>some a|none=>none)
 |_=>none
def n5(a:List Rs)(o:Out):bO:=match o with|.code (.exit _) _ _=>none|.code _ e s=>zG (n4 (dN e s a) s)|_=>none
@[simp]def N9{a:List Rs}{e:En}{s:HS}:n5 a (.code .normal e s)=zG (n4 (dN e s a) s):=rfl
@[simp]def Xz{a:List Rs}{e:En}{s:HS}:n5 a (.code .ret e s)=zG (n4 (dN e s a) s):=rfl
def F0(F:HF)(ih:Task->Out)(args:aj)(h:args.length=F.np):iX F ih args=n5 F.rs (bJ ih F.c (bb args 0) s0):=by
 unfold iX;rw[cH,h,cL];simp only[eO];show(match bJ ih F.c (bb args 0) s0 with
  |.code (.exit _) _ _=>none
  |.code _ e s=>(match leave F e s with
   |.val v s'=>(match vw s' 16 v with|some (a,_)=>some a|none=>none)
   |_=>none)
  |_=>none)=_
 cases bJ ih F.c (bb args 0) s0 with
 |val=>rfl
 |bad=>rfl
 |code x e s=>
  cases x<;>try rfl
  .show(match leave F e s with|.val v s'=>(match vw s' 16 v with|some (a,_)=>some a|none=>none)|_=>none)=_;rw[jH];rfl
  show(match leave F e s with|.val v s'=>(match vw s' 16 v with|some (a,_)=>some a|none=>none)|_=>none)=_;rw[jH];rfl
def uZ{s:HS}{n:Nat}{v:HV}(h:dX v=true):vw s (n+1) v=some (v,[]):=by show(bif dX v then some (v,[])else _)=_;rw[h];rfl
def aa{s:HS}{v:HV}(h:dX v=true):zG (.val v s)=some v:=by show(match vw s (15+1) v with|some (a,_)=>some a|none=>none)=_;rw[uZ h]
section call
variable{L:jg}{prog:Nat->Option HF}
def oY(L:jg)(f:Nat):Bool:= !(Nat.beq f L.dk||Nat.beq f L.str||Nat.beq f L.fmt||(match L.uI with|some t=>Nat.beq f t|none=>false)||Af f L.Ih)
def eT{f:Nat}{args:aj}{s:HS}{K:Out}(h:oY L f=true):se L f args s K=K:=by unfold oY at h;simp only[rq,A8]at h;obtain⟨⟨⟨⟨b,c⟩,d⟩,a⟩,g⟩:=h;unfold se hH;rw[b,c,d,g];cases i:L.uI with|none=>rfl|some t=>rw[i]at a;simp only[cond_false,bN];rw[show Nat.beq f t=false from a];rfl
def sW(L:jg)(f:Nat):Bool:= !(Nat.beq f L.dk||Nat.beq f L.str||Nat.beq f L.fmt||(match L.uI with|some t=>Nat.beq f t|none=>false))
def xA{f:Nat}{r:aj}{l:aO}{s:HS}{K:Out}(h:sW L f=true):se L f [.psl (r::l)] s K=K:=by
 unfold sW at h;simp only[rq,A8]at h;obtain⟨⟨⟨b,c⟩,d⟩,a⟩:=h;have g:hH L f [.psl (r::l)] s K=K:=by unfold hH;cases Af f L.Ih<;>rfl
 unfold se;rw[b,c,d,g];cases i:L.uI with|none=>rfl|some t=>rw[i]at a;simp only[cond_false,bN];rw[show Nat.beq f t=false from a];rfl
def JF(f:Nat)(s:HS)(h:sW L f=true)(b:Af f L.Ih=true):dQ L prog (.call f [.psl []] s)=.val (.psl []) s:=by refine dr ?_ trivial;show se L f [.psl []] s _=_;unfold sW at h;simp only[rq,A8]at h;obtain⟨⟨⟨c,d⟩,g⟩,a⟩:=h;unfold se hH;rw[c,d,g,b];cases i:L.uI with|none=>rfl|some t=>rw[i]at a;simp only[cond_false,bN];rw[show Nat.beq f t=false from a];rfl
def Sh(f:Nat)(F:HF)(args:aj)(v:HV)(s:HS)(b:prog f=some F)(d:oY L f=true)(g:F.pu=true)(i:args.length=F.np)(a:da args=true)(h:n5 F.rs (bJ (dQ L prog) F.c (bb args 0) s0)=some v):
  dQ L prog (.call f args s)=.val v s:=by
 refine dr ?_ trivial;show se L f args s (bu prog (dQ L prog) f args s)=_;rw[eT d];unfold bu;rw[b];simp only[bN,g,cond_true];unfold bP;rw[dy args a,cond_true,a,cond_true,F0 F _ _ i,h];rfl
def Si(f:Nat)(F:HF)(args:aj)(v:HV)(s s':HS)(b:prog f=some F)(d:oY L f=true)(g:F.pu=false)(i:args.length=F.np)(h:∃x e s1,ev (dQ L prog) F.c (bb args 0) s=.code x e s1/\(x=.normal∨x=.ret)/\n4 (dN e s1 F.rs) s1=.val v s'):
  dQ L prog (.call f args s)=.val v s':=by
 refine dr ?_ trivial;show se L f args s (bu prog (dQ L prog) f args s)=_;rw[eT d];unfold bu;rw[b];simp only[bN,g,cond_false];unfold dw;rw[cH,i,cL];simp only[eO];obtain⟨x,e,s1,j,k,a⟩:=h;rw[j];rcases k with rfl|rfl
 .show leave F e s1=_;rw[jH];exact a
 show leave F e s1=_;rw[jH];exact a
def MB(f:Nat)(F:HF)(r:aj)(l:aO)(v:HV)(s:HS)(b:prog f=some F)(d:sW L f=true)(g:F.pu=true)(i:1=F.np)(a:da [.psl (r::l)]=true)(h:n5 F.rs (bJ (dQ L prog) F.c (bb [.psl (r::l)] 0) s0)=some v):
  dQ L prog (.call f [.psl (r::l)] s)=.val v s:=by
 refine dr ?_ trivial;show se L f [.psl (r::l)] s (bu prog (dQ L prog) f [.psl (r::l)] s)=_;rw[xA d];unfold bu;rw[b];simp only[bN,g,cond_true];unfold bP;rw[dy _ a,cond_true,a,cond_true,F0 F _ _ (show [HV.psl (r::l)].length=F.np from i),h];rfl
def F4(f:Nat)(F:HF)(r:aj)(l:aO)(v:HV)(s s':HS)(b:prog f=some F)(d:sW L f=true)(g:F.pu=false)(i:1=F.np)(h:∃x e s1,ev (dQ L prog) F.c (bb [.psl (r::l)] 0) s=.code x e s1/\(x=.normal∨x=.ret)/\n4 (dN e s1 F.rs) s1=.val v s'):
  dQ L prog (.call f [.psl (r::l)] s)=.val v s':=by
 refine dr ?_ trivial;show se L f [.psl (r::l)] s (bu prog (dQ L prog) f [.psl (r::l)] s)=_;rw[xA d];unfold bu;rw[b];simp only[bN,g,cond_false];unfold dw;rw[cH,show [HV.psl (r::l)].length=F.np from i,cL];simp only[eO];obtain⟨x,e,s1,j,k,a⟩:=h;rw[j];rcases k with rfl|rfl
 .show leave F e s1=_;rw[jH];exact a
 show leave F e s1=_;rw[jH];exact a
def Sj(f:Nat)(s:HS)(h:L.uI=some f)(a:Nat.beq f L.dk=false)(b:Nat.beq f L.str=false)(c:Nat.beq f L.fmt=false):dQ L prog (.call f [] s)=.val (.bool true) s:=by refine dr ?_ trivial;show se L f [] s _=_;unfold se;rw[a,b,c,h];simp[bN,lp]
def Sk{c:HC}{e:En}{s:HS}{o:Out}(h:bJ (dQ L prog) (.loop c) e s=o)(a:Good o):dQ L prog (.og c e s)=o:=dr h a
def xB{c:HC}{e:En}{s:HS}:bJ (dQ L prog) (.loop c) e s=(bJ (dQ L prog) c e s).bY (λe' s'=>dQ L prog (.og c e' s')):=rfl
end call
@[simp]def XA:da []=true:=rfl
@[simp]def Hz{v:HV}{r:aj}:da (v::r)=(dX v&&da r):=by rw[da]
@[simp]def aaE{k:IntKind}{n:Int}:dX (.int k n)=true:=by simp[dX]
@[simp]def XB{b:Bool}:dX (.bool b)=true:=by simp[dX]
@[simp]def aaF{b:ay}:dX (.str b)=true:=by simp[dX]
@[simp]def MC{l:aj}:dX (.agg l)=da l:=by rw[dX]
@[simp]def MD{l:aj}:dX (.bM l)=da l:=by rw[dX]
@[simp]def XC{l:aj}:dX (.aw l)=da l:=by rw[dX]
@[simp]def aaG{l:aO}:dX (.psl l)=eM l:=by rw[dX]
@[simp]def XD:dX .dO=true:=by simp[dX]
@[simp]def Sl{f:Nat}{a b:aj}:dX (.fn f a b)=(da a&&da b):=by rw[dX]
@[simp]def UU:eM []=true:=rfl
@[simp]def Sm{v:aj}{r:aO}:eM (v::r)=(da v&&eM r):=by rw[eM]
def cq{α:Type}{f:α->aj}(h:∀x,da (f x)=true)(l:List α):eM (l.map f)=true:=by induction l with|nil=>rfl|cons x r ih=>simp[h x,ih]
@[simp]def Oa{a b:aj}:da (a++b)=(da a&&da b):=by induction a with|nil=>simp|cons x r ih=>simp[ih,A9]
section tries
variable{α:Type}
@[simp]def adb{x:Option α}{t:Tr α}:ax x .e t=.nd x (tl t) (tr t):=rfl
@[simp]def ade{x:Option α}{k:Ky}{t:Tr α}:ax x (.z k) t=.nd (tv t) (ax x k (tl t)) (tr t):=rfl
@[simp]def adf{x:Option α}{k:Ky}{t:Tr α}:ax x (.o k) t=.nd (tv t) (tl t) (ax x k (tr t)):=rfl
@[simp]def ahw:tl (.lf:Tr α)=.lf:=rfl
@[simp]def ahx:tr (.lf:Tr α)=.lf:=rfl
@[simp]def ahy:tv (.lf:Tr α)=none:=rfl
@[simp]def ahz{v:Option α}{l r:Tr α}:tl (.nd v l r)=l:=rfl
@[simp]def ahA{v:Option α}{l r:Tr α}:tr (.nd v l r)=r:=rfl
@[simp]def ahB{v:Option α}{l r:Tr α}:tv (.nd v l r)=v:=rfl
@[simp]def XE{k:Ky}:ak (.lf:Tr α) k=none:=rfl
@[simp]def UW{v:Option α}{l r:Tr α}:ak (.nd v l r) .e=v:=rfl
@[simp]def UX{v:Option α}{l r:Tr α}{k:Ky}:ak (.nd v l r) (.z k)=ak l k:=rfl
@[simp]def UY{v:Option α}{l r:Tr α}{k:Ky}:ak (.nd v l r) (.o k)=ak r k:=rfl
@[simp]def adg:Ky.succ .e=.z .e:=rfl
@[simp]def adh{k:Ky}:Ky.succ (.z k)=.o k:=rfl
@[simp]def adi{k:Ky}:Ky.succ (.o k)=.z k.succ:=rfl
@[simp]def adj:Ky.beq .e .e=true:=rfl
@[simp]def adk{k:Ky}:Ky.beq .e (.z k)=false:=rfl
@[simp]def adl{k:Ky}:Ky.beq .e (.o k)=false:=rfl
@[simp]def adm{k:Ky}:Ky.beq (.z k) .e=false:=rfl
@[simp]def adn{k:Ky}:Ky.beq (.o k) .e=false:=rfl
@[simp]def ado{j k:Ky}:Ky.beq (.z j) (.z k)=Ky.beq j k:=rfl
@[simp]def adp{j k:Ky}:Ky.beq (.z j) (.o k)=false:=rfl
@[simp]def adq{j k:Ky}:Ky.beq (.o j) (.z k)=false:=rfl
@[simp]def adr{j k:Ky}:Ky.beq (.o j) (.o k)=Ky.beq j k:=rfl
@[simp]def UZ(x y:Option α)(k:Ky):∀t:Tr α,ax x k (ax y k t)=ax x k t:=by induction k with|e=>intro t;rfl|z k ih=>intro t;simp[ih]|o k ih=>intro t;simp[ih]
@[simp]def sX(x:Option α)(k:Ky)(t:Tr α):ak (ax x k t) k=x:=by rw[af,ar rfl]
def zH(x:Option α):∀(n k:Nat),k<n->mN x n k=mN x (k+1) k:=by
 intro n
 induction n using Nat.strongRecOn with
 |ind n ih=>
  intro k hk;cases n with
  |zero=>omega
  |succ n=>
   have he:∀m,mN x (m+1) k=Bool.rec (Bool.rec (.nd none .lf (mN x m ((k-1)/2))) (.nd none (mN x m (k/2)) .lf) (Nat.beq (k%2) 1)) (.nd x .lf .lf) (Nat.beq k 0):=λm=>rfl
   rw[he n,he k];by_cases h0:k=0
   .subst h0;rfl
   rw[show Nat.beq k 0=false by rw[cL];simp[h0]];have a:mN x n (k/2)=mN x k (k/2):=by rw[ih n (by omega) (k/2) (by omega),<-ih k (by omega) (k/2) (by omega)]
   have b:mN x n ((k-1)/2)=mN x k ((k-1)/2):=by rw[ih n (by omega) ((k-1)/2) (by omega),<-ih k (by omega) ((k-1)/2) (by omega)]
   rw[a,b]
def F5(x:Option α)(k:Nat):je x .lf k=mN x (k+1) k:=rfl
def nz(x:Option α)(t:Tr α)(k:Nat):je x t k=if k=0 then .nd x (tl t) (tr t)else if k%2=1 then .nd (tv t) (je x (tl t) (k/2)) (tr t)else .nd (tv t) (tl t) (je x (tr t) ((k-1)/2)):=by
 cases t with
 |nd v l r=>
  show(Bool.rec (motive:=λ_=>Tr α) (Bool.rec (motive:=λ_=>Tr α) (.nd v l (je x r ((k-1)/2))) (.nd v (je x l (k/2)) r) (Nat.beq (k%2) 1)) (.nd x l r) (Nat.beq k 0))=_;rw[cL,cL];by_cases h0:k=0
  .simp[h0]
  by_cases a:k%2=1<;>simp[h0,a]
 |lf=>
  have he:je x .lf k=(Bool.rec (motive:=λ_=>Tr α) (Bool.rec (motive:=λ_=>Tr α) (.nd none .lf (mN x k ((k-1)/2))) (.nd none (mN x k (k/2)) .lf) (Nat.beq (k%2) 1)) (.nd x .lf .lf) (Nat.beq k 0)):=rfl;rw[he,cL,cL];by_cases h0:k=0
  .simp[h0]
  have b:mN x k (k/2)=je x .lf (k/2):=by rw[F5];exact zH x k (k/2) (by omega)
  have c:mN x k ((k-1)/2)=je x .lf ((k-1)/2):=by rw[F5];exact zH x k ((k-1)/2) (by omega)
  rw[b,c];by_cases a:k%2=1<;>simp[h0,a]
def HA(x y:Option α)(k:Nat):∀t:Tr α,je x (je y t k) k=je x t k:=by
 induction k using Nat.strongRecOn with
 |ind k ih=>
  intro t;rw[nz y,nz x _ k,nz x t k];by_cases h0:k=0
  .simp[h0]
  by_cases a:k%2=1
  .simp[h0,a,ih (k/2) (by omega)]
  simp[h0,a,ih ((k-1)/2) (by omega)]
def HB(x y:Option α)(k:Nat):∀(j:Nat) (t:Tr α),j≠k->je x (je y t j) k=je y (je x t k) j:=by
 induction k using Nat.strongRecOn with
 |ind k ih=>
  intro j t d;rw[nz y t j,nz x _ k,nz y _ j,nz x t k];by_cases h0:k=0
  .by_cases a:j=0
   .omega
   by_cases b:j%2=1<;>simp[h0,a,b]
  by_cases a:j=0
  .by_cases c:k%2=1<;>simp[h0,a,c]
  by_cases b:j%2=1<;>by_cases c:k%2=1
  .simp[h0,a,c,b,ih (k/2) (by omega) (j/2) _ (by omega)]
  .simp[h0,a,c,b]
  .simp[h0,a,c,b]
  simp[h0,a,c,b,ih ((k-1)/2) (by omega) ((j-1)/2) _ (by omega)]
end tries
def cM(l:aj):Tr HV:=cY l 0 .lf
def gB(v:HV)(l:aj)(k:Nat)(t:Tr HV):cY (v::l) k t=cY l (k+1) (je (some v) t k):=rfl
def HD(l:aj):∀(k j:Nat) (v:HV) (t:Tr HV),j<k->cY l k (je (some v) t j)=je (some v) (cY l k t) j:=by induction l with|nil=>intro k j v t h;rfl|cons w l ih=>intro k j v t h;rw[gB,gB,HB _ _ k j t (by omega),ih (k+1) j v _ (by omega)]
def HE(l:aj):∀(k j:Nat) (v:HV) (t:Tr HV),k<=j->j<k+l.length->je (some v) (cY l k t) j=cY (l.set (j-k) v) k t:=by
 induction l with
 |nil=>intro k j v t b a;simp at a;omega
 |cons w l ih=>
  intro k j v t b a;by_cases h:j=k
  .subst h;rw[gB,<-HD _ _ _ _ _ (by omega),HA];simp[gB]
  rw[gB,ih (k+1) j v _ (by omega) (by simp at a;omega),show j-k=(j-(k+1))+1 by omega];simp[gB]
def Ia(l:aj)(j:Nat):aj->aj
 |[]=>l
 |v::r=>Ia (l.set j v) (j+1) r
@[simp]def aaH{l:aj}{j:Nat}:Ia l j []=l:=rfl
@[simp]def xC{l:aj}{j:Nat}{v:HV}{r:aj}:Ia l j (v::r)=Ia (l.set j v) (j+1) r:=rfl
def JG(new:aj):∀(l:aj) (j:Nat),j+new.length<=l.length->cY new j (cM l)=cM (Ia l j new):=by induction new with|nil=>intro l j h;rfl|cons v r ih=>intro l j h;simp only[az]at h;rw[gB];show cY r (j+1) (je (some v) (cY l 0 .lf) j)=_;rw[HE l 0 j v .lf (by omega) (by omega)];exact ih (l.set j v) (j+1) (by simp;omega)
def JH(l:aj):∀(new:aj) (k:Nat) (t:Tr HV),cY new (k+l.length) (cY l k t)=cY (l++new) k t:=by induction l with|nil=>intro new k t;rfl|cons v l ih=>intro new k t;rw[gB,List.cons_append,gB,az,show k+(l.length+1)=(k+1)+l.length by omega];exact ih new (k+1) _
def JI(l new:aj)(k:Nat)(h:k=l.length):cY new k (cM l)=cM (l++new):=by subst h;have:=JH l new 0 .lf;rw[bF]at this;exact this
@[simp]def rH{l:aj}{k:Nat}:fE (cM l) k=l[k]?:=by
 show fE (cY l 0 .lf) k=_;rw[fj];by_cases h:k<l.length
 .rw[ar (by omega)];simp
 rw[au (by omega),uJ,zq (by omega)]
def ME(t:Tr HV)(l:aj):∀(n k:Nat),(∀i,i<n->fE t (k+i)=l[k+i]?)->k+n<=l.length->mO t n k=some ((l.drop k).take n):=by
 intro n
 induction n with|zero=>intro k _ _;simp;rfl|succ n ih=>intro k h hl;have he:mO t (n+1) k=Option.rec none (λv=>Option.rec none (λl=>some (v::l)) (mO t n (k+1))) (fE t k):=rfl;have h0:=h 0 (by omega);rw[gH,aR (by omega)]at h0;rw[he,h0,ih (k+1) (λi hi=>by have:=h (i+1) (by omega);rwa[show k+(i+1)=k+1+i by omega]at this) (by omega)];show some (_::_)=_;rw[nU (show k<l.length by omega),List.take_succ_cons]
def JJ{l:aj}{n k:Nat}(h:k+n<=l.length):mO (cM l) n k=some ((l.drop k).take n):=ME _ _ _ _ (λi _=>rH) h
section mem
variable{s:HS}
@[simp]def vM{l:aj}{K:Ky->HV}:s.new l K=.v (K s.nx) {h:=ax (some (.cells (cM l) 0 l.length s.nx)) s.nx s.h,nx:=s.nx.succ,gr:=ax (some [s.nx]) s.nx s.gr,ty:=s.ty}:=by show cR.v (K s.nx) {h:=ax (some (.cells (cY l 0 .lf) 0 (aM l) s.nx)) s.nx s.h,nx:=s.nx.succ,gr:=ax (some [s.nx]) s.nx s.gr,ty:=s.ty}=_;rw[cH];rfl
def eG(b:Option Ob)(k:Nat):bO:=match b with|some (.cells t a c _)=>if a<=k then if k<c then fE t k else none else none|_=>none
@[simp]def xD{l:aj}{a b k:Nat}{g:Ky}:eG (some (.cells (cM l) a b g)) k=if a<=k then if k<b then l[k]?else none else none:=by show(if a<=k then if k<b then fE (cM l) k else none else none)=_;rw[rH]
@[simp]def Ba{o:Ky}{k:Nat}:s.cell o k=eG (ak s.h o) k:=by
 unfold HS.cell eG;cases ak s.h o with
 |none=>rfl
 |some b=>cases b with|cells t c d g=>show gD (Nat.ble c k) (gD (Nat.blt k d) (fE t k) none) none=_;simp[bZ,rE]|mp f=>rfl|loop i a j ps iS body=>rfl
def fI(b:Option Ob)(k n:Nat):Option aj:=match b with|some (.cells t a c _)=>if a<=k then if k+n<=c then mO t n k else none else none|_=>none
def ao{l:aj}{a b k n:Nat}{g:Ky}(c:a<=k)(d:k+n<=b)(f:k+n<=l.length):fI (some (.cells (cM l) a b g)) k n=some ((l.drop k).take n):=by show(if a<=k then if k+n<=b then mO (cM l) n k else none else none)=_;rw[ar c,ar d,JJ f]
@[simp]def ib{o:Ky}{k n:Nat}:s.bz o k n=fI (ak s.h o) k n:=by
 unfold HS.bz fI;cases ak s.h o with
 |none=>rfl
 |some b=>cases b with|cells t c d g=>show gD (Nat.ble c k) (gD (Nat.ble (Nat.add k n) d) (mO t n k) none) none=_;simp[bZ]|mp f=>rfl|loop i a j ps iS body=>rfl
@[simp]def ads{o:Ky}{k:Nat}:s.load o k none=s.cell o k:=rfl
@[simp]def adt{o:Ky}{k n:Nat}:s.load o k (some n)=bN (s.bz o k n) (λl=>some (.agg l)) none:=rfl
def jX(s:HS)(b:Option Ob)(o:Ky)(k:Nat)(l:aj):Option HS:=match b with
 |some (.cells t a c g)=>if a<=k then if k+l.length<=c then(match ak s.gr g with|some d=>s.kC o k l t a c g d|none=>none)else none else none
 |_=>none
@[simp]def kR{o:Ky}{k:Nat}{l:aj}:s.store o k l=jX s (ak s.h o) o k l:=by
 unfold HS.store jX;cases ak s.h o with
 |none=>rfl
 |some b=>cases b with
  |cells t a c g=>show gD (Nat.ble a k) (gD (Nat.ble (Nat.add k (aM l)) c) (bN (ak s.gr g) (s.kC o k l t a c g) none) none) none=_;simp only[JC,bZ,MA,cH,bX];cases ak s.gr g<;>rfl
  |mp f=>rfl
  |loop i d j ps iS body=>rfl
def JK(s:HS)(ms:Option cg)(o:Ky)(k:Nat)(l new:aj)(a b:Nat)(g:Ky):Option HS:=match ms with|some ms=>s.kC o k new (cM l) a b g ms|none=>none
def ai{o:Ky}{k:Nat}{l new:aj}{a b:Nat}{g:Ky}(c:a<=k)(d:k+new.length<=b):jX s (some (.cells (cM l) a b g)) o k new=JK s (ak s.gr g) o k l new a b g:=by show(if a<=k then if k+new.length<=b then(match ak s.gr g with|some f=>s.kC o k new (cM l) a b g f|none=>none)else none else none)=_;rw[ar c,ar d];cases ak s.gr g<;>rfl
def an{o m:Ky}{k:Nat}{l new:aj}{a b:Nat}{g:Ky}(h:k+new.length<=l.length):JK s (some [m]) o k l new a b g=some {h:=ax (some (.cells (cM (Ia l k new)) a b g)) o s.h,nx:=s.nx,gr:=s.gr,ty:=s.ty}:=by show some (HS.mk (ax (some (.cells (cY new k (cM l)) a b g)) o s.h) s.nx s.gr s.ty)=_;rw[JG new l k h]
end mem
mutual
def xE:∀v:HV,fw v v=true
 |.int k n=>by show(decide (k=k)&&mP n n)=true;simp[rF]
 |.bool b=>by show(b==b)=true;simp
 |.str l=>by show pY l l=true;simp[rG]
 |.ah=>rfl
 |.dO=>rfl
 |.gG=>rfl
 |.fK=>rfl
 |.fQ=>rfl
 |.undef=>rfl
 |.ptr o k=>by show(o.beq o&&Nat.beq k k)=true;simp[Ky.beq_iff]
 |.sl o a b c=>by show(o.beq o&&Nat.beq a a&&Nat.beq b b&&Nat.beq c c)=true;simp[Ky.beq_iff]
 |.mp o=>by show o.beq o=true;simp[Ky.beq_iff]
 |.fn f a b=>by show(Nat.beq f f&&fw.ij a a&&fw.ij b b)=true;simp[ic a,ic b]
 |.iR o=>by show o.beq o=true;simp[Ky.beq_iff]
 |.agg l=>by show fw.ij l l=true;exact ic l
 |.bM l=>by show fw.ij l l=true;exact ic l
 |.aw l=>by show fw.ij l l=true;exact ic l
 |.psl l=>by show fw.qn l l=true;exact tQ l
def ic:∀l:aj,fw.ij l l=true
 |[]=>rfl
 |v::r=>by show(fw v v&&fw.ij r r)=true;rw[xE v,ic r];rfl
def tQ:∀l:aO,fw.qn l l=true
 |[]=>rfl
 |v::r=>by show(fw.ij v v&&fw.qn r r)=true;rw[ic v,tQ r];rfl
end
section drawn
variable{R:Task->Out}{e:En}{s:HS}
def JL:DK->List HS->HS->List HS
 |.r,b,_=>b
 |.l _ _,b,_=>b
 |.a,b,s=>b++[s]
 |.e,b,s=>b++[s]
@[simp]def ahC{vs:List HS}:JL .r vs s=vs:=rfl
@[simp]def ahD{vs:List HS}{a b:Nat}:JL (.l a b) vs s=vs:=rfl
@[simp]def ahE{vs:List HS}:JL .a vs s=vs++[s]:=rfl
@[simp]def ahF{vs:List HS}:JL .e vs s=vs++[s]:=rfl
def XF{K:En->HS->Out}{d:bE}{op:ll}:one R ⟨d,op,none⟩ e s K=w6 R d e s K (cU op e s):=Xa (l:=[])
def XG{K:En->HS->Out}{d:bE}{op:ll}{t:Nat}{b:Bool}:one R ⟨d,op,some (t,b)⟩ e s K=W9 (look e t) b (w6 R d e s K (cU op e s)) (K (e.put d .undef) s):=FZ (l:=[])
@[simp]def XH{K:En->HS->List HS->Out}{vs:List HS}:kG R K [] e s vs=K e s vs:=rfl
def zI{K:En->HS->List HS->Out}{vs:List HS}{i:Nat}{o:aP}{k:DK}{l:List dL}:kG R K (⟨i,o,k⟩::l) e s vs=one R o e s (λe' s'=>kG R K l e' s' (JL k vs s')):=by cases k<;>rfl
@[simp]def adu{K:En->HS->List HS->Out}{vs:List HS}{i:Nat}{d:bE}{op:ll}{k:DK}{l:List dL}:kG R K (⟨i,⟨d,op,none⟩,k⟩::l) e s vs=w6 R d e s (λe' s'=>kG R K l e' s' (JL k vs s')) (cU op e s):=by rw[zI,XF]
def EP{K:En->HS->List HS->Out}{vs:List HS}{i:Nat}{d:bE}{op:ll}{t:Nat}{b:Bool}{k:DK}{l:List dL}:kG R K (⟨i,⟨d,op,some (t,b)⟩,k⟩::l) e s vs=W9 (look e t) b (w6 R d e s (λe' s'=>kG R K l e' s' (JL k vs s')) (cU op e s)) (kG R K l (e.put d .undef) s (JL k vs s)):=by rw[zI,XG]
@[simp]def aaI{K:En->HS->List HS->Out}{vs:List HS}{i:Nat}{d:bE}{op:ll}{t:Nat}{b:Bool}{k:DK}{l:List dL}(h:look e t=some (.bool b)):kG R K (⟨i,⟨d,op,some (t,b)⟩,k⟩::l) e s vs=w6 R d e s (λe' s'=>kG R K l e' s' (JL k vs s')) (cU op e s):=by rw[EP,h,mj,ar rfl]
@[simp]def aaJ{K:En->HS->List HS->Out}{vs:List HS}{i:Nat}{d:bE}{op:ll}{t:Nat}{b:Bool}{k:DK}{l:List dL}(h:look e t=some (.bool !b)):kG R K (⟨i,⟨d,op,some (t,b)⟩,k⟩::l) e s vs=kG R K l (e.put d .undef) s (JL k vs s):=by rw[EP,h,mj,au (by cases b<;>simp)]
@[simp]def aaK{K:En->HS->List HS->Out}{vs:List HS}{i:Nat}{d:bE}{op:ll}{t:Nat}{b:Bool}{k:DK}{l:List dL}(h:look e t=some .undef):kG R K (⟨i,⟨d,op,some (t,b)⟩,k⟩::l) e s vs=kG R K l (e.put d .undef) s (JL k vs s):=by rw[EP,h,zE]
@[simp]def adv{outs:ay}{main:List dL}{a:List aP}:NV R outs main a e s=kG R (λe1 s' vs=>if bS e1 vs main=true then lV R (λe' b=>.code .normal (gL outs e' e) b) a e1 s' else .bad 14) main e s [s]:=by show kG R (λe1 s' vs=>gD (bS e1 vs main) (lV R (λe' b=>.code .normal (gL outs e' e) b) a e1 s') (.bad 14)) main e s [s]=_;simp only[JC]
def rdK(v:bO)(r:cR):Bool:=match v,r with|some v,.v u _=>fw v u|_,_=>false
@[simp]def XI{v:HV}:rdK (some v) (.v v s)=true:=xE v
@[simp]def aaL{vs:List HS}:bS e vs []=true:=rfl
@[simp]def ahG{vs:List HS}{i:Nat}{o:aP}{r:List dL}:bS e vs (⟨i,o,.r⟩::r)=bS e vs r:=by rw[bS];simp
@[simp]def ahH{vs:List HS}{i:Nat}{o:aP}{r:List dL}:bS e vs (⟨i,o,.a⟩::r)=bS e vs r:=by rw[bS];simp
@[simp]def ahI{vs:List HS}{i:Nat}{o:aP}{r:List dL}:bS e vs (⟨i,o,.e⟩::r)=bS e vs r:=by rw[bS];simp
def gdB(v:bO)(b:Bool)(x:Bool):Bool:=match v with|some (.bool q)=>if q=b then x else true|some .undef=>true|_=>false
@[simp]def XJ{q b x:Bool}:gdB (some (.bool q)) b x=if q=b then x else true:=rfl
@[simp]def U0{b x:Bool}:gdB (some .undef) b x=true:=rfl
@[simp]def ahJ{vs:List HS}{i a b:Nat}{d:bE}{op:ll}{r:List dL}:bS e vs (⟨i,⟨d,op,none⟩,.l a b⟩::r)=(gV ⟨d,op,none⟩ e (b-a) (vs.drop a)&&bS e vs r):=by rw[bS];rfl
@[simp]def adw{vs:List HS}{i a c t:Nat}{b:Bool}{d:bE}{op:ll}{r:List dL}:bS e vs (⟨i,⟨d,op,some (t,b)⟩,.l a c⟩::r)=(gdB (look e t) b (gV ⟨d,op,some (t,b)⟩ e (c-a) (vs.drop a))&&bS e vs r):=by
 rw[bS]
 congr 1
 have f:kD e (aP.mk d op (some (t,b))).g=match look e t with|some (.bool q)=>some (q==b)|some .undef=>some false|_=>none:=rfl
 show(match kD e (aP.mk d op (some (t,b))).g with|some true=>_|some false=>true|none=>false)=_;rw[f];cases look e t with
 |none=>rfl
 |some v=>
  cases v<;>try rfl
  rename_i q;cases q<;>cases b<;>rfl
@[simp]def aaM{d:Nat}{op:ll}{g:Option (Nat×Bool)}{r:List HS}:gV ⟨some d,op,g⟩ e 0 (s::r)=rdK (look e d) (cU op e s):=by rw[gV];simp only[jb];cases look e d<;>cases cU op e s<;>rfl
@[simp]def aaN{d:Nat}{op:ll}{g:Option (Nat×Bool)}{n:Nat}{r:List HS}:gV ⟨some d,op,g⟩ e (n+1) (s::r)=(rdK (look e d) (cU op e s)&&gV ⟨some d,op,g⟩ e n r):=by
 rw[gV]
 congr 1
end drawn
def fg(k:IntKind)(a b:Int):HV.y7 (.int k a) (.int k b)=some (decide (a=b)):=by show(bif decide (k=k)then some (mP a b)else none)=_;simp[rF]
def MF(a b:ay):HV.y7 (.str a) (.str b)=some (decide (a=b)):=by show some (pY a b)=_;rw[rG]
def ee(x y:HV)(r t:aj)(q a:Bool)(h:x.y7 y=some q)(b:sh r t=some a):sh (x::r) (y::t)=some (q&&a):=by
 rw[sh,h];cases q
 .rfl
 simp[b]
def u9:sh [] []=some true:=by rw[sh]
def vc(a:ay)(l m:aj)(b:df a l=true)(c:df a m=true):ql ⟨true,a⟩ (.agg l) (.agg m)=sh l m:=by show(bif true then(bif df a l&&df a m then sh l m else none)else _)=_;rw[b,c];rfl
abbrev iV(n:Int):HV:=.int .i64 n
structure Mv where
 id:Int
 arg:Int
 kind:Int
 n:Int
 deriving DecidableEq,Inhabited
abbrev bc:=List Mv
structure Bs where
 cell:Bool
 n:Int
 deriving DecidableEq,Inhabited
abbrev tR:=List Bs
structure Ty where
 ps:tR
 res:Bs
 deriving DecidableEq,Inhabited
abbrev xF:=List Ty
structure Ar where
 ids:xF
 root:Bs
 jumps:Bool
 deriving DecidableEq,Inhabited
@[simp]def Mv.c(m:Mv):aj:=[.int .i64 m.id,.int .i64 m.arg,.int .u8 m.kind,.int .i64 m.n]
@[simp]def Bs.c(b:Bs):aj:=[.bool b.cell,.int .i64 b.n]
@[simp]def Ty.c(t:Ty):aj:=[.psl (t.ps.map Bs.c),.bool t.res.cell,.int .i64 t.res.n]
@[simp]def Ar.c(a:Ar):aj:=[.psl (a.ids.map Ty.c),.bool a.root.cell,.int .i64 a.root.n,.bool a.jumps]
@[simp]def pS(l:bc):eM (l.map Mv.c)=true:=cq (λx=>by simp) l
@[simp]def aaO(l:tR):eM (l.map Bs.c)=true:=cq (λx=>by simp) l
@[simp]def F6(l:xF):eM (l.map Ty.c)=true:=cq (λx=>by simp) l
def Sz(sz:Nat)(aq:aO):Prop:=∀r∈aq,r.length=sz
def Sz.nil{sz:Nat}:Sz sz []:=λ_ h=>by cases h
def Sz.cons{sz:Nat}{r:aj}{aq:aO}(h:r.length=sz)(b:Sz sz aq):Sz sz (r::aq):=by
 intro x a;rcases bk.1 a with rfl|a
 .exact h
 exact b x a
def Sz.append{sz:Nat}{a b:aO}(h:Sz sz a)(k:Sz sz b):Sz sz (a++b):=by
 intro x c;rcases cP.1 c with c|c
 .exact h x c
 exact k x c
def Sz.map{α:Type}{sz:Nat}{f:α->aj}(h:∀x,(f x).length=sz)(l:List α):Sz sz (l.map f):=by intro x a;obtain⟨y,_,rfl⟩:=dt.1 a;exact h y
@[simp]def ml:aB []=[]:=rfl
@[simp]def cV{r:aj}{aq:aO}:aB (r::aq)=r++aB aq:=rfl
@[simp]def jY{a b:aO}:aB (a++b)=aB a++aB b:=by induction a with|nil=>rfl|cons r a ih=>simp[ih]
def cI{sz:Nat}{aq:aO}(h:Sz sz aq):(aB aq).length=aq.length*sz:=by induction aq with|nil=>simp|cons r aq ih=>rw[cV,cA,ih λx a=>h x (cS _ a),h r dm,az,jE,vZ]
def HG{sz:Nat}{aq:aO}(h:Sz sz aq)(i:Nat)(a:i<aq.length):((aB aq).drop (i*sz)).take sz=aq[i]:=by
 induction aq generalizing i with
 |nil=>simp at a
 |cons r aq ih=>
  have b:r.length=sz:=h r dm;cases i with
  |zero=>simp[<-b]
  |succ i=>
   have c:(r++aB aq).drop sz=aB aq:=by rw[<-b];simp
   rw[cV,jE,vZ,<-List.drop_drop,c];exact ih (λx d=>h x (cS _ d)) i (by simpa using a)
def gz{sz:Nat}{aq:aO}(h:Sz sz aq)(i j:Nat)(a:i<aq.length)(b:j<sz):(aB aq)[i*sz+j]?=(aq[i])[j]?:=by rw[<-HG h i a,rh b,l6]
def oZ{sz:Nat}{aq:aO}(h:Sz sz aq):jv sz aq.length (aB aq)=aq:=by induction aq with|nil=>rfl|cons r aq ih=>have b:r.length=sz:=h r dm;show gE sz (r++aB aq)::jv sz aq.length (ig sz (r++aB aq))=_;rw[w7,w8,C0 (by omega),iH (by omega),List.drop_append_of_le_length (by omega),Cr (by omega),bA,ih λx a=>h x (cS _ a)]
def mo{sz:Nat}{aq:aO}(h:Sz sz aq):cZ sz aq=true:=by induction aq with|nil=>rfl|cons r aq ih=>show(Nat.beq (aM r) sz&&cZ sz aq)=true;rw[ih λx a=>h x (cS _ a),cH,h r dm,cL];simp
def xG{aq:aO}:da (aB aq)=eM aq:=by induction aq with|nil=>rfl|cons r aq ih=>simp[ih]
section
variable{s:HS}
def MG(s:HS)(sz bw:Nat)(f:bE)(o:Ky)(bm len:Nat)(new:aj)(dP:Nat)(g:Ky)(p:Tr Ob×List Ky):cR:=match p with
  |(h0,b)=>match bI h0 o (bm+len*sz) (bm+len*sz+aM new) b with
          |(c,a)=>match ak c o with
            |some (.cells t d i _)=>
              bif iW o a&&Nat.ble d bm&&Nat.ble (bm+len*sz) i&&Nat.ble (len+dP) bw then
                .v (.sl s.nx bm (len+dP) sz) {h:=ax (some (.cells (cY new (bm+len*sz) t) bm (bm+len*sz+aM new) g)) s.nx (ax (some (.cells t d (bm+len*sz) g)) o c),nx:=s.nx.succ,gr:=ax (some (s.nx::a)) g s.gr,ty:=lJ f o s}
              else .bad
            |_=>.bad
def jF{sz bw dP:Nat}{a:bE}{new:aj}(h0:dP≠0)(b:dP<=bw):s.append sz bw a .ah new dP=s.B2 (DQ a s) new (λo=>.sl o 0 dP sz):=by show(bif Nat.beq dP 0 then cR.v .ah s else bif Nat.ble dP bw then s.B2 (DQ a s) new (λo=>.sl o 0 dP sz)else .bad)=_;rw[cL,bZ];simp[h0,b]
@[simp]def pJ{ty:Tr (Nat×Nat)}{l:aj}{K:Ky->HV}:s.B2 ty l K=.v (K s.nx) {h:=ax (some (.cells (cM l) 0 l.length s.nx)) s.nx s.h,nx:=s.nx.succ,gr:=ax (some [s.nx]) s.nx s.gr,ty:=ty}:=by show cR.v (K s.nx) {h:=ax (some (.cells (cY l 0 .lf) 0 (aM l) s.nx)) s.nx s.h,nx:=s.nx.succ,gr:=ax (some [s.nx]) s.nx s.gr,ty:=ty}=_;rw[cH];rfl
def mb{sz bw dP:Nat}{a:bE}{new:aj}{o:Ky}{bm len:Nat}{t:Tr HV}{b c:Nat}{g:Ky}{ms:cg}(h0:dP≠0)(d:ak s.h o=some (.cells t b c g))(f:ak s.gr g=some ms):
  s.append sz bw a (.sl o bm len sz) new dP=MG s sz bw a o bm len new dP g (eL s.h 12 ms):=by
 unfold HS.append;simp only[cL,eO,h0,kJ,cond_false,nV,d,f];rfl
@[simp]def U1:DQ none s=s.ty:=rfl
@[simp]def U2{o:Ky}:lJ none o s=s.ty:=rfl
def lS(sz bw:Nat)(f:bE)(x y:bO)(s:HS):cR:=match x,y with
  |some a,some b=>bif iz a then(match b with
   |.ah=>.v a s
   |.sl o d len _=>bif Nat.beq len 0 then .v a s else bN (s.bz o d (len*sz)) (λl=>s.append sz bw f a l len) .bad
   |.psl c=>bif Nat.beq (aM c) 0 then .v a s else bif cZ sz c then s.append sz bw f a (aB c) (aM c)else .bad
   |_=>.bad)else .bad
  |_,_=>.bad
variable{e:En}
@[simp]def aaP{sz bw:Nat}{a:bE}{x ys:X}:cU (.app sz bw a x ys) e s=lS sz bw a (bp x e) (bp ys e) s:=rfl
def mq{sz bw:Nat}{a:bE}{v:HV}(h:iz v=true):lS sz bw a (some v) (some (.psl [])) s=.v v s:=by show(bif iz v then(bif Nat.beq (aM ([]:aO)) 0 then cR.v v s else _)else _)=_;rw[h];rfl
def mr{sz bw:Nat}{a:bE}{v:HV}{aq:aO}(h:iz v=true)(h0:aq≠ [])(b:Sz sz aq):lS sz bw a (some v) (some (.psl aq)) s=s.append sz bw a v (aB aq) aq.length:=by
 show(bif iz v then(bif Nat.beq (aM aq) 0 then cR.v v s else bif cZ sz aq then s.append sz bw a v (aB aq) (aM aq)else .bad)else .bad)=_;rw[h,mo b,cH,cL];have:aq.length≠0:=by simpa using h0
 simp[this]
def MH(v:bO):bE:=match v with|some v=>NQ v|none=>none
@[simp]def XK{k:IntKind}{n:Nat}:MH (some (.int k (n:Int)))=some n:=rfl
@[simp]def adx{k:IntKind}:MH (some (.int k 0))=some 0:=rfl
@[simp]def ady{k:IntKind}:MH (some (.int k 1))=some 1:=rfl
@[simp]def HH{d:Nat}:fu e d none=some d:=rfl
@[simp]def U3{d:Nat}{x:X}:fu e d (some x)=MH (bp x e):=by rw[fu];cases bp x e<;>rfl
def C1(v:bO)(d f:Nat->bE)(g:Option X)(sz:Nat)(s:HS):cR:=match v with
  |some (.sl o h len i)=>(match d 0,f len,g with
   |some a,some b,none=>bif Nat.ble a b&&Nat.ble b len&&Nat.beq sz i then .v (.sl o (h+a*sz) (b-a) sz) s else .bad
   |_,_,_=>.bad)
  |some (.psl c)=>(match d 0,f (aM c),g with
   |some a,some b,none=>bif Nat.ble a b&&Nat.ble b (aM c)&&cZ sz c then .v (.psl (gE (b-a) (ig a c))) s else .bad
   |_,_,_=>.bad)
  |some .ah=>(match d 0,f 0,g with|some 0,some 0,none=>.v .ah s|_,_,_=>.bad)
  |_=>.bad
@[simp]def aaQ{x:X}{a b c:Option X}{sz:Nat}:cU (.slc x a b c sz) e s=C1 (bp x e) (λd=>fu e d a) (λd=>fu e d b) c sz s:=rfl
@[simp]def MI{o:Ky}{bm len sz:Nat}{d c:Nat->bE}:C1 (some (.sl o bm len sz)) d c none sz s=bN (d 0) (λa=>bN (c len) (λb=>if a<=b/\b<=len then .v (.sl o (bm+a*sz) (b-a) sz) s else .bad) .bad) .bad:=by
 unfold C1;show(match d 0,c len,(none:Option X)with
   |some a,some b,none=>bif Nat.ble a b&&Nat.ble b len&&Nat.beq sz sz then cR.v (.sl o (bm+a*sz) (b-a) sz) s else .bad
   |_,_,_=>.bad)=_
 cases d 0 with
 |none=>cases c len<;>rfl
 |some a=>cases c len with|none=>rfl|some b=>
   show(bif Nat.ble a b&&Nat.ble b len&&Nat.beq sz sz then cR.v (.sl o (bm+a*sz) (b-a) sz) s else .bad)=if a<=b/\b<=len then _ else _
   rw[bZ,bZ,cL];by_cases f:a<=b<;>by_cases g:b<=len<;>simp[f,g]
@[simp]def XL{aq:aO}{sz:Nat}{d c:Nat->bE}:C1 (some (.psl aq)) d c none sz s=bN (d 0) (λa=>bN (c aq.length) (λb=>if a<=b/\b<=aq.length/\cZ sz aq=true then .v (.psl ((aq.drop a).take (b-a))) s else .bad) .bad) .bad:=by
 unfold C1;show(match d 0,c (aM aq),(none:Option X)with
   |some a,some b,none=>bif Nat.ble a b&&Nat.ble b (aM aq)&&cZ sz aq then cR.v (.psl (gE (b-a) (ig a aq))) s else .bad
   |_,_,_=>.bad)=_
 rw[cH];cases d 0 with
 |none=>cases c aq.length<;>rfl
 |some a=>cases c aq.length with|none=>rfl|some b=>
   show(bif Nat.ble a b&&Nat.ble b aq.length&&cZ sz aq then cR.v (.psl (gE (b-a) (ig a aq))) s else .bad)=if a<=b/\b<=aq.length/\cZ sz aq=true then _ else _
   rw[bZ,bZ,w7,w8];by_cases f:a<=b<;>by_cases g:b<=aq.length<;>by_cases h:cZ sz aq=true<;>simp[f,g,h]
end
section views
variable{s:HS}
def Vw(s:HS)(n:Nat)(v a:HV):Prop:=∃t,vw s n v=some (a,t)
def nA(s:HS)(n:Nat)(l l':aj):Prop:=∃t,oe (vw s n) l=some (l',t)
def nA.nil{n:Nat}:nA s n [] []:=⟨[],rfl⟩
def nA.cons{n:Nat}{v a:HV}{l l':aj}(h:Vw s n v a)(k:nA s n l l'):nA s n (v::l) (a::l'):=by obtain⟨t,h⟩:=h;obtain⟨u,k⟩:=k;exact⟨t++u,by rw[oe,h,k]⟩
def Vw.data{n:Nat}{v:HV}(h:dX v=true):Vw s (n+1) v v:=⟨[],uZ h⟩
def nA.data{n:Nat}:∀{l:aj},da l=true->nA s (n+1) l l
 |[],_=>.nil
 |v::r,h=>by rw[Hz,aL]at h;exact .cons (.data h.1) (.data h.2)
def Vw.ah{n:Nat}:Vw s (n+1) .ah (.psl []):=⟨[],rfl⟩
def nA.append{n:Nat}{l l' m a:aj}(h:nA s n l l')(k:nA s n m a):nA s n (l++m) (l'++a):=by
 induction l generalizing l' with
 |nil=>obtain⟨t,h⟩:=h;cases h;exact k
 |cons v r ih=>
  obtain⟨t,h⟩:=h;unfold oe at h
  split at h
  .rename_i d f g i b c;cases h;exact .cons ⟨_,b⟩ (ih ⟨_,c⟩)
  cases h
def Vw.agg{n:Nat}{l l':aj}(h:nA s n l l'):Vw s (n+1) (.agg l) (.agg l'):=by
 cases a:dX (.agg l)with
 |true=>
  obtain⟨t,h⟩:=h;rw[MC]at a;cases n with
  |zero=>
   cases l with
   |nil=>cases h;exact⟨[],uZ (by simp)⟩
   |cons v r=>unfold oe at h;split at h<;>simp_all [vw]
  |succ n=>obtain⟨u,b⟩:=nA.data (s:=s) (n:=n) a;rw[b]at h;cases h;exact .data (by simpa using a)
 |false=>obtain⟨t,h⟩:=h;refine⟨t,?_⟩;show(bif dX (.agg l)then some (HV.agg l,[])else match oe (vw s n) l with|some (l',t)=>some (HV.agg l',t)|none=>none)=_;rw[a,h];rfl
def Vw.bM{n:Nat}{l l':aj}(h:nA s n l l'):Vw s (n+1) (.bM l) (.bM l'):=by
 cases a:dX (.bM l)with
 |true=>
  obtain⟨t,h⟩:=h;rw[MD]at a;cases n with
  |zero=>
   cases l with
   |nil=>cases h;exact⟨[],uZ (by simp)⟩
   |cons v r=>unfold oe at h;split at h<;>simp_all [vw]
  |succ n=>obtain⟨u,b⟩:=nA.data (s:=s) (n:=n) a;rw[b]at h;cases h;exact .data (by simpa using a)
 |false=>obtain⟨t,h⟩:=h;refine⟨t,?_⟩;show(bif dX (.bM l)then some (HV.bM l,[])else match oe (vw s n) l with|some (l',t)=>some (HV.bM l',t)|none=>none)=_;rw[a,h];rfl
def Vw.sl{n:Nat}{o:Ky}{bm len sz:Nat}{l l':aj}{r:aO}(b:fI (ak s.h o) bm (len*sz)=some l)(h:nA s n l l')(c:len≠0->jv sz len l'=r)(h0:len=0->r=[]):Vw s (n+1) (.sl o bm len sz) (.psl r):=by
 obtain⟨t,h⟩:=h;by_cases a:len=0
 .subst a;rw[h0 rfl];exact⟨[],rfl⟩
 refine⟨o::t,?_⟩;show(bif dX (.sl o bm len sz)then _ else bif Nat.beq len 0 then _ else match s.bz o bm (len*sz)with|some l=>(match oe (vw s n) l with|some (l',t)=>some (HV.psl (jv sz len l'),o::t)|none=>none)|none=>none)=_;rw[show dX (.sl o bm len sz)=false by simp[dX],cL,ib,b];simp only[a,kJ,cond_false,h];rw[c a]
def Vw.rows{n:Nat}{o:Ky}{sz a:Nat}{aq:aO}{g:Ky}(c:ak s.h o=some (.cells (cM (aB aq)) 0 a g))(b:Sz sz aq)(d:eM aq=true)(i:aq.length*sz<=a):Vw s (n+2) (.sl o 0 aq.length sz) (.psl aq):=by have f:=cI b;refine Vw.sl (l:=aB aq) (l':=aB aq) (by rw[c,ao (aW _) (by omega) (by omega)];simp[<-f]) (.data (by rw[xG];exact d)) (λ_=>oZ b) (λh=>iJ h)
def Vw.ptr{n:Nat}{o:Ky}{l l':aj}{a:Nat}{g:Ky}(b:ak s.h o=some (.cells (cM l) 0 a g))(c:a=l.length)(h:nA s n l l'):Vw s (n+1) (.ptr o 0) (.aw l'):=by obtain⟨t,h⟩:=h;refine⟨o::t,?_⟩;show(bif dX (.ptr o 0)then _ else match ak s.h o with|some (.cells _ _ a _)=>bif Nat.ble 0 a then(match s.bz o 0 (a-0)with|some l=>(match oe (vw s n) l with|some (l',t)=>some (HV.aw l',o::t)|none=>none)|none=>none)else none|_=>none)=_;rw[show dX (.ptr o 0)=false by simp[dX],b];simp only[cond_false,bZ,fm,eO,cond_true,ib,b,Nat.sub_zero];rw[ao (aW _) (by omega) (by omega),c];simp[h]
def Vw.fn{n:Nat}{f:Nat}{a d b g:aj}(h:nA s (n+1) a d)(k:nA s (n+1) b g):Vw s (n+2) (.fn f a b) (.fn f d g):=by
 cases c:dX (.fn f a b)with
 |true=>obtain⟨t,h⟩:=h;obtain⟨i,k⟩:=k;rw[Sl,aL]at c;obtain⟨u,m⟩:=nA.data (s:=s) (n:=n) c.1;obtain⟨p,j⟩:=nA.data (s:=s) (n:=n) c.2;rw[m]at h;cases h;rw[j]at k;cases k;exact .data (by simpa using c)
 |false=>obtain⟨t,h⟩:=h;obtain⟨i,k⟩:=k;refine⟨t++i,?_⟩;show(bif dX (.fn f a b)then some (HV.fn f a b,[])else match oe (vw s (n+1)) a,oe (vw s (n+1)) b with|some (d,t),some (g,i)=>some (HV.fn f d g,t++i)|_,_=>none)=_;rw[c,h,k];rfl
def aH{v a:HV}(h:Vw s 16 v a):zG (.val v s)=some a:=by obtain⟨t,h⟩:=h;show(match vw s 16 v with|some (a,_)=>some a|none=>none)=_;rw[h]
end views
section call
variable{L:jg}{prog:Nat->Option HF}
def kS{t:Task}{o:Out}(h:dQ L prog t=o)(a:Good o):step L prog (dQ L prog) t=o:=by
 obtain⟨n,c⟩:=w4 h a;cases n with
 |zero=>subst c;exact a.elim
 |succ m=>
  have d:step L prog (run L prog m) t=o:=c;have f:Conv (λ_=>dQ L prog) (run L prog m):=λj p g b=>od.of λ_=>by subst g;exact A6 b
  obtain⟨k,i⟩:=sV f t d a;exact i k (aW _)
def So(f:Nat)(F:HF)(args l:aj)(v:HV)(s:HS)(c:prog f=some F)(d:oY L f=true)(g:F.pu=true)(k:cj args=false)(b:nA s 16 args l)(i:da l=true)(m:eP v=true)(h:dQ L prog (.call f l s0)=.val v s0):
  dQ L prog (.call f args s)=.val v s:=by
 have h:=kS h trivial;have h:se L f l s0 (bu prog (dQ L prog) f l s0)=.val v s0:=h;rw[eT d]at h;unfold bu at h;rw[c]at h;have h:(bif F.pu then bP F (dQ L prog) l s0 else dw F (dQ L prog) l s0)=.val v s0:=h;rw[g,cond_true]at h;unfold bP at h;rw[dy l i,cond_true,i,cond_true]at h;have a:iX F (dQ L prog) l=some v:=by
  cases j:iX F (dQ L prog) l with
  |none=>rw[j]at h;cases h
  |some n=>rw[j]at h;cases h;rfl
 refine dr ?_ trivial;show se L f args s (bu prog (dQ L prog) f args s)=_;rw[eT d];unfold bu;rw[c];show(bif F.pu then bP F (dQ L prog) args s else dw F (dQ L prog) args s)=_;rw[g,cond_true];unfold bP;obtain⟨t,b⟩:=b;rw[k,cond_false,b];show bN (iX F (dQ L prog) l) (λv=>bif eP v then Out.val v s else bif fL F (dQ L prog) l then .val v s else .bad 41) (.bad 42)=_;rw[a,dG,m];rfl
def rJ(f:Nat)(F:HF)(args l:aj)(v:HV)(s:HS)(c:prog f=some F)(d:oY L f=true)(g:F.pu=true)(k:cj args=false)(b:nA s 16 args l)(i:da l=true)(m:fL F (dQ L prog) l=true)(h:dQ L prog (.call f l s0)=.val v s0):
  dQ L prog (.call f args s)=.val v s:=by
 have h:=kS h trivial;have h:se L f l s0 (bu prog (dQ L prog) f l s0)=.val v s0:=h;rw[eT d]at h;unfold bu at h;rw[c]at h;have h:(bif F.pu then bP F (dQ L prog) l s0 else dw F (dQ L prog) l s0)=.val v s0:=h;rw[g,cond_true]at h;unfold bP at h;rw[dy l i,cond_true,i,cond_true]at h;have a:iX F (dQ L prog) l=some v:=by
  cases j:iX F (dQ L prog) l with
  |none=>rw[j]at h;cases h
  |some n=>rw[j]at h;cases h;rfl
 refine dr ?_ trivial;show se L f args s (bu prog (dQ L prog) f args s)=_;rw[eT d];unfold bu;rw[c];show(bif F.pu then bP F (dQ L prog) args s else dw F (dQ L prog) args s)=_;rw[g,cond_true];unfold bP;obtain⟨t,b⟩:=b;rw[k,cond_false,b];show bN (iX F (dQ L prog) l) (λv=>bif eP v then Out.val v s else bif fL F (dQ L prog) l then .val v s else .bad 41) (.bad 42)=_;rw[a,dG,m];cases eP v<;>rfl
def gk:Out->Prop
 |.code .ret _ _=>True
 |.code (.exit _) _ _=>True
 |_=>False
def gk.MJ{o:Out}(h:gk o):Good o:=by
 unfold gk at h
 split at h<;>first|trivial|exact h.elim
def gk.bY{o:Out}(h:gk o)(f:En->HS->Out):o.bY f=o:=by
 unfold gk at h
 split at h<;>first|rfl|exact h.elim
def MK{c:HC}(n:Nat)(I:Nat->En->HS->Prop)(Q:Out->Prop)(i:Nat)(e:En)(s:HS)(j:i<=n)(d:I i e s)
  (round:∀i e s,i<n->I i e s->(∃e' s',bJ (dQ L prog) c e s=.code .normal e' s'/\I (i+1) e' s')∨(gk (bJ (dQ L prog) c e s)/\Q (bJ (dQ L prog) c e s)))
  (last:∀e s,I n e s->gk (bJ (dQ L prog) c e s)/\Q (bJ (dQ L prog) c e s)):
  ∃o,bJ (dQ L prog) (.loop c) e s=o/\gk o/\Q o:=by
 obtain⟨k,m⟩:∃k,n-i=k:=⟨_,rfl⟩
 induction k generalizing i e s with
 |zero=>
  obtain rfl:i=n:=by omega
  obtain⟨a,b⟩:=last e s d;exact⟨_,by rw[xB,a.bY],a,b⟩
 |succ k ih=>
  rcases round i e s (by omega) d with⟨e',s',a,b⟩|⟨a,b⟩
  .obtain⟨o,g,f,h⟩:=ih (i+1) e' s' (by omega) b (by omega);exact⟨o,by rw[xB,a,jR];exact Sk g f.MJ,f,h⟩
  exact⟨_,by rw[xB,a.bY],a,b⟩
def ba{c:HC}{e:En}{s:HS}{o:Out}(d:bJ (dQ L prog) (.loop c) e s=o)(n:Nat)(I:Nat->En->HS->Prop)(Q:Out->Prop)(i:Nat)(b:i<=n)(a:I i e s)
  (round:∀i e s r,i<n->I i e s->bJ (dQ L prog) c e s=r->(∃e' s',r=.code .normal e' s'/\I (i+1) e' s')∨(gk r/\Q r))
  (last:∀e s r,I n e s->bJ (dQ L prog) c e s=r->gk r/\Q r):Q o:=by
 obtain⟨h,f,j,g⟩:=MK n I Q i e s b a (λi e s b a=>round i e s _ b a rfl) (λe s a=>last e s _ a rfl);rw[<-d,f];exact g
end call
@[simp]def U4{e:En}{s:HS}:gk (.code .ret e s)=True:=rfl
@[simp]def Sq{i:Nat}{e:En}{s:HS}:gk (.code (.exit i) e s)=True:=rfl
def jI:∀(ms:cg) (h:Tr Ob) (n:Nat),(∀p,p ∉ ms->ak (eL h n ms).1 p=ak h p)/\(∀m∈(eL h n ms).2,m∈ms)
 |[],h,0=>⟨λ_ _=>rfl,λ_ h=>h⟩
 |[],h,n+1=>⟨λ_ _=>rfl,λ_ h=>h⟩
 |m::r,h,0=>by obtain⟨c,d⟩:=jI r (ax none m h) 0;refine⟨λp b=>?_,λx a=>cS _ (d x a)⟩;show ak (eL (ax none m h) 0 r).1 p=_;rw[c p λa=>b (cS _ a),af,au (λ(e:p=m)=>b (by rw[e];exact dm))]
 |m::r,h,n+1=>by
  obtain⟨c,d⟩:=jI r h n;refine⟨λp b=>?_,λx a=>?_⟩
  .show ak (eL h n r).1 p=_;exact c p λa=>b (cS _ a)
  have a:x∈m::(eL h n r).2:=a;rcases bk.1 a with rfl|a
  .exact dm
  exact cS _ (d x a)
def qI(o:Ky)(r:cg)(h:Tr Ob)(n:Nat):eL h (n+1) (o::r)=((eL h n r).1,o::(eL h n r).2):=rfl
def gO(o:Ky)(a b:Nat):∀(ms:cg) (h:Tr Ob),(∀p,p ∉ ms∨p=o->ak (bI h o a b ms).1 p=ak h p)/\(∀m∈(bI h o a b ms).2,m∈ms)
 |[],h=>⟨λ_ _=>rfl,λ_ h=>h⟩
 |m::r,h=>by
  obtain⟨f,i⟩:=gO o a b r h;have d:∀p,p ∉ m::r∨p=o->p ∉ r∨p=o:=λp d=>d.imp (λh c=>h (cS _ c)) id
  unfold bI;cases k:m.beq o with
  |true=>
   refine⟨λp c=>f p (d p c),λx c=>?_⟩;have c:x∈m::(bI h o a b r).2:=c;rcases bk.1 c with rfl|c
   .exact dm
   exact cS _ (i x c)
  |false=>
   have j:m≠o:=λe=>by rw[(Ky.beq_iff m o).2 e]at k;cases k
   simp only[cond_false]
   split
   .rename_i t n q g u;cases w:(Nat.blt n b&&Nat.blt a q)with
    |true=>
     refine⟨λp c=>?_,λx c=>cS _ (i x c)⟩;show ak (ax none m (bI h o a b r).1) p=_;rw[af,au,f p (d p c)]
     rintro rfl
     rcases c with c|c
     .exact c dm
     exact j c
    |false=>
     refine⟨λp c=>f p (d p c),λx c=>?_⟩;have c:x∈m::(bI h o a b r).2:=c;rcases bk.1 c with rfl|c
     .exact dm
     exact cS _ (i x c)
   exact⟨λp c=>f p (d p c),λx c=>cS _ (i x c)⟩
def jZ(h:Tr Ob)(o:Ky)(a b:Nat)(r:cg):bI h o a b (o::r)=((bI h o a b r).1,o::(bI h o a b r).2):=by rw[bI,(Ky.beq_iff o o).2 rfl];rfl
def Bb(s:HS)(v:HV)(sz L:Nat)(aq:aO):Prop:=
 Sz sz aq/\L<=s.nx.toNat/\((v=.ah/\aq=[])∨∃o b g a,v=.sl o 0 aq.length sz/\ak s.h o=some (.cells (cM (aB aq)) 0 b g)/\aq.length*sz<=b/\ak s.gr g=some (o::a)/\o ∉ a/\(∀m∈o::a,L<=m.toNat/\m.toNat<s.nx.toNat)/\L<=g.toNat/\g.toNat<s.nx.toNat)
def Low(L:Nat)(s s':HS):Prop:=s.nx.toNat<=s'.nx.toNat/\s'.ty=s.ty/\(∀p,p.toNat<L->ak s'.h p=ak s.h p)/\(∀g,g.toNat<L->ak s'.gr g=ak s.gr g)
def Bb.ah{s:HS}{sz L:Nat}(h:L<=s.nx.toNat):Bb s .ah sz L []:=⟨Sz.nil,h,.inl ⟨rfl,rfl⟩⟩
def Bb.iz{s:HS}{v:HV}{sz L:Nat}{aq:aO}(h:Bb s v sz L aq):iz v=true:=by rcases h.2.2 with⟨rfl,_⟩|⟨o,b,g,a,rfl,_⟩<;>rfl
def Bb.new{s:HS}{sz L:Nat}{aq:aO}(c:Sz sz aq)(d:L<=s.nx.toNat):
  Bb {h:=ax (some (.cells (cM (aB aq)) 0 (aB aq).length s.nx)) s.nx s.h,nx:=s.nx.succ,gr:=ax (some [s.nx]) s.nx s.gr,ty:=s.ty} (.sl s.nx 0 aq.length sz) sz L aq/\
  Low L s {h:=ax (some (.cells (cM (aB aq)) 0 (aB aq).length s.nx)) s.nx s.h,nx:=s.nx.succ,gr:=ax (some [s.nx]) s.nx s.gr,ty:=s.ty}:=by
 have g:=Ky.aV s.nx;have a:∀p:Ky,p.toNat<L->p≠s.nx:=λp b e=>by subst e;omega
 refine⟨⟨c,by simp only;omega,.inr ⟨s.nx,_,s.nx,[],rfl,by rw[af,ar rfl],by rw[cI c];exact aW _,by rw[af,ar rfl],by simp,λm f=>?_,d,by simp only;omega⟩⟩,by simp only;omega,rfl,λp b=>?_,λp b=>?_⟩
 .simp only[dq]at f;subst f;exact⟨d,by simp only;omega⟩
 .simp only;rw[af,au (a p b)]
 simp only;rw[af,au (a p b)]
def Bb.append{s:HS}{v:HV}{sz L bw:Nat}{aq new:aO}(h:Bb s v sz L aq)(A:Sz sz new)(h0:new≠ [])(f:aq.length+new.length<=bw):
    ∃N s',lS sz bw none (some v) (some (.psl new)) s=.v N s'/\Bb s' N sz L (aq++new)/\Low L s s':=by
  have u:new.length≠0:=by simpa using h0
  rw[mr h.iz h0 A];obtain⟨O,Q,X⟩:=h;rcases X with⟨rfl,rfl⟩|⟨o,n,g,a,rfl,T,hh,Y,B,b,C,Z⟩
  . refine⟨_,_,by rw[jF u (by simpa using f),pJ],?_⟩
    obtain⟨j,q⟩:=Bb.new (s:=s) (sz:=sz) (L:=L) A Q;exact⟨j,q⟩
  have D:=Ky.aV s.nx;rw[mb u T Y];obtain⟨E,G⟩:=jI a s.h 11;rw[show(12:Nat)=11+1 from rfl,qI];generalize h3:(eL s.h 11 a).1=j at E;generalize h4:(eL s.h 11 a).2=r at G;obtain⟨H,V⟩:=gO o (0+aq.length*sz) (0+aq.length*sz+aM (aB new)) r j;have c:=jZ j o (0+aq.length*sz) (0+aq.length*sz+aM (aB new)) r;generalize h5:(bI j o (0+aq.length*sz) (0+aq.length*sz+aM (aB new)) r).1=q at H c;generalize h6:(bI j o (0+aq.length*sz) (0+aq.length*sz+aM (aB new)) r).2=k at V c;have d:∀m∈k,m∈a:=λm f=>G m (V m f)
  have ho:ak q o=some (.cells (cM (aB aq)) 0 n g):=by rw[H o (.inr rfl),E o B,T]
  have hle:(aB aq).length=0+aq.length*sz:=by rw[cI O,bF]
  have w:MG s sz bw none o 0 aq.length (aB new) new.length g (j,o::r)=.v (.sl s.nx 0 (aq.length+new.length) sz) {h:=ax (some (.cells (cM (aB aq++aB new)) 0 (0+aq.length*sz+(aB new).length) g)) s.nx (ax (some (.cells (cM (aB aq)) 0 (0+aq.length*sz) g)) o q),nx:=s.nx.succ,gr:=ax (some (s.nx::o::k)) g s.gr,ty:=s.ty}:=by
    show(match bI j o (0+aq.length*sz) (0+aq.length*sz+aM (aB new)) (o::r)with
        |(W,x)=>match ak W o with
          |some (.cells t y n _)=>
            bif iW o x&&Nat.ble y 0&&Nat.ble (0+aq.length*sz) n&&Nat.ble (aq.length+new.length) bw then
              cR.v (.sl s.nx 0 (aq.length+new.length) sz) {h:=ax (some (.cells (cY (aB new) (0+aq.length*sz) t) 0 (0+aq.length*sz+aM (aB new)) g)) s.nx (ax (some (.cells t y (0+aq.length*sz) g)) o W),nx:=s.nx.succ,gr:=ax (some (s.nx::x)) g s.gr,ty:=lJ none o s}
            else .bad
          |_=>.bad)=_
    rw[c];show(match ak q o with
          |some (.cells t y n _)=>
            bif iW o (o::k)&&Nat.ble y 0&&Nat.ble (0+aq.length*sz) n&&Nat.ble (aq.length+new.length) bw then
              cR.v (.sl s.nx 0 (aq.length+new.length) sz) {h:=ax (some (.cells (cY (aB new) (0+aq.length*sz) t) 0 (0+aq.length*sz+aM (aB new)) g)) s.nx (ax (some (.cells t y (0+aq.length*sz) g)) o q),nx:=s.nx.succ,gr:=ax (some (s.nx::o::k)) g s.gr,ty:=lJ none o s}
            else .bad
          |_=>.bad)=_
    rw[ho];show(bif iW o (o::k)&&Nat.ble 0 0&&Nat.ble (0+aq.length*sz) n&&Nat.ble (aq.length+new.length) bw then
              cR.v (.sl s.nx 0 (aq.length+new.length) sz) {h:=ax (some (.cells (cY (aB new) (0+aq.length*sz) (cM (aB aq))) 0 (0+aq.length*sz+aM (aB new)) g)) s.nx (ax (some (.cells (cM (aB aq)) 0 (0+aq.length*sz) g)) o q),nx:=s.nx.succ,gr:=ax (some (s.nx::o::k)) g s.gr,ty:=lJ none o s}
            else .bad)=_
    rw[show iW o (o::k)=true by simp[iW,(Ky.beq_iff o o).2 rfl],bZ,bZ,bZ,ey (aW 0),ey (show 0+aq.length*sz<=n by omega),ey f,JI _ _ _ hle.symm,cH];rfl
  refine⟨_,_,w,⟨Sz.append O A,by simp only;omega,.inr ⟨s.nx,_,g,o::k,by rw[cA],by rw[af,ar rfl,jY],?_,by rw[af,ar rfl],?_,?_,C,by simp only;omega⟩⟩,by simp only;omega,rfl,?_,?_⟩
  . rw[cA,cI A,qs];omega
  . intro i
    rcases bk.1 i with i|i
    . have:=(b o dm).2;rw[<-i]at this;omega
    have:=(b _ (cS _ (d _ i))).2;omega
  . intro m f
    simp only;rcases bk.1 f with rfl|f
    . exact⟨Q,by omega⟩
    have I:m∈o::a:=by
      rcases bk.1 f with rfl|f
      . exact dm
      exact cS _ (d _ f)
    have:=b m I;exact⟨this.1,by omega⟩
  . intro p hp
    have J:p≠o:=λe=>by subst e;have:=(b p dm).1;omega
    have z:p ∉ a:=λi=>by have:=(b p (cS _ i)).1;omega
    have M:p≠s.nx:=λe=>by subst e;omega
    simp only;rw[af,au M,af,au J,H p (.inl λi=>z (G p i)),E p z]
  intro p hp;simp only;rw[af,au λe=>by subst e;omega]
def Bb.vw{s:HS}{v:HV}{sz L n:Nat}{aq:aO}(h:Bb s v sz L aq)(b:eM aq=true):Vw s (n+2) v (.psl aq):=by
 obtain⟨c,_,d⟩:=h;rcases d with⟨rfl,rfl⟩|⟨o,j,g,a,rfl,f,i,_⟩
 .exact .ah
 exact .rows f c b i
@[simp]def Sr{s:HS}{sz bw:Nat}{r:aj}(a:r.length=sz)(b:1<=bw):lS sz bw none (some .ah) (some (.psl [r])) s=.v (.sl s.nx 0 1 sz) {h:=ax (some (.cells (cM r) 0 sz s.nx)) s.nx s.h,nx:=s.nx.succ,gr:=ax (some [s.nx]) s.nx s.gr,ty:=s.ty}:=by subst a;rw[mr (v:=.ah) rfl (by simp) (Sz.cons rfl Sz.nil),jF (by simp) (by simpa using b),pJ];simp
def ck(s:HS)(v:HV)(sz:Nat)(F:bU)(aq:aO):Prop:=
 Sz sz aq/\(∀k,F k->k.toNat<s.nx.toNat)/\((v=.ah/\aq=[])∨∃o t b g a,v=.sl o 0 aq.length sz/\ak s.h o=some (.cells t 0 b g)/\aq.length*sz<=b/\(∀j,j<aq.length*sz->fE t j=(aB aq)[j]?)/\ak s.gr g=some (o::a)/\o ∉ a/\(∀m∈o::a,F m)/\F g)
def cX(F:bU)(s s':HS):Prop:=s.nx.toNat<=s'.nx.toNat/\s'.ty=s.ty/\(∀p,p.toNat<s.nx.toNat->¬F p->ak s'.h p=ak s.h p)/\(∀g,g.toNat<s.nx.toNat->¬F g->ak s'.gr g=ak s.gr g)
def ck.frame{s s':HS}{v:HV}{sz:Nat}{F G:bU}{aq:aO}(h:ck s v sz F aq)(b:cX G s s')(f:∀k,F k->¬G k):ck s' v sz F aq:=by
 obtain⟨m,c,n⟩:=h;refine⟨m,λk p=>dZ (c k p) b.1,?_⟩;rcases n with⟨rfl,rfl⟩|⟨o,t,q,g,a,rfl,r,u,w,x,y,i,d⟩
 .exact .inl ⟨rfl,rfl⟩
 have j:=i o dm;exact .inr ⟨o,t,q,g,a,rfl,by rw[b.2.2.1 o (c o j) (f o j)];exact r,u,w,by rw[b.2.2.2 g (c g d) (f g d)];exact x,y,i,d⟩
def ck.ah{s:HS}{sz:Nat}:ck s .ah sz (λ_=>False) []:=⟨Sz.nil,λ_ h=>h.elim,.inl ⟨rfl,rfl⟩⟩
def ck.iz{s:HS}{v:HV}{sz:Nat}{F:bU}{aq:aO}(h:ck s v sz F aq):iz v=true:=by rcases h.2.2 with⟨rfl,_⟩|⟨o,t,b,g,a,rfl,_⟩<;>rfl
def ck.len{s s1:HS}{v:HV}{sz:Nat}{F:bU}{aq:aO}(h:ck s v sz F aq):xh 0 (some v) s1=.v (.int .i64 (aq.length:Int)) s1:=by rcases h.2.2 with⟨rfl,rfl⟩|⟨o,t,b,g,a,rfl,_⟩<;>simp
def ck.mono{s:HS}{v:HV}{sz:Nat}{F G:bU}{aq:aO}(h:ck s v sz F aq)(b:∀k,F k->G k)(c:∀k,G k->k.toNat<s.nx.toNat):ck s v sz G aq:=by
 obtain⟨d,_,f⟩:=h;refine⟨d,c,?_⟩;rcases f with⟨rfl,rfl⟩|⟨o,t,i,g,a,rfl,j,n,p,q,r,u,w⟩
 .exact .inl ⟨rfl,rfl⟩
 exact .inr ⟨o,t,i,g,a,rfl,j,n,p,q,r,λm x=>b m (u m x),b g w⟩
def qJ(t:Tr HV)(l:aj):∀(n k:Nat),(∀i,i<n->fE t (k+i)=l[i]?)->n=l.length->mO t n k=some l:=by
 induction l with
 |nil=>intro n k _ hn;simp at hn;subst hn;rfl
 |cons v r ih=>intro n k h hn;cases n with|zero=>simp at hn|succ n=>have he:mO t (n+1) k=Option.rec none (λv=>Option.rec none (λl=>some (v::l)) (mO t n (k+1))) (fE t k):=rfl;have h0:=h 0 (by omega);rw[gH]at h0;rw[he,h0,ih n (k+1) (λi hi=>by have:=h (i+1) (by omega);rwa[show k+(i+1)=k+1+i by omega]at this) (by simpa using hn)];rfl
def ck.cells{s:HS}{o:Ky}{sz:Nat}{F:bU}{aq:aO}{n:Nat}(h:ck s (.sl o 0 n sz) sz F aq):n=aq.length/\fI (ak s.h o) 0 (aq.length*sz)=some (aB aq):=by
 obtain⟨c,k,d⟩:=h;rcases d with⟨h,_⟩|⟨m,t,a,g,b,h0,f,p,j,q⟩
 .cases h
 cases h0;refine⟨rfl,?_⟩;rw[f];show(if 0<=0 then if 0+aq.length*sz<=a then mO t (aq.length*sz) 0 else none else none)=_;rw[ar (aW _),ar (by omega),qJ t (aB aq) _ 0 (λi a=>by rw[bF];exact j i a) (cI c).symm]
def ck.vw{s:HS}{v:HV}{sz n:Nat}{F:bU}{aq:aO}(h:ck s v sz F aq)(b:eM aq=true):Vw s (n+2) v (.psl aq):=by
 have c:=h;obtain⟨d,_,f⟩:=h;rcases f with⟨rfl,rfl⟩|⟨o,t,i,g,a,rfl,j,k,_⟩
 .exact .ah
 exact Vw.sl (l:=aB aq) (l':=aB aq) c.cells.2 (.data (by rw[xG];exact b)) (λ_=>oZ d) (λh=>iJ h)
def ck.at{s:HS}{v:HV}{sz:Nat}{F:bU}{aq:aO}(h:ck s v sz F aq){k:IntKind}(i:Nat)(a:i<aq.length):∃o,EN (some v) (some (.int k (i:Int))) sz s=.v (.ptr o (i*sz)) s/\F o/\(∀j,j<sz->eG (ak s.h o) (i*sz+j)=(aq[i])[j]?)/\fI (ak s.h o) (i*sz) sz=some aq[i]:=by
 obtain⟨c,_,p⟩:=h;rcases p with⟨rfl,rfl⟩|⟨o,t,b,g,f,rfl,m,w,n,x,_,q,_⟩
 .simp at a
 have r:i*sz+sz<=aq.length*sz:=by rw[<-Nat.succ_mul];exact jD _ a
 refine⟨o,by simp[a],q o dm,λj d=>?_,?_⟩
 .rw[m];show(if 0<=i*sz+j then if i*sz+j<b then fE t (i*sz+j)else none else none)=_;rw[ar (fm _),ar (by omega),n _ (by omega),gz c i j a d]
 rw[m];show(if 0<=i*sz then if i*sz+sz<=b then mO t sz (i*sz)else none else none)=_;have u:aq[i].length=sz:=c _ (cp a);rw[ar (fm _),ar (by omega),qJ t aq[i] _ _ (λj d=>by rw[n _ (by omega),gz c i j a d]) u.symm]
def ck.append{s:HS}{v:HV}{sz bw:Nat}{F:bU}{aq new:aO}(h:ck s v sz F aq)(y:Sz sz new)(h0:new≠ [])(d:aq.length+new.length<=bw):
    ∃Z s',lS sz bw none (some v) (some (.psl new)) s=.v Z s'/\ck s' Z sz (λk=>F k∨k=s.nx) (aq++new)/\cX F s s'/\s'.nx=s.nx.succ:=by
  have z:new.length≠0:=by simpa using h0
  have I:=Ky.aV s.nx;rw[mr h.iz h0 y];obtain⟨hs,i,hv⟩:=h;rcases hv with⟨rfl,rfl⟩|⟨o,t,r,g,a,rfl,hb,hh,J,hg,M,b,A⟩
  . rw[jF z (by simpa using d),pJ]
    refine⟨_,_,rfl,⟨y,λk u=>?_,.inr ⟨s.nx,cM (aB new),(aB new).length,s.nx,[],rfl,by rw[af,ar rfl],by rw[cI y];exact aW _,λj hj=>rH,by rw[af,ar rfl],by simp,λm d=>?_,.inr rfl⟩⟩,⟨by simp only;omega,rfl,λp N _=>?_,λp N _=>?_⟩,rfl⟩
    . simp only
      rcases u with u|rfl
      . have:=i k u;omega
      omega
    . simp only[dq]at d;exact .inr d
    . simp only;rw[af,au λe=>by subst e;omega]
    simp only;rw[af,au λe=>by subst e;omega]
  rw[mb z hb hg];obtain⟨O,Q⟩:=jI a s.h 11;rw[show(12:Nat)=11+1 from rfl,qI];generalize h3:(eL s.h 11 a).1=w at O;generalize h4:(eL s.h 11 a).2=x at Q;obtain⟨T,j2⟩:=gO o (0+aq.length*sz) (0+aq.length*sz+aM (aB new)) x w;have c:=jZ w o (0+aq.length*sz) (0+aq.length*sz+aM (aB new)) x;generalize h5:(bI w o (0+aq.length*sz) (0+aq.length*sz+aM (aB new)) x).1=B at T c;generalize h6:(bI w o (0+aq.length*sz) (0+aq.length*sz+aM (aB new)) x).2=q at j2 c;have f:∀m∈q,m∈a:=λm d=>Q m (j2 m d)
  have ho:ak B o=some (.cells t 0 r g):=by rw[T o (.inr rfl),O o M,hb]
  have C:MG s sz bw none o 0 aq.length (aB new) new.length g (w,o::x)=.v (.sl s.nx 0 (aq.length+new.length) sz) {h:=ax (some (.cells (cY (aB new) (0+aq.length*sz) t) 0 (0+aq.length*sz+(aB new).length) g)) s.nx (ax (some (.cells t 0 (0+aq.length*sz) g)) o B),nx:=s.nx.succ,gr:=ax (some (s.nx::o::q)) g s.gr,ty:=s.ty}:=by
    show(match bI w o (0+aq.length*sz) (0+aq.length*sz+aM (aB new)) (o::x)with
        |(h',D)=>match ak h' o with
          |some (.cells t E r _)=>
            bif iW o D&&Nat.ble E 0&&Nat.ble (0+aq.length*sz) r&&Nat.ble (aq.length+new.length) bw then
              cR.v (.sl s.nx 0 (aq.length+new.length) sz) {h:=ax (some (.cells (cY (aB new) (0+aq.length*sz) t) 0 (0+aq.length*sz+aM (aB new)) g)) s.nx (ax (some (.cells t E (0+aq.length*sz) g)) o h'),nx:=s.nx.succ,gr:=ax (some (s.nx::D)) g s.gr,ty:=lJ none o s}
            else .bad
          |_=>.bad)=_
    rw[c];show(match ak B o with
          |some (.cells t E r _)=>
            bif iW o (o::q)&&Nat.ble E 0&&Nat.ble (0+aq.length*sz) r&&Nat.ble (aq.length+new.length) bw then
              cR.v (.sl s.nx 0 (aq.length+new.length) sz) {h:=ax (some (.cells (cY (aB new) (0+aq.length*sz) t) 0 (0+aq.length*sz+aM (aB new)) g)) s.nx (ax (some (.cells t E (0+aq.length*sz) g)) o B),nx:=s.nx.succ,gr:=ax (some (s.nx::o::q)) g s.gr,ty:=lJ none o s}
            else .bad
          |_=>.bad)=_
    rw[ho];show(bif iW o (o::q)&&Nat.ble 0 0&&Nat.ble (0+aq.length*sz) r&&Nat.ble (aq.length+new.length) bw then
              cR.v (.sl s.nx 0 (aq.length+new.length) sz) {h:=ax (some (.cells (cY (aB new) (0+aq.length*sz) t) 0 (0+aq.length*sz+aM (aB new)) g)) s.nx (ax (some (.cells t 0 (0+aq.length*sz) g)) o B),nx:=s.nx.succ,gr:=ax (some (s.nx::o::q)) g s.gr,ty:=lJ none o s}
            else .bad)=_
    rw[show iW o (o::q)=true by simp[iW,(Ky.beq_iff o o).2 rfl],bZ,bZ,bZ,ey (aW 0),ey (show 0+aq.length*sz<=r by omega),ey d,cH];rfl
  have hle:(aB aq).length=aq.length*sz:=cI hs;have V:(aB new).length=new.length*sz:=cI y;refine⟨_,_,C,⟨Sz.append hs y,λk u=>?_,.inr ⟨s.nx,_,_,g,o::q,by rw[cA],by rw[af,ar rfl],?_,λj hj=>?_,by rw[af,ar rfl],?_,λm d=>?_,.inl A⟩⟩,⟨by simp only;omega,rfl,λp N H=>?_,λp N H=>?_⟩,rfl⟩
  . simp only
    rcases u with u|rfl
    . have:=i k u;omega
    omega
  . rw[cA,V,qs];omega
  . rw[cA,qs]at hj
    rw[fj,jY];by_cases W:j<aq.length*sz
    . rw[au (by omega),J j W,ea (by omega)]
    rw[ar (by omega),iG (by omega),hle,bF]
  . intro n
    rcases bk.1 n with n|n
    . have:=i o (b o dm);rw[<-n]at this;omega
    have:=i _ (b _ (cS _ (f _ n)));omega
  . rcases bk.1 d with rfl|d
    . exact .inr rfl
    refine .inl (b m ?_);rcases bk.1 d with rfl|d
    . exact dm
    exact cS _ (f _ d)
  . have X:p≠o:=λe=>by subst e;exact H (b p dm)
    have G:p ∉ a:=λn=>H (b p (cS _ n))
    have Y:p≠s.nx:=λe=>by subst e;omega
    simp only;rw[af,au Y,af,au X,T p (.inl λn=>G (Q p n)),O p G]
  simp only;rw[af,au λe=>by subst e;exact H A]
def ck.cut{s:HS}{v:HV}{sz:Nat}{F:bU}{aq:aO}(h:ck s v sz F aq)(n:Nat)(d:n<=aq.length)(h0:aq≠ []):∃o,v=.sl o 0 aq.length sz/\ck s (.sl o 0 n sz) sz F (aq.take n):=by
 obtain⟨f,i,k⟩:=h;rcases k with⟨rfl,rfl⟩|⟨o,t,m,g,a,rfl,p,B,q,u,w,x,y⟩
 .exact absurd rfl h0
 have c:(aq.take n).length=n:=by rw[oA];omega
 have hle:n*sz<=aq.length*sz:=jD _ d;have b:Sz sz (aq.take n):=λr z=>f r (lr z)
 refine⟨o,rfl,b,i,.inr ⟨o,t,m,g,a,by rw[c],p,by rw[c];omega,λj A=>?_,u,w,x,y⟩⟩;rw[c]at A;rw[q j (by omega)];have:aB aq=aB (aq.take n)++aB (aq.drop n):=by rw[<-jY,D1]
 rw[this,ea (by rw[cI b,c];omega)]
def ER{aq:aO}(b:Sz 1 aq)(i:Nat)(v:HV)(j:Nat)(c:j<aq.length)(k:i<aq.length):(aB (aq.set i [v]))[j]?=if j=i then some v else(aB aq)[j]?:=by
 have a:Sz 1 (aq.set i [v]):=by
  intro r g;rcases xH g with h|rfl
  .exact b r h
  rfl
 have d:=gz a j 0 (by rw[jc];exact c) (by omega);have f:=gz b j 0 c (by omega);rw[iu,gH]at d f;rw[d,f,List.getElem_set];by_cases h:i=j
 .subst h;simp
 simp[h,jQ h]
def ck.iY{s:HS}{v:HV}{F:bU}{aq:aO}(h:ck s v 1 F aq)(i:Nat)(C:i<aq.length)(x:HV)(u:cellsOf x=some [x]):
  ∃o s',EN (some v) (some (.int .i64 (i:Int))) 1 s=.v (.ptr o (i*1)) s/\pR 1 (some (.ptr o (i*1))) (some x) s=.v .undef s'/\ck s' v 1 F (aq.set i [x])/\cX F s s'/\s'.nx=s.nx:=by
 obtain⟨H,w,O⟩:=h;rcases O with⟨rfl,rfl⟩|⟨o,t,b,g,a,rfl,Q,I,T,J,y,q,k⟩
 .simp at C
 have V:i*1+1<=aq.length*1:=by omega
 have z:Sz 1 (aq.set i [x]):=by
  intro r W;rcases xH W with h|rfl
  .exact H r h
  rfl
 have D:pR 1 (some (.ptr o (i*1))) (some x) s=bN (s.kC o (i*1) [x] t 0 b g (o::a)) (λs'=>.v .undef s') .bad:=by rw[iO,u];simp only[dG,dx,bj];rw[kR,Q];show bN (if 0<=i*1 then if i*1+ [x].length<=b then(match ak s.gr g with|some X=>s.kC o (i*1) [x] t 0 b g X|none=>none)else none else none) _ _=_;rw[ar (fm _),ar (by simp only[dx];omega),J]
 refine⟨o,?_⟩;rw[D];have f:∀j,j<aq.length*1->fE (cY [x] (i*1) t) j=(aB (aq.set i [x]))[j]?:=by
  intro j Y;rw[fj,ER H i x j (by omega) C];simp only[dx,iu];by_cases A:j=i
  .subst A;simp
  rw[au (by omega),au A,T j Y]
 cases a with
 |nil=>refine⟨_,by simp[C],rfl,⟨z,w,.inr ⟨o,_,b,g,[],by rw[jc],by rw[af,ar rfl],by rw[jc];exact I,by rw[jc];exact f,J,y,q,k⟩⟩,⟨aW _,rfl,λp n c=>?_,λp n c=>rfl⟩,rfl⟩;simp only;rw[af,au λe=>by subst e;exact c (q p dm)]
 |cons m a=>
  obtain⟨M,E⟩:=gO o (i*1) (Nat.add (i*1) (aM [x])) (m::a) s.h;have d:=jZ s.h o (i*1) (Nat.add (i*1) (aM [x])) (m::a);generalize Z:(bI s.h o (i*1) (Nat.add (i*1) (aM [x])) (m::a)).1=h2 at M d;generalize h1:(bI s.h o (i*1) (Nat.add (i*1) (aM [x])) (m::a)).2=N at E d;have B:s.kC o (i*1) [x] t 0 b g (o::m::a)=some {h:=ax (some (.cells (cY [x] (i*1) t) 0 b g)) o h2,nx:=s.nx,gr:=ax (some (o::N)) g s.gr,ty:=s.ty}:=by show(match bI s.h o (i*1) (Nat.add (i*1) (aM [x])) (o::m::a)with|(h',G)=>some (HS.mk (ax (some (.cells (cY [x] (i*1) t) 0 b g)) o h') s.nx (ax (some G) g s.gr) s.ty))=_;rw[d]
  rw[B];refine⟨_,by simp[C],rfl,⟨z,w,.inr ⟨o,_,b,g,N,by rw[jc],by rw[af,ar rfl],by rw[jc];exact I,by rw[jc];exact f,by rw[af,ar rfl],λu=>y (E o u),λp n=>?_,k⟩⟩,⟨aW _,rfl,λp n c=>?_,λp n c=>?_⟩,rfl⟩
  .rcases bk.1 n with rfl|n
   .exact q p dm
   exact q p (cS _ (E p n))
  .simp only;rw[af,au λe=>by subst e;exact c (q p dm)];exact M p (.inl λu=>c (q p (cS _ u)))
  simp only;rw[af,au λe=>by subst e;exact c k]
def gJ(s:HS)(o:Ky)(l:aj):Prop:=ak s.h o=some (.cells (cM l) 0 l.length o)/\ak s.gr o=some [o]/\o.toNat<s.nx.toNat
def gJ.frame{s s':HS}{o:Ky}{l:aj}{F:bU}(h:gJ s o l)(a:cX F s s')(b:¬F o):gJ s' o l:=⟨by rw[a.2.2.1 o h.2.2 b];exact h.1,by rw[a.2.2.2 o h.2.2 b];exact h.2.1,dZ h.2.2 a.1⟩
def gJ.set{s:HS}{o:Ky}{l:aj}(h:gJ s o l)(k:Nat)(d:k<l.length)(x:HV)(b:cellsOf x=some [x]):∃s',pR 1 (some (.ptr o k)) (some x) s=.v .undef s'/\gJ s' o (l.set k x)/\cX (λp=>p=o) s s'/\s'.nx=s.nx:=by refine⟨{h:=ax (some (.cells (cM (l.set k x)) 0 l.length o)) o s.h,nx:=s.nx,gr:=s.gr,ty:=s.ty},?_,⟨by rw[af,ar rfl,jc],h.2.1,h.2.2⟩,⟨aW _,rfl,λp c a=>by simp only;rw[af,au a],λp c a=>rfl⟩,rfl⟩;rw[iO,b];simp only[dG,dx,bj];rw[kR,h.1,ai (fm _) (by simp only[dx];omega),h.2.1,an (by simp only[dx];omega)];rfl
def gJ.get{s:HS}{o:Ky}{l:aj}(h:gJ s o l)(k:Nat)(a:k<l.length):eG (ak s.h o) k=l[k]?:=by rw[h.1,xD,ar (fm _),ar a]
def cX.refl{F:bU}{s:HS}:cX F s s:=⟨aW _,rfl,λ_ _ _=>rfl,λ_ _ _=>rfl⟩
abbrev xI:=HV×Nat×List aj
abbrev cE:=List xI
structure iB(s:HS)(o:Ky)(cells:aj)(av:aZ)(L:cE):Prop where
 bD:gJ s o cells
 co:av o=none
 own:∀i v sz aq,L[i]?=some (v,sz,aq)->ck s v sz (λk=>av k=some i) aq
section
variable{s:HS}{o:Ky}{cells:aj}{av:aZ}{L:cE}
def ck.one{v:HV}{sz:Nat}{F:bU}{aq:aO}(h:ck s v sz F aq):cellsOf v=some [v]:=by rcases h.2.2 with⟨rfl,_⟩|⟨o,t,b,g,a,rfl,_⟩<;>rfl
def iB.append(h:iB s o cells av L)(i:Nat){v:HV}{sz:Nat}{aq:aO}(r:L[i]?=some (v,sz,aq)){new:aO}(z:Sz sz new)(h0:new≠ []){bw:Nat}(A:aq.length+new.length<=bw):
  ∃d s' f,lS sz bw none (some v) (some (.psl new)) s=.v d s'/\cellsOf d=some [d]/\iB s' o cells f (L.set i (d,sz,aq++new)):=by
 have t:=(aS.1 r).1;obtain⟨d,s',B,g,m,n⟩:=(h.own i v sz aq r).append z h0 A;have u:=Ky.aV s.nx;refine⟨d,s',λk=>if k=s.nx then some i else av k,B,g.one,h.bD.frame m (by rw[h.co];simp),?_,λj w x p q=>?_⟩
 .rw[au λe=>by have:=h.bD.2.2;rw[e]at this;omega];exact h.co
 rw[gP]at q;by_cases b:i=j
 .subst b;rw[ar rfl,ar t]at q;cases q;refine g.mono (λk a=>?_) (λk a=>?_)
  .rcases a with a|rfl
   .show(if k=s.nx then some i else av k)=some i
    split
    .rfl
    exact a
   show(if s.nx=s.nx then some i else av s.nx)=some i;rw[ar rfl]
  have a:(if k=s.nx then some i else av k)=some i:=a;rw[n]
  split at a
  .rename_i e;subst e;omega
  have:=(h.own i v sz aq r).2.1 k a;omega
 rw[au b]at q;have y:=h.own j w x p q;refine(y.frame m (λk a c=>by have c:av k=some i:=c;have a:av k=some j:=a;rw[a]at c;cases c;exact b rfl)).mono (λk a=>?_) (λk a=>?_)
 .have C:=y.2.1 k a;show(if k=s.nx then some i else av k)=some j;rw[au λe=>by subst e;omega];exact a
 have a:(if k=s.nx then some i else av k)=some j:=a;rw[n]
 split at a
 .cases a;exact absurd rfl b
 have:=y.2.1 k a;omega
def iB.field(h:iB s o cells av L)(k:Nat)(c:k<cells.length){x:HV}(d:cellsOf x=some [x]):∃s',pR 1 (some (.ptr o k)) (some x) s=.v .undef s'/\iB s' o (cells.set k x) av L:=by obtain⟨s',f,g,j,q⟩:=h.bD.set k c x d;exact⟨s',f,g,h.co,λi v m b n=>(h.own i v m b n).frame j (λp a e=>by subst e;have a:av p=some i:=a;rw[h.co]at a;cases a)⟩
def iB.iY(h:iB s o cells av L)(i:Nat){v:HV}{aq:aO}(q:L[i]?=some (v,1,aq))(j:Nat)(t:j<aq.length){x:HV}(u:cellsOf x=some [x]):
  ∃f s',EN (some v) (some (.int .i64 (j:Int))) 1 s=.v (.ptr f (j*1)) s/\pR 1 (some (.ptr f (j*1))) (some x) s=.v .undef s'/\iB s' o cells av (L.set i (v,1,aq.set j [x])):=by
 have g:=(aS.1 q).1;obtain⟨f,s',y,z,A,r,B⟩:=(h.own i v 1 aq q).iY j t x u;refine⟨f,s',y,z,h.bD.frame r (by rw[h.co];simp),h.co,λk w m c d=>?_⟩;rw[gP]at d;by_cases b:i=k
 .subst b;rw[ar rfl,ar g]at d;cases d;exact A
 rw[au b]at d;exact(h.own k w m c d).frame r (λp n a=>by have a:av p=some i:=a;have n:av p=some k:=n;rw[n]at a;cases a;exact b rfl)
def iB.cut(h:iB s o cells av L)(i:Nat){v:HV}{sz:Nat}{aq:aO}(j:L[i]?=some (v,sz,aq))(n:Nat)(m:n<=aq.length)(h0:aq≠ []):∃d,v=.sl d 0 aq.length sz/\iB s o cells av (L.set i (.sl d 0 n sz,sz,aq.take n)):=by
 have f:=(aS.1 j).1;obtain⟨d,p,q⟩:=(h.own i v sz aq j).cut n m h0;refine⟨d,p,h.bD,h.co,λk w g a b=>?_⟩;rw[gP]at b;by_cases c:i=k
 .subst c;rw[ar rfl,ar f]at b;cases b;exact q
 rw[au c]at b;exact h.own k w g a b
def iB.get(h:iB s o cells av L)(k:Nat){x:HV}(a:cells[k]?=some x):eG (ak s.h o) k=some x:=by rw[h.bD.get k (aS.1 a).1,a]
def iB.len(h:iB s o cells av L)(i:Nat){v:HV}{sz:Nat}{aq:aO}(a:L[i]?=some (v,sz,aq))(s1:HS):xh 0 (some v) s1=.v (.int .i64 (aq.length:Int)) s1:=(h.own i v sz aq a).len
def iB.at1(h:iB s o cells av L)(i:Nat){v:HV}{aq:aO}(b:L[i]?=some (v,1,aq))(j:Nat)(c:j<aq.length):∃a,EN (some v) (some (.int .i64 (j:Int))) 1 s=.v (.ptr a (j*1)) s/\eG (ak s.h a) (j*1)=(aq[j])[0]?:=by obtain⟨a,d,_,f,_⟩:=(h.own i v 1 aq b).at (k:=.i64) j c;exact⟨a,d,by have:=f 0 (by omega);rwa[gH]at this⟩
def iB.start(h:gJ s o cells)(c:∀e∈L,e.1=.ah/\e.2.2=[]):iB s o cells (λ_=>none) L:=by refine⟨h,rfl,λi v j d f=>?_⟩;obtain⟨a,b⟩:=c _ (cG f);simp only at a b;subst a;subst b;exact⟨Sz.nil,λk g=>(by cases g),.inl ⟨rfl,rfl⟩⟩
end
structure dR(s:HS)(av:aZ)(L:cE):Prop where
 bd:∀k i,av k=some i->k.toNat<s.nx.toNat
 top:∀k i,av k=some i->i<L.length
 own:∀i v sz aq,L[i]?=some (v,sz,aq)->ck s v sz (λk=>av k=some i) aq
section
variable{s:HS}{av:aZ}{L:cE}
def dR.append(h:dR s av L)(i:Nat){v:HV}{sz:Nat}{aq:aO}(x:L[i]?=some (v,sz,aq)){new:aO}(z:Sz sz new)(h0:new≠ []){bw:Nat}(A:aq.length+new.length<=bw):
  ∃f s' g,lS sz bw none (some v) (some (.psl new)) s=.v f s'/\cellsOf f=some [f]/\dR s' g (L.set i (f,sz,aq++new)):=by
 have m:=(aS.1 x).1;obtain⟨f,s',B,n,r,d⟩:=(h.own i v sz aq x).append z h0 A;have t:=Ky.aV s.nx;refine⟨f,s',λk=>if k=s.nx then some i else av k,B,n.one,λk j a=>?_,λk j a=>?_,λj w u p q=>?_⟩
 .rw[d]
  split at a
  .rename_i e;subst e;omega
  have:=h.bd k j a;omega
 .rw[jc]
  split at a
  .cases a;exact m
  exact h.top k j a
 rw[gP]at q;by_cases b:i=j
 .subst b;rw[ar rfl,ar m]at q;cases q;refine n.mono (λk a=>?_) (λk a=>?_)
  .rcases a with a|rfl
   .show(if k=s.nx then some i else av k)=some i
    split
    .rfl
    exact a
   show(if s.nx=s.nx then some i else av s.nx)=some i;rw[ar rfl]
  have a:(if k=s.nx then some i else av k)=some i:=a;rw[d]
  split at a
  .rename_i e;subst e;omega
  have:=h.bd k i a;omega
 rw[au b]at q;have y:=h.own j w u p q;refine(y.frame r (λk a c=>by have c:av k=some i:=c;have a:av k=some j:=a;rw[a]at c;cases c;exact b rfl)).mono (λk a=>?_) (λk a=>?_)
 .have C:=y.2.1 k a;show(if k=s.nx then some i else av k)=some j;rw[au λe=>by subst e;omega];exact a
 have a:(if k=s.nx then some i else av k)=some j:=a;rw[d]
 split at a
 .cases a;exact absurd rfl b
 have:=h.bd k j a;omega
def dR.iY(h:dR s av L)(i:Nat){v:HV}{aq:aO}(q:L[i]?=some (v,1,aq))(j:Nat)(r:j<aq.length){x:HV}(t:cellsOf x=some [x]):
  ∃f s',EN (some v) (some (.int .i64 (j:Int))) 1 s=.v (.ptr f (j*1)) s/\pR 1 (some (.ptr f (j*1))) (some x) s=.v .undef s'/\dR s' av (L.set i (v,1,aq.set j [x])):=by
 have g:=(aS.1 q).1;obtain⟨f,s',u,y,z,A,B⟩:=(h.own i v 1 aq q).iY j r x t;refine⟨f,s',u,y,λk i a=>by rw[B];exact h.bd k i a,λk i a=>by rw[jc];exact h.top k i a,λk w m d a=>?_⟩;rw[gP]at a;by_cases c:i=k
 .subst c;rw[ar rfl,ar g]at a;cases a;exact z
 rw[au c]at a;exact(h.own k w m d a).frame A (λp n b=>by have b:av p=some i:=b;have n:av p=some k:=n;rw[n]at b;cases b;exact c rfl)
def dR.len(h:dR s av L)(i:Nat){v:HV}{sz:Nat}{aq:aO}(a:L[i]?=some (v,sz,aq))(s1:HS):xh 0 (some v) s1=.v (.int .i64 (aq.length:Int)) s1:=(h.own i v sz aq a).len
def dR.push(h:dR s av L)(sz:Nat):dR s av (L++[(.ah,sz,[])]):=by
 have j:∀k,av k≠some L.length:=λk a=>by have:=h.top k _ a;omega
 refine⟨h.bd,λk i a=>by have:=h.top k i a;simp;omega,λi v d f c=>?_⟩;rw[JM]at c
 split at c
 .exact h.own i v d f c
 rename_i m;obtain⟨g,b⟩:=aS.1 c;simp only[dx]at g;have:i=L.length:=by omega
 subst this;simp at b;obtain⟨rfl,rfl,rfl⟩:=b;exact⟨Sz.nil,λk a=>absurd a (j k),.inl ⟨rfl,rfl⟩⟩
def dR.start(d:∀e∈L,e.1=.ah/\e.2.2=[]):dR s (λ_=>none) L:=by refine⟨λk i a=>(by cases a),λk i a=>(by cases a),λi v h f g=>?_⟩;obtain⟨b,c⟩:=d _ (cG g);simp only at b c;subst b;subst c;exact⟨Sz.nil,λk a=>(by cases a),.inl ⟨rfl,rfl⟩⟩
def nA.map{α:Type}{n:Nat}{f g:α->HV}:∀{l:List α},(∀x∈l,Vw s n (f x) (g x))->nA s n (l.map f) (l.map g)
 |[],_=>.nil
 |x::r,h=>.cons (h x dm) (nA.map λy a=>h y (cS _ a))
def ck.vwH{v:HV}{n:Nat}{F:bU}{α:Type}{f g:α->HV}{l:List α}(h:ck s v 1 F (l.map λx=>[f x]))(i:∀x∈l,Vw s n (f x) (g x)):Vw s (n+1) v (.psl (l.map λx=>[g x])):=by
 have j:=h;have a:∀(h:α->HV) (l:List α),aB (l.map λx=>[h x])=l.map h:=by
  intro h l
  induction l with|nil=>rfl|cons x r ih=>simp[ih]
 obtain⟨k,_,b⟩:=h;rcases b with⟨rfl,h0⟩|⟨o,t,m,p,d,rfl,q,u,_⟩
 .have:l=[]:=by simpa using h0
  subst this;exact .ah
 have c:Sz 1 (l.map λx=>[g x]):=Sz.map (f:=λx=>[g x]) (λx=>rfl) l;refine Vw.sl (l:=l.map f) (l':=l.map g) (by rw[<-a f l];exact j.cells.2) (nA.map i) (λ_=>?_) (λh=>?_)
 .rw[<-a g l];have:=oZ c;simpa using this
 simp only[bG]at h;rw[zJ.1 h];rfl
def dR.frame{s':HS}(h:dR s av L)(b:cX (λ_=>False) s s'):dR s' av L:=
 ⟨λk i c=>dZ (h.bd k i c) b.1,h.top,λi v d a f=>(h.own i v d a f).frame b (λ_ _ h=>h)⟩
def cX.alloc(b:Ob)(ms:cg):cX (λ_=>False) s {h:=ax (some b) s.nx s.h,nx:=s.nx.succ,gr:=ax (some ms) s.nx s.gr,ty:=s.ty}:=by
 have c:=Ky.aV s.nx;refine⟨by simp only;omega,rfl,λp a _=>?_,λp a _=>?_⟩
 .simp only;rw[af,au λe=>by subst e;omega]
 simp only;rw[af,au λe=>by subst e;omega]
def ck.gw{v:HV}{sz:Nat}{F:bU}{aq:aO}(h:ck s v sz F aq)(h0:aq≠ []):∃o,v=.sl o 0 aq.length sz:=by
 rcases h.2.2 with⟨rfl,b⟩|⟨o,t,c,g,a,rfl,_⟩
 .exact absurd b h0
 exact⟨o,rfl⟩
def ck.cell{o:Ky}{n:Nat}{F:bU}{aq:aO}(h:ck s (.sl o 0 n 1) 1 F aq)(j:Nat)(b:j<aq.length):eG (ak s.h o) j=(aq[j])[0]?:=by
 obtain⟨i,a,_,d,_⟩:=h.at (k:=.i64) j b;rcases h.2.2 with⟨a,_⟩|⟨m,t,p,g,c,f,_⟩
 .cases a
 cases f;rw[JE,ar b,ar rfl]at a;simp at a;subst a;have:=d 0 (by omega);simpa using this
open Classical in
def dR.join{s':HS}(h:dR s av L)(t:cX (λ_=>False) s s'){v:HV}{sz:Nat}{F:bU}{aq:aO}(j:ck s' v sz F aq)(x:∀k,F k->s.nx.toNat<=k.toNat):dR s' (λk=>if F k then some L.length else av k) (L++[(v,sz,aq)]):=by
 have b:∀k i,i<L.length->((if F k then some L.length else av k)=some i↔av k=some i):=by
  intro k i d;by_cases a:F k
  .have:av k≠some i:=λy=>by have:=h.bd k i y;have:=x k a;omega
   simp only[a,bj];constructor
   .intro m;cases m;omega
   intro m;exact absurd m this
  simp only[a,bn]
 refine⟨λk i a=>?_,λk i a=>?_,λi w n f d=>?_⟩
 .split at a
  .rename_i p;exact j.2.1 k p
  exact dZ (h.bd k i a) t.1
 .rw[cA,dx]
  split at a
  .cases a;omega
  have:=h.top k i a;omega
 rw[JM]at d
 split at d
 .rename_i c;have u:=(h.own i w n f d).frame t (λ_ _ h=>h);refine u.mono (λk a=>(b k i c).2 a) (λk a=>?_);exact u.2.1 k ((b k i c).1 a)
 rename_i c;obtain⟨q,g⟩:=aS.1 d;simp only[dx]at q;have r:i=L.length:=by omega
 subst r;simp at g;obtain⟨rfl,rfl,rfl⟩:=g;refine j.mono (λk a=>by show(if F k then some L.length else av k)=some L.length;rw[ar a]) (λk a=>?_);have a:(if F k then some L.length else av k)=some L.length:=a
 split at a
 .rename_i p;exact j.2.1 k p
 have:=h.top k _ a;omega
end
section call
variable{L:jg}{prog:Nat->Option HF}
def ML{c:HC}{e:En}{s:HS}{o:Out}(h:ev (dQ L prog) (.loop c) e s=o)(a:Good o):dQ L prog (.loop c e s)=o:=dr h a
def Bc{c:HC}{e:En}{s:HS}:ev (dQ L prog) (.loop c) e s=(ev (dQ L prog) c e s).bY (λe' s'=>dQ L prog (.loop c e' s')):=rfl
def JN{c:HC}(n:Nat)(I:Nat->En->HS->Prop)(Q:Out->Prop)(i:Nat)(e:En)(s:HS)(j:i<=n)(d:I i e s)
  (round:∀i e s,i<n->I i e s->(∃e' s',ev (dQ L prog) c e s=.code .normal e' s'/\I (i+1) e' s')∨(gk (ev (dQ L prog) c e s)/\Q (ev (dQ L prog) c e s)))
  (last:∀e s,I n e s->gk (ev (dQ L prog) c e s)/\Q (ev (dQ L prog) c e s)):
  ∃o,ev (dQ L prog) (.loop c) e s=o/\gk o/\Q o:=by
 obtain⟨k,m⟩:∃k,n-i=k:=⟨_,rfl⟩
 induction k generalizing i e s with
 |zero=>
  obtain rfl:i=n:=by omega
  obtain⟨a,b⟩:=last e s d;exact⟨_,by rw[Bc,a.bY],a,b⟩
 |succ k ih=>
  rcases round i e s (by omega) d with⟨e',s',a,b⟩|⟨a,b⟩
  .obtain⟨o,g,f,h⟩:=ih (i+1) e' s' (by omega) b (by omega);exact⟨o,by rw[Bc,a,jR];exact ML g f.MJ,f,h⟩
  exact⟨_,by rw[Bc,a.bY],a,b⟩
def eU{c:HC}{e:En}{s:HS}{o:Out}(d:ev (dQ L prog) (.loop c) e s=o)(n:Nat)(I:Nat->En->HS->Prop)(Q:Out->Prop)(i:Nat)(b:i<=n)(a:I i e s)
  (round:∀i e s r,i<n->I i e s->ev (dQ L prog) c e s=r->(∃e' s',r=.code .normal e' s'/\I (i+1) e' s')∨(gk r/\Q r))
  (last:∀e s r,I n e s->ev (dQ L prog) c e s=r->gk r/\Q r):Q o:=by
 obtain⟨h,f,j,g⟩:=JN n I Q i e s b a (λi e s b a=>round i e s _ b a rfl) (λe s a=>last e s _ a rfl);rw[<-d,f];exact g
abbrev Up(N:Nat):bU:=λk=>N<=k.toNat
def yV(N:Nat)(p:HS->Prop):Prop:=∀s1 s2,p s1->cX (Up N) s1 s2->p s2
def HI(L:jg)(prog:Nat->Option HF)(f:Nat)(pre post items:aj):Prop:=
 ∀(l:Ky) (G:bU) (I:aj->HS->Prop) (Fn:HS->Prop) (s:HS),(∀k,G k->k.toNat<s.nx.toNat)->(∀x,yV s.nx.toNat (I x))->yV s.nx.toNat Fn->
  (∀x a s1,s.nx.toNat<=s1.nx.toNat->I (x::a) s1->∃b s2,dQ L prog (.round l [x] s1)=.val (.bool b) s2/\cX G s1 s2/\(b=true->I a s2)/\(b=false->Fn s2))->
  ∀a,I (items++a) s->∃s',dQ L prog (.call f (pre++[.iR l]++post) s)=.val (.bM []) s'/\cX (λk=>G k∨Up s.nx.toNat k) s s'/\(I a s'∨Fn s')
end call
def cX.mono{F G:bU}{s s':HS}(h:cX F s s')(d:∀k,F k->G k):cX G s s':=⟨h.1,h.2.1,λp a b=>h.2.2.1 p a λc=>b (d p c),λp a b=>h.2.2.2 p a λc=>b (d p c)⟩
def cX.trans{F:bU}{s s' a:HS}(h:cX F s s')(k:cX F s' a):cX F s a:=⟨fz h.1 k.1,k.2.1.trans h.2.1,λp b c=>(k.2.2.1 p (dZ b h.1) c).trans (h.2.2.1 p b c),λp b c=>(k.2.2.2 p (dZ b h.1) c).trans (h.2.2.2 p b c)⟩
section
variable{L:jg}{prog:Nat->Option HF}{l:Ky}{s s1 s2:HS}{e e1 e2:En}{ps:ay}{iS body:HC}
abbrev tS(a:Nat)(b:Option HC)(e:En)(ps:ay)(iS body:HC):Option Ob:=some (.loop a b e ps iS body)
def Bd{v:HV}{p:Nat}{o:Out}(n:ak s.h l=tS 0 none e [p] iS body)(q:ev (dQ L prog) iS (.cons p v e) s=.code .normal e1 s1)(r:ak s1.h l=tS 0 none e [p] iS body)
    (t:ev (dQ L prog) body e1 (s1.aK l (.loop 2 none e [p] iS body))=o)(m:∀e2 s2,(o=.code .normal e2 s2∨o=.code .ret e2 s2)->ak s2.h l=tS 2 none e [p] iS body):
    (∀e2 s2,o=.code .normal e2 s2->dQ L prog (.round l [v] s)=.val (.bool true) (s2.aK l (.loop 0 none e [p] iS body)))/\
    (∀e2 s2,o=.code .ret e2 s2->dQ L prog (.round l [v] s)=.val (.bool false) (s2.aK l (.loop 1 (some .ret) e [p] iS body))):=by
  have c:∀e2 s2 x b f a,o=.code x e2 s2->((x=.normal/\b=true/\f=0/\a=none)∨(x=.ret/\b=false/\f=1/\a=some HC.ret))->dQ L prog (.round l [v] s)=.val (.bool b) (s2.aK l (.loop f a e [p] iS body)):=by
    intro e2 s2 x b f a j u;refine dr ?_ trivial;show gx (dQ L prog) l [v] s=_;unfold gx;rw[n];show(bif Nat.beq (aM [v]) (aM [p])then _ else _)=_;rw[cH,cH,cL];simp only[dx,eO,cond_true];have w:oi e [p] [v]=.cons p v e:=by simp[oi]
    rw[w,q];show(match ak s1.h l with
        |some (.loop f y z k g d)=>bif Nat.beq f 0 then(match ev (dQ L prog) body e1 (s1.aK l (.loop 2 y z k g d))with
          |.code .normal _ s2=>kH l 0 none s2
          |.code .ret _ s2=>kH l 1 (some .ret) s2
          |.code (.exit i) _ s2=>kH l 1 (some (.exit i)) s2
          |_=>.bad 11)else .bad 17
        |_=>.bad 18)=_
    rw[r];show(match ev (dQ L prog) body e1 (s1.aK l (.loop 2 none e [p] iS body))with
          |.code .normal _ s2=>kH l 0 none s2
          |.code .ret _ s2=>kH l 1 (some .ret) s2
          |.code (.exit i) _ s2=>kH l 1 (some (.exit i)) s2
          |_=>.bad 11)=_
    rw[t,j];rcases u with⟨rfl,rfl,rfl,rfl⟩|⟨rfl,rfl,rfl,rfl⟩
    . show kH l 0 none s2=_
      unfold kH;rw[m e2 s2 (.inl j)];rfl
    show kH l 1 (some .ret) s2=_;unfold kH;rw[m e2 s2 (.inr j)];rfl
  exact⟨λe2 s2 h=>c e2 s2 .normal true 0 none h (.inl ⟨rfl,rfl,rfl,rfl⟩),λe2 s2 h=>c e2 s2 .ret false 1 (some .ret) h (.inr ⟨rfl,rfl,rfl,rfl⟩)⟩
def K3(s:HS)(e:En)(ps:ay)(iS body:HC):HS:={h:=ax (some (.loop 0 none e ps iS body)) s.nx s.h,nx:=s.nx.succ,gr:=s.gr,ty:=s.ty}
def Be{x:X}{f:Nat}{a b:aj}{v:HV}{e':En}{XM:ay}{JO C2:HC}(d:bp x e=some (.fn f a b))(c:dQ L prog (.call f (a++[.iR s.nx]++b) (K3 s e ps iS body))=.val v s2):
  (ak s2.h s.nx=tS 0 none e' XM JO C2->lg (dQ L prog) x ps iS body e s=.code .normal e (s2.kill s.nx))/\(ak s2.h s.nx=tS 1 (some .ret) e' XM JO C2->lg (dQ L prog) x ps iS body e s=.code .ret e (s2.kill s.nx)):=by
 have c:dQ L prog (.call f (a++[HV.iR s.nx]++b) {h:=ax (some (.loop 0 none e ps iS body)) s.nx s.h,nx:=s.nx.succ,gr:=s.gr,ty:=s.ty})=.val v s2:=c;constructor
 .intro h;unfold lg;rw[d];simp only[c,h];rfl
 intro h;unfold lg;rw[d];simp only[c,h];rfl
def dJ{o p:Ky}{b:Ob}:ak (s.aK o b).h p=if p=o then some b else ak s.h p:=by show ak (ax (some b) o s.h) p=_;rw[af]
def cX.aK{G:bU}{o:Ky}{b:Ob}(c:G o):cX G s (s.aK o b):=by refine⟨aW _,rfl,λp d a=>?_,λp d a=>rfl⟩;rw[dJ,au λe=>by subst e;exact a c]
@[simp]def C3{o p:Ky}:ak (s.kill o).h p=if p=o then none else ak s.h p:=by show ak (ax none o s.h) p=_;rw[af]
def cX.rf:cX (λ_=>False) s (K3 s e ps iS body):=by have b:=Ky.aV s.nx;refine⟨by simp only[K3];omega,rfl,λp a _=>?_,λp a _=>rfl⟩;simp only[K3];rw[af,au λe=>by subst e;omega]
end
def F9:∀(new a l:aj),new.length=l.length->Ia (a++l) a.length new=a++new
 |[],a,l,h=>by have:l=[]:=iJ h.symm;subst this;rfl
 |v::r,a,[],h=>by simp at h
 |v::r,a,w::l,h=>by rw[xC];have:=F9 r (a++[v]) l (by simpa using h);simpa using this
def gJ.put{s:HS}{o:Ky}{l new:aj}{v:HV}(h:gJ s o l)(c:cellsOf v=some new)(b:new.length=l.length):∃s',pR l.length (some (.ptr o 0)) (some v) s=.v .undef s'/\gJ s' o new/\cX (λp=>p=o) s s'/\s'.nx=s.nx:=by refine⟨{h:=ax (some (.cells (cM new) 0 l.length o)) o s.h,nx:=s.nx,gr:=s.gr,ty:=s.ty},?_,⟨by rw[af,ar rfl,b],h.2.1,h.2.2⟩,⟨aW _,rfl,λp d a=>by simp only;rw[af,au a],λp d a=>rfl⟩,rfl⟩;rw[iO,c];simp only[dG,b,bj];rw[kR,h.1,ai (fm _) (by omega),h.2.1,an (by omega)];have:=F9 new [] l b;simp only[bA,List.length_nil]at this;rw[this];rfl
def gJ.load{s:HS}{o:Ky}{l:aj}(h:gJ s o l):fI (ak s.h o) 0 l.length=some l:=by rw[h.1,ao (aW _) (by omega) (by omega)];simp
def gJ.kill{s:HS}{o k:Ky}{l:aj}(h:gJ s o l)(a:o≠k):gJ (s.kill k) o l:=⟨by rw[C3,au a];exact h.1,h.2.1,h.2.2⟩
def LU:jg:={bt:=188,H9:=5,dk:=126,str:=104,fmt:=208,uI:=some 7,Ih:=[105,176,177,178]}
abbrev R:Task->Out:=dQ LU U.prog
def cW(k:Nat){d a:Nat}{keep:ay}{c:List Rs}{b:HC}(f:U.prog k=some ⟨d,a,keep,c,b,true⟩)(g:oY LU k=true) ⦃args:aj⦄ ⦃v:HV⦄ ⦃s:HS⦄ (h:n5 c (bJ R b (bb args 0) s0)=some v) (i:args.length=a:=by rfl) (j:da args=true:=by simp):R (.call k args s)=.val v s:=Sh k _ args v s f g rfl i j h
def Bf(k:Nat){d a:Nat}{keep:ay}{c:List Rs}{b:HC}(f:U.prog k=some ⟨d,a,keep,c,b,false⟩)(g:oY LU k=true) ⦃args:aj⦄ ⦃v:HV⦄ ⦃s s':HS⦄ (i:args.length=a) (h:∃x e s1,ev R b (bb args 0) s=.code x e s1/\(x=.normal∨x=.ret)/\n4 (dN e s1 c) s1=.val v s'):R (.call k args s)=.val v s':=Si k _ args v s s' f g rfl i h
def MM(k:Nat){a c:Nat}{keep:ay}{d:List Rs}{b:HC}(f:U.prog k=some ⟨a,c,keep,d,b,true⟩)(g:oY LU k=true) ⦃args l:aj⦄ ⦃v:HV⦄ ⦃s:HS⦄ (i:cj args=false) (j:nA s 16 args l) (m:da l=true) (n:eP v=true) (h:∀s,R (.call k l s)=.val v s):R (.call k args s)=.val v s:=So k _ args l v s f g rfl i j m n (h s0)
section
variable{args l:aj}{v:HV}{s:HS}
def Ga:=cW 3 rfl rfl
def XN:=cW 4 rfl rfl
def q25:=cW 5 rfl rfl
def XO:=cW 6 rfl rfl
def q31:=cW 8 rfl rfl
def v31:=MM 8 rfl rfl
def q32:=cW 9 rfl rfl
def n15:=Bf 10 rfl rfl
def XP:=cW 11 rfl rfl
def XQ(a:cj args=false)(b:nA s 16 args l)(c:da l=true)(d:fL U.FR R l=true)(h:∀s,R (.call 11 l s)=.val v s):R (.call 11 args s)=.val v s:=rJ 11 U.FR args l v s rfl rfl rfl a b c d (h s0)
def q38:=cW 12 rfl rfl
def q27:=cW 13 rfl rfl
def q10:=cW 14 rfl rfl
def q66:=cW 15 rfl rfl
def q61:=cW 16 rfl rfl
def XR:=cW 17 rfl rfl
def XS:=cW 26 rfl rfl
def q68:=cW 27 rfl rfl
def q46:=cW 28 rfl rfl
def q48:=cW 29 rfl rfl
def q50:=cW 30 rfl rfl
def q18:=cW 31 rfl rfl
def q69:=cW 32 rfl rfl
def XT:=cW 33 rfl rfl
def XU:=Bf 34 rfl rfl
def q75:=cW 35 rfl rfl
def q63:=cW 36 rfl rfl
def q64:=cW 37 rfl rfl
def q65:=cW 38 rfl rfl
def v65:=MM 38 rfl rfl
def q9:=cW 39 rfl rfl
def q24:=cW 40 rfl rfl
def q76:=cW 41 rfl rfl
def q96:=cW 42 rfl rfl
def q74:=cW 43 rfl rfl
def q62:=cW 51 rfl rfl
def q45:=cW 53 rfl rfl
def q84:=cW 54 rfl rfl
def q90:=cW 55 rfl rfl
def q57:=cW 56 rfl rfl
def q94:=cW 57 rfl rfl
def q95:=cW 58 rfl rfl
def q28:=cW 59 rfl rfl
def q59:=cW 60 rfl rfl
def q60:=cW 61 rfl rfl
def adz:=cW 62 rfl rfl
def adA:=cW 63 rfl rfl
def adB:=cW 64 rfl rfl
def adC:=cW 65 rfl rfl
def XV:=cW 66 rfl rfl
def adD:=cW 67 rfl rfl
def adE:=cW 68 rfl rfl
def adF:=cW 69 rfl rfl
def adG:=cW 70 rfl rfl
def adH:=cW 71 rfl rfl
def q93:=cW 72 rfl rfl
def adI:=cW 81 rfl rfl
def q82:=cW 86 rfl rfl
def q86:=cW 88 rfl rfl
def adJ:=Bf 89 rfl rfl
def adK:=cW 90 rfl rfl
def adL:=MM 90 rfl rfl
def XW:=Bf 91 rfl rfl
def adM:=cW 92 rfl rfl
def adN:=cW 93 rfl rfl
def adO:=cW 94 rfl rfl
def adP:=cW 95 rfl rfl
def adQ:=cW 96 rfl rfl
def adR:=cW 97 rfl rfl
def adS:=Bf 103 rfl rfl
def adT:=cW 108 rfl rfl
def adU:=cW 109 rfl rfl
def adV:=cW 110 rfl rfl
def adW:=cW 111 rfl rfl
def adX:=cW 112 rfl rfl
def adY:=cW 113 rfl rfl
def adZ:=cW 114 rfl rfl
def ad0:=cW 117 rfl rfl
def ad1:=cW 118 rfl rfl
def ad2:=Bf 119 rfl rfl
def ad3:=cW 120 rfl rfl
def ad4:=MM 120 rfl rfl
def ad5:=cW 121 rfl rfl
def ad6:=cW 122 rfl rfl
def ad7:=cW 123 rfl rfl
def ad8:=cW 124 rfl rfl
def ad9:=cW 127 rfl rfl
def aea:=cW 128 rfl rfl
def aeb:=cW 129 rfl rfl
def Ss:=Bf 130 rfl rfl
def aec:=cW 131 rfl rfl
def aed:=cW 132 rfl rfl
def aee:=MM 132 rfl rfl
def XX:=Bf 133 rfl rfl
def aef:=cW 134 rfl rfl
def aeg:=cW 135 rfl rfl
def aeh:=cW 136 rfl rfl
def aei:=cW 137 rfl rfl
def XY:=cW 138 rfl rfl
def aej:=MM 138 rfl rfl
def aek:=cW 139 rfl rfl
def ael:=Bf 140 rfl rfl
def aem:=Bf 141 rfl rfl
def St:=cW 142 rfl rfl
def aen:=cW 143 rfl rfl
def aeo:=cW 144 rfl rfl
def aep:=cW 145 rfl rfl
def aeq:=cW 146 rfl rfl
def aer:=cW 149 rfl rfl
def aes:=cW 150 rfl rfl
def aet:=cW 151 rfl rfl
def v171:=MM 151 rfl rfl
def aeu:=cW 152 rfl rfl
def aev:=cW 153 rfl rfl
def aew:=cW 154 rfl rfl
def aex:=cW 155 rfl rfl
def aey:=cW 156 rfl rfl
def aez:=cW 157 rfl rfl
def aeA:=cW 158 rfl rfl
def aeB:=cW 159 rfl rfl
def aeC:=cW 160 rfl rfl
def aeD:=cW 161 rfl rfl
def aeE:=cW 162 rfl rfl
def aeF:=cW 163 rfl rfl
def aeG:=cW 164 rfl rfl
def XZ:=cW 165 rfl rfl
def aeH:=cW 166 rfl rfl
def aeI:=cW 167 rfl rfl
def aeJ:=cW 168 rfl rfl
def aeK:=cW 169 rfl rfl
def aeL(a:cj args=false)(b:nA s 16 args l)(c:da l=true)(d:fL U.f195 R l=true)(h:∀s,R (.call 169 l s)=.val v s):R (.call 169 args s)=.val v s:=rJ 169 U.f195 args l v s rfl rfl rfl a b c d (h s0)
def aeM:=cW 170 rfl rfl
def aeN:=Bf 171 rfl rfl
def aeO:=cW 172 rfl rfl
def aeP:=cW 173 rfl rfl
def aeQ(a:cj args=false)(b:nA s 16 args l)(c:da l=true)(d:fL U.f199 R l=true)(h:∀s,R (.call 173 l s)=.val v s):R (.call 173 args s)=.val v s:=rJ 173 U.f199 args l v s rfl rfl rfl a b c d (h s0)
def aeR:=cW 174 rfl rfl
def aeS(a:cj args=false)(b:nA s 16 args l)(c:da l=true)(d:fL U.f200 R l=true)(h:∀s,R (.call 174 l s)=.val v s):R (.call 174 args s)=.val v s:=rJ 174 U.f200 args l v s rfl rfl rfl a b c d (h s0)
def aeT:=cW 175 rfl rfl
def aeU(a:cj args=false)(b:nA s 16 args l)(c:da l=true)(d:fL U.f201 R l=true)(h:∀s,R (.call 175 l s)=.val v s):R (.call 175 args s)=.val v s:=rJ 175 U.f201 args l v s rfl rfl rfl a b c d (h s0)
def aeV{s':HS}{a:aj}{b:aO}(h:∃x e s1,ev R U.Jv (bb [.psl (a::b)] 0) s=.code x e s1/\(x=.normal∨x=.ret)/\n4 (dN e s1 [.tmp 2]) s1=.val v s'):R (.call 176 [.psl (a::b)] s)=.val v s':=F4 176 U.f202 a b v s s' rfl rfl rfl rfl h
def aeW:R (.call 177 [.psl []] s)=.val (.psl []) s:=JF 177 s rfl rfl
def aeX{a:aj}{b:aO}(c:da [.psl (a::b)]=true)(h:n5 [.tmp 2] (bJ R U.RJ (bb [.psl (a::b)] 0) s0)=some v):R (.call 177 [.psl (a::b)] s)=.val v s:=MB 177 U.f203 a b v s rfl rfl rfl rfl c h
def aeY:R (.call 178 [.psl []] s)=.val (.psl []) s:=JF 178 s rfl rfl
def aeZ{s':HS}{a:aj}{b:aO}(h:∃x e s1,ev R U.Jw (bb [.psl (a::b)] 0) s=.code x e s1/\(x=.normal∨x=.ret)/\n4 (dN e s1 [.tmp 2]) s1=.val v s'):R (.call 178 [.psl (a::b)] s)=.val v s':=F4 178 U.f204 a b v s s' rfl rfl rfl rfl h
def ae0:=cW 179 rfl rfl
def ae1:=cW 180 rfl rfl
def X0:=Bf 181 rfl rfl
def X1:=Bf 182 rfl rfl
def ae2:=cW 183 rfl rfl
def ae3:=cW 184 rfl rfl
def ae4:=cW 185 rfl rfl
def ae5:=cW 186 rfl rfl
def X2:=cW 187 rfl rfl
def ae6:=MM 187 rfl rfl
def ae7:=Bf 188 rfl rfl
def X3:=Bf 189 rfl rfl
def ae8:=Bf 190 rfl rfl
def ae9:=cW 191 rfl rfl
def X4:=MM 191 rfl rfl
def afa:=cW 192 rfl rfl
def X5:=Bf 193 rfl rfl
def MN:=Bf 194 rfl rfl
def afb:=cW 195 rfl rfl
def afc:=cW 196 rfl rfl
def afd:=cW 197 rfl rfl
def afe:=cW 199 rfl rfl
def aff:=cW 200 rfl rfl
def afg:=cW 201 rfl rfl
def afh:=cW 202 rfl rfl
def afi:=Bf 203 rfl rfl
def afj:=cW 204 rfl rfl
def afk:=cW 207 rfl rfl
end
def cJ(m:Mv):Bool:=m.kind=3/\m.n= -1
def de(m:Mv):Bool:=m.kind=1∨m.kind=2
def qK(m:Mv):Mv:=⟨m.arg,0,m.kind,m.n⟩
def dV(b:Bs):Bool:=1<=b.n/\b.n<=64
def Su(m:Mv)(s:HS):R (.call 59 [.agg m.c] s)=.val (.bool (cJ m)) s:=by refine q28 ?_;by_cases h:m.kind=3<;>simp[U.b28,h,aa,cJ]
def w62(n a b:Int)(s:HS):R (.call 51 [iV n,iV a,iV b] s)=.val (.bool (a<=n/\n<=b)) s:=by refine q62 ?_;by_cases h:a<=n<;>simp[U.b62,h,aa]
def w60(b:Bs)(s:HS):R (.call 61 [.agg b.c] s)=.val (.bool (dV b)) s:=by refine q60 ?_;simp[U.b60,aa,dV,w62]
def U5(m:Mv)(s:HS):R (.call 35 [.agg m.c] s)=.val (.bool (de m)) s:=by refine q75 ?_;by_cases h:m.kind=1<;>simp[U.b75,h,aa,de]
def fS(t:Ty):Bool:=dV t.res&&t.ps.all dV&&(t.ps.isEmpty|| !t.res.cell)
def pc(t:Ty):Bool:=5<t.ps.length
def aI(a:Ar):Int:=if 8<a.ids.length∨a.ids.any pc then 5 else if !dV a.root||a.ids.any (λt=> !fS t)then 4 else 0
def dW(a:Ar):Prop:=a.ids.length<4611686018427387904/\∀t∈a.ids,t.ps.length<4611686018427387904
def Sv(b:Bs)(s:HS):R (.call 112 [.agg b.c] s)=.val (.bool (dV b)) s:=by refine adX ?_;by_cases h:1<=b.n<;>simp[U.Wh,h,aa,dV]
def afl(b:Bs)(s:HS):R (.call 127 [.agg b.c] s)=.val (.bool (!dV b)) s:=by refine ad9 ?_;have:=Sv b;simp at this;simp[U.Wq,aa,this]
def afm(t:Ty)(s:HS):R (.call 108 [.agg t.c] s)=.val (.bool (pc t)) s:=by refine adT ?_;simp[U.We,aa,pc];omega
def afn(p:Bs->Bool)(k:Nat)(l:tR)(h:∀b∈l,∀s,R (.call k [.agg b.c] s)=.val (.bool (p b)) s)(a:l.length<4611686018427387904)(s:HS):R (.call 149 [.psl (l.map Bs.c),.fn k [] []] s)=.val (iV (if l.any p then l.findIdx p else-1)) s:=by
 refine aer ?_;simp[U.Wx];generalize B:bJ R (.loop U.wI) _ _=o;have C:=ba B l.length
  (λi e s'=>s'=s0/\look e 0=some (.psl (l.map Bs.c))/\look e 1=some (.fn k [] [])/\look e 7=some (iV l.length)/\look e 8=some (iV i)/\∀j (n:j<i) (a:j<l.length),p l[j]=false)
  (λo=>(∃i q,∃d:i<l.length,o=.code .ret q s0/\look q 4=some (iV i)/\p l[i]=true/\∀j (n:j<i) (a:j<l.length),p l[j]=false)∨(∃q,o=.code (.exit 0) q s0/\∀j (a:j<l.length),p l[j]=false))
  0 (by omega) (by simp)
  (λi e s' r d ⟨y,h0,u,t,w,f⟩ g=>by
   subst y;have z:=h l[i] (cp d);simp at z;cases m:p l[i]
   .simp[U.wI,h0,u,t,w,d,bo d (qL a),z,m]at g;subst g;refine .inl ⟨_,_,rfl,rfl,by simp[h0],by simp[u],by simp[t],by simp,λj n a=>?_⟩;by_cases A:j=i
    .subst A;exact m
    exact f j (by omega) a
   simp[U.wI,h0,u,t,w,d,z,m]at g;subst g;exact .inr ⟨by simp,.inl ⟨i,_,d,rfl,by simp,m,f⟩⟩)
  (λe s' r ⟨y,h0,u,t,w,f⟩ g=>by
   subst y;simp[U.wI,t,w]at g;subst g;exact⟨by simp,.inr ⟨_,rfl,λj a=>f j a a⟩⟩)
 clear B;rcases C with⟨i,q,d,rfl,D,m,f⟩|⟨q,rfl,f⟩
 .simp[D,aa];rw[ar ⟨_,cp d,m⟩,(ES d).2 ⟨m,λj n=>f j n (by omega)⟩]
 simp[aa];intro x E;obtain⟨j,n,rfl⟩:=eH.1 E;exact f j n
def afo(p:Ty->Bool)(k:Nat)(l:xF)(h:∀b∈l,∀s,R (.call k [.agg b.c] s)=.val (.bool (p b)) s)(a:l.length<4611686018427387904)(s:HS):R (.call 129 [.psl (l.map Ty.c),.fn k [] []] s)=.val (iV (if l.any p then l.findIdx p else-1)) s:=by
 refine aeb ?_;simp[U.Ws];generalize B:bJ R (.loop U.wF) _ _=o;have C:=ba B l.length
  (λi e s'=>s'=s0/\look e 0=some (.psl (l.map Ty.c))/\look e 1=some (.fn k [] [])/\look e 7=some (iV l.length)/\look e 8=some (iV i)/\∀j (n:j<i) (a:j<l.length),p l[j]=false)
  (λo=>(∃i q,∃d:i<l.length,o=.code .ret q s0/\look q 4=some (iV i)/\p l[i]=true/\∀j (n:j<i) (a:j<l.length),p l[j]=false)∨(∃q,o=.code (.exit 0) q s0/\∀j (a:j<l.length),p l[j]=false))
  0 (by omega) (by simp)
  (λi e s' r d ⟨y,h0,u,t,w,f⟩ g=>by
   subst y;have z:=h l[i] (cp d);simp at z;cases m:p l[i]
   .simp[U.wF,h0,u,t,w,d,bo d (qL a),z,m]at g;subst g;refine .inl ⟨_,_,rfl,rfl,by simp[h0],by simp[u],by simp[t],by simp,λj n a=>?_⟩;by_cases A:j=i
    .subst A;exact m
    exact f j (by omega) a
   simp[U.wF,h0,u,t,w,d,z,m]at g;subst g;exact .inr ⟨by simp,.inl ⟨i,_,d,rfl,by simp,m,f⟩⟩)
  (λe s' r ⟨y,h0,u,t,w,f⟩ g=>by
   subst y;simp[U.wF,t,w]at g;subst g;exact⟨by simp,.inr ⟨_,rfl,λj a=>f j a a⟩⟩)
 clear B;rcases C with⟨i,q,d,rfl,D,m,f⟩|⟨q,rfl,f⟩
 .simp[D,aa];rw[ar ⟨_,cp d,m⟩,(ES d).2 ⟨m,λj n=>f j n (by omega)⟩]
 simp[aa];intro x E;obtain⟨j,n,rfl⟩:=eH.1 E;exact f j n
def afp(p:Bs->Bool)(k:Nat)(l:tR)(h:∀b∈l,∀s,R (.call k [.agg b.c] s)=.val (.bool (p b)) s)(d:l.length<4611686018427387904)(s:HS):R (.call 128 [.psl (l.map Bs.c),.fn k [] []] s)=.val (.bool (l.any p)) s:=by
 refine aea ?_;simp[U.Wr,afn p k l h d];by_cases a:∃x,x∈l/\p x=true
 .simp[a,aa]
 simp[a,aa];simpa using a
def X6(p:Ty->Bool)(k:Nat)(l:xF)(h:∀b∈l,∀s,R (.call k [.agg b.c] s)=.val (.bool (p b)) s)(d:l.length<4611686018427387904)(s:HS):R (.call 111 [.psl (l.map Ty.c),.fn k [] []] s)=.val (.bool (l.any p)) s:=by
 refine adW ?_;simp[U.Wg,afo p k l h d];by_cases a:∃x,x∈l/\p x=true
 .simp[a,aa]
 simp[a,aa];simpa using a
def MO{α:Type}(p:α->Bool)(l:List α):(l.any λx=> !p x)= !l.all p:=by induction l with|nil=>rfl|cons x r ih=>simp[ih]
def afq(t:Ty)(k:t.ps.length<4611686018427387904)(s:HS):R (.call 110 [.agg t.c] s)=.val (.bool (fS t)) s:=by
 refine adV ?_;have d:=Sv t.res;simp only[Bs.c]at d;have f:=afp (λb=> !dV b) 127 t.ps (λb _=>afl b) k;rw[MO]at f;cases g:dV t.res
 .simp-implicitDefEqProofs[U.Jn,d,g,aa,fS]
 cases j:t.ps.all dV
 .simp-implicitDefEqProofs[U.Jn,d,f,g,j,aa,fS]
 cases i:t.ps.isEmpty
 .have a:¬t.ps.length=0:=by intro h;rw[zJ]at h;simp[h]at i
  simp-implicitDefEqProofs[U.Jn,d,f,g,j,a,i,aa,fS]
 have a:t.ps.length=0:=by rw[zJ];simpa using i
 simp-implicitDefEqProofs[U.Jn,d,f,g,j,a,i,aa,fS]
def afr(t:Ty)(a:t.ps.length<4611686018427387904)(s:HS):R (.call 109 [.agg t.c] s)=.val (.bool (!fS t)) s:=by refine adU ?_;have h:=afq t a;simp at h;simp[U.Wf,aa,h]
def w82(a:Ar)(ok:dW a)(s:HS):R (.call 86 [.agg a.c] s)=.val (iV (aI a)) s:=by
 refine q82 ?_;have f:=Sv a.root;simp only[Bs.c]at f;have g:=X6 pc 108 a.ids (λt _=>afm t) ok.1;have k:=X6 (λt=> !fS t) 109 a.ids (λt h=>afr t (ok.2 t h)) ok.1;by_cases d:(8:Int)<a.ids.length
 .have b:8<a.ids.length:=by omega
  simp-implicitDefEqProofs[U.Wb,aa,d,b,aI]
 have b:¬8<a.ids.length:=by omega
 cases i:a.ids.any pc
 .cases j:dV a.root
  .simp-implicitDefEqProofs[U.Wb,aa,d,b,aI,f,g,j,i]
  cases h:a.ids.any (λt=> !fS t)<;>simp-implicitDefEqProofs[U.Wb,aa,d,b,aI,f,g,k,j,i,h]
 simp-implicitDefEqProofs[U.Wb,aa,d,b,aI,g,i]
def w59(t:Ty)(n:t.ps.length<4611686018427387904)(s:HS):R (.call 60 [.agg t.c] s)=.val (.bool (fS t)) s:=by
 refine q59 ?_;have a:=w60 t.res;simp only[Bs.c]at a;simp[U.b59];generalize B:bJ R (.loop U.CO) _ _=o;have C:=ba B t.ps.length
  (λi e s'=>s'=s0/\look e 1=some (.aw t.c)/\look e 3=some (iV i)/\∀j (p:j<i) (n:j<t.ps.length),dV t.ps[j]=true)
  (λo=>(∃g,o=.code .ret g s0/\look g 2=some (.bool false)/\t.ps.all dV=false)∨(∃g,o=.code (.exit 0) g s0/\look g 1=some (.aw t.c)/\t.ps.all dV=true))
  0 (by omega) (by simp)
  (λi e s' r q ⟨w,b,u,f⟩ k=>by
   subst w;have y:=w60 t.ps[i];simp only[Bs.c]at y;cases d:dV t.ps[i]
   .simp[U.CO,b,u,q,y,d]at k;subst k;exact .inr ⟨by simp,.inl ⟨_,rfl,by simp,by rw[JP];exact⟨_,cp q,by simp[d]⟩⟩⟩
   simp[U.CO,b,u,q,bo q (qL n),y,d]at k;subst k;refine .inl ⟨_,_,rfl,rfl,by simp[b],by simp,λj p n=>?_⟩;by_cases z:j=i
   .subst z;exact d
   exact f j (by omega) n)
  (λe s' r ⟨w,b,u,f⟩ k=>by
   subst w;simp[U.CO,b,u]at k;subst k;refine⟨by simp,.inr ⟨_,rfl,by simp[b],?_⟩⟩;rw[fq];intro x D;obtain⟨j,p,rfl⟩:=eH.1 D;exact f j p p)
 clear B;rcases C with⟨g,rfl,E,d⟩|⟨g,rfl,b,d⟩
 .simp[E,aa,fS,d]
 cases A:dV t.res
 .simp[b,a,A,aa,fS]
 cases f:t.ps.isEmpty
 .have m:¬t.ps.length=0:=by intro h;rw[zJ]at h;simp[h]at f
  simp[b,a,A,d,m,f,aa,fS]
 have m:t.ps.length=0:=by rw[zJ];simpa using f
 simp[b,a,A,d,m,f,aa,fS]
def w24(a:Ar)(ok:dW a)(s:HS):R (.call 40 [.agg a.c] s)=.val (iV (aI a)) s:=by
 refine q24 ?_;have h:=w60 a.root;simp only[Bs.c]at h;have q:=ok.1;by_cases G:(8:Int)<a.ids.length
 .have m:8<a.ids.length:=by omega
  simp[U.b24,aa,G,m,aI]
 have m:¬8<a.ids.length:=by omega
 simp[U.b24,G];generalize z:bJ R (.loop U.CJ) _ _=o;have A:=ba z a.ids.length
  (λi e s'=>s'=s0/\look e 1=some (.aw a.c)/\look e 3=some (iV i)/\∀j (n:j<i) (q:j<a.ids.length),pc a.ids[j]=false)
  (λo=>(∃f,o=.code .ret f s0/\look f 2=some (iV 5)/\a.ids.any pc=true)∨(∃f,o=.code (.exit 0) f s0/\look f 1=some (.aw a.c)/\a.ids.any pc=false))
  0 (by omega) (by simp)
  (λi e s' r k ⟨u,b,p,w⟩ d=>by
   subst u;by_cases g:(5:Int)<a.ids[i].ps.length
   .simp[U.CJ,b,p,k,g]at d;subst d;exact .inr ⟨by simp,.inl ⟨_,rfl,by simp,by rw[sF];exact⟨_,cp k,by simp[pc];omega⟩⟩⟩
   simp[U.CJ,b,p,k,bo k (qL q),g]at d;subst d;refine .inl ⟨_,_,rfl,rfl,by simp[b],by simp,λj n q=>?_⟩;by_cases y:j=i
   .subst y;simp[pc];omega
   exact w j (by omega) q)
  (λe s' r ⟨u,b,p,w⟩ d=>by
   subst u;simp[U.CJ,b,p]at d;subst d;refine⟨by simp,.inr ⟨_,rfl,by simp[b],?_⟩⟩;rw[xJ];intro x B;obtain⟨j,n,rfl⟩:=eH.1 B;simp[w j n n])
 clear z;rcases A with⟨f,rfl,C,g⟩|⟨f,rfl,b,g⟩
 .simp[C,aa,aI,g]
 simp;generalize z:bJ R (.loop U.CK) _ _=o;have A:=ba z a.ids.length
  (λi e s'=>s'=s0/\look e 1=some (.aw a.c)/\look e 4=some (iV i)/\∀j (n:j<i) (q:j<a.ids.length),fS a.ids[j]=true)
  (λo=>(∃f,o=.code .ret f s0/\look f 2=some (iV 4)/\(a.ids.any λt=> !fS t)=true)∨(∃f,o=.code (.exit 2) f s0/\look f 1=some (.aw a.c)/\(a.ids.any λt=> !fS t)=false))
  0 (by omega) (by simp[b])
  (λi e s' r k ⟨u,b,p,w⟩ d=>by
   subst u;have D:=w59 a.ids[i] (ok.2 _ (cp k));simp only[Ty.c]at D;cases g:fS a.ids[i]
   .simp[U.CK,b,p,k,D,g]at d;subst d;exact .inr ⟨by simp,.inl ⟨_,rfl,by simp,by rw[sF];exact⟨_,cp k,by simp[g]⟩⟩⟩
   simp[U.CK,b,p,k,bo k (qL q),D,g]at d;subst d;refine .inl ⟨_,_,rfl,rfl,by simp[b],by simp,λj n q=>?_⟩;by_cases y:j=i
   .subst y;exact g
   exact w j (by omega) q)
  (λe s' r ⟨u,b,p,w⟩ d=>by
   subst u;simp[U.CK,b,p]at d;subst d;refine⟨by simp,.inr ⟨_,rfl,by simp[b],?_⟩⟩;rw[xJ];intro x B;obtain⟨j,n,rfl⟩:=eH.1 B;simp[w j n n])
 clear z;rcases A with⟨f,rfl,C,E⟩|⟨f,rfl,b,E⟩
 .simp[C,aa,aI,g,E,m]
 cases d:dV a.root<;>simp[b,h,d,aa,aI,g,E,m]
def afs(a:Ar)(ok:dW a)(s:HS):R (.call 113 [.agg a.c] s)=.val (.bM [.agg a.c,iV (aI a)]) s:=by refine adY ?_;have h:=w82 a ok;simp only[Ar.c]at h;simp[U.Wi,h,s0,ai,an,ao];exact aH (.bM (.data (by simp)))
def MQ(l:aY):aj:=match l.getLast? with|none=>[iV (-1),.bool false]|some n=>[iV n,.bool true]
abbrev iC(n:Int):aj:=[iV n]
abbrev bC(b:Bool):aj:=[.bool b]
@[simp]def U6(l:aY):eM (l.map iC)=true:=cq (λx=>by simp) l
@[simp]def Sw(l:cb):eM (l.map bC)=true:=cq (λx=>by simp) l
def afu(l:aY)(a:l.length<=4611686018427387904)(s:HS):R (.call 151 [.agg [.psl (l.map iC)]] s)=.val (.bM (MQ l)) s:=by
 refine aet ?_;rcases mu l with rfl|⟨r,x,rfl⟩
 .simp[U.Rl,MQ];exact aH (.bM (.data (by simp)))
 have b:¬((r.length:Int)+1=0):=by omega
 have c:bQ .i64 (r.length:Int)=r.length:=bT (by omega) (by simp at a;omega);simp[U.Rl,MQ,b,c];exact aH (.bM (.data (by simp)))
def di(a:Ar)(id arg:Int):Option (Bs×Bool):=
 if id=0/\arg=0 then some (a.root,a.jumps)
 else if 1<=id/\id<=a.ids.length then
  match a.ids[(id-1).toNat]?with|none=>none|some t=>if arg=0 then some (t.res,a.jumps|| !t.ps.isEmpty)else if 1<=arg/\arg<=t.ps.length then(t.ps[(arg-1).toNat]?).map (λb=>(b,true))else none
 else none
def kT(o:Option (Bs×Bool)):aj:=match o with|none=>[.agg [.bool false,.int .i64 0],.bool false]|some (b,_)=>[.agg b.c,.bool true]
def X7(a:Ar)(ok:dW a)(id arg:Int)(s:HS):R (.call 145 [.agg a.c,iV id,iV arg] s)=.val (.bM (kT (di a id arg))) s:=by
 refine aep ?_;have B:=ok.1;have f:=w62;by_cases h0:id=0/\arg=0
 .obtain⟨rfl,rfl⟩:=h0;simp[U.ED,di,kT,s0,ai,an,ao];exact aH (.bM (.data (by simp)))
 by_cases m:id=0
 .subst m;have w:¬arg=0:=λh=>h0 ⟨rfl,h⟩
  simp[U.ED,di,kT,s0,ai,an,ao,w,f];exact aH (.bM (.data (by simp)))
 by_cases d:1<=id/\id<=a.ids.length
 case neg=>
  have x:decide (1<=id/\id<=(a.ids.length:Int))=false:=by simpa using d
  simp[U.ED,di,kT,s0,ai,an,ao,m,f,d];exact aH (.bM (.data (by simp)))
 obtain⟨i,rfl⟩:∃i:Nat,id=(i:Int)+1:=⟨(id-1).toNat,by omega⟩;have y:i<a.ids.length:=by omega
 have x:decide (1<=(i:Int)+1/\(i:Int)+1<=(a.ids.length:Int))=true:=by simpa using d
 have p:bQ .i64 (i:Int)=i:=bT (by omega) (by omega);have n:=aR y;generalize a.ids[i]=t at n;have z:=ok.2 t (cG n);by_cases j:arg=0
 .subst j;simp[U.ED,di,kT,s0,ai,an,ao,m,f,d,p,n];exact aH (.bM (.data (by simp)))
 by_cases g:1<=arg/\arg<=t.ps.length
 case neg=>
  have q:decide (1<=arg/\arg<=(t.ps.length:Int))=false:=by simpa using g
  simp[U.ED,di,kT,s0,ai,an,ao,m,f,d,p,n,j,g];exact aH (.bM (.data (by simp)))
 obtain⟨k,rfl⟩:∃k:Nat,arg=(k:Int)+1:=⟨(arg-1).toNat,by omega⟩;have A:k<t.ps.length:=by omega
 have q:decide (1<=(k:Int)+1/\(k:Int)+1<=(t.ps.length:Int))=true:=by simpa using g
 have r:bQ .i64 (k:Int)=k:=bT (by omega) (by omega);have u:=aR A;generalize t.ps[k]=b at u;simp[U.ED,di,kT,s0,ai,an,ao,m,f,d,p,n,j,g,r,u];exact aH (.bM (.data (by simp)))
def rK{a:Ar}(h:aI a=0):dV a.root=true/\∀t∈a.ids,fS t=true:=by
 unfold aI at h
 split at h
 .cases h
 split at h
 .cases h
 rename_i b;simp only[nS,rq,sF,not_or,Bool.not_eq_false]at b;exact⟨b.1,λt c=>by
  cases d:fS t
  .exact absurd ⟨t,c,d⟩ b.2
  rfl⟩
def iv{a:Ar}(h:aI a=0){id arg:Int}{b:Bs}{BY:Bool}(c:di a id arg=some (b,BY)):dV b=true:=by
 obtain⟨g,i⟩:=rK h;unfold di at c
 split at c
 .cases c;exact g
 split at c
 .split at c
  .cases c
  rename_i t j;have d:=i t (cG j);simp only[fS,aL,fq]at d
  split at c
  .cases c;exact d.1.1
  split at c
  .obtain⟨x,k,f⟩:=l9.1 c;cases f;exact d.1.2 _ (cG k)
  cases c
 cases c
def C4(id arg:Int)(n:Nat):Mv:=⟨id,arg,2,n⟩
def pf(id arg:Int)(n:Nat):Mv:=⟨id,arg,3,n⟩
def dK(b:Bs)(id arg:Int):bc:=⟨id,arg,1,0⟩::(List.range (if b.cell then b.n.toNat else 0)).map (C4 id arg)
def pg(b:Bs)(BY:Bool)(id arg:Int):bc:=(if BY then [⟨id,arg,3,-1⟩]else [])++(List.range b.n.toNat).map (pf id arg)
def cu(a:Ar)(id arg:Int):bc:=match di a id arg with|none=>[]|some (b,_)=>dK b id arg
def lC(a:Ar)(id arg:Int):bc:=match di a id arg with|none=>[]|some (b,e)=>pg b e id arg
def Sz.mv(l:bc):Sz 4 (l.map Mv.c):=Sz.map (λx=>by simp) l
def ph{α:Type}(f:Nat->α)(n:Nat):(List.range (n+1)).map f=(List.range n).map f++[f n]:=by rw[ET,fB];rfl
def afv(a:Ar)(ok:dW a)(I:aI a=0)(id arg:Int)(s:HS):R (.call 123 [.agg a.c,iV id,iV arg] s)=.val (.psl ((cu a id arg).map Mv.c)) s:=by
 refine ad7 ?_;have f:=X7 a ok id arg;simp only[Ar.c,iV]at f;unfold cu;cases u:di a id arg with
 |none=>rw[u]at f;simp only[kT]at f;simp[U.QB,f,s0,ai,an];exact aH .ah
 |some J=>
 obtain⟨b,M⟩:=J;rw[u]at f;simp only[kT,Bs.c]at f;have N:=iv I u;simp only[dV,bX]at N;simp[U.QB,f,s0,ai,an];generalize G:bJ R (.loop U.wE) _ _=o;have O:=ba G (if b.cell then b.n.toNat else 0)
  (λi e s'=>∃v,look e 1=some (iV id)/\look e 2=some (iV arg)/\look e 7=some (.ptr .e 0)/\look e 9=some v/\look e 10=some (iV i)/\
   ak s'.h .e=some (.cells (cM b.c) 0 2 .e)/\Bb s' v 4 1 (((⟨id,arg,1,0⟩:Mv)::(List.range i).map (C4 id arg)).map Mv.c))
  (λo=>∃w s' v,o=.code (.exit 0) w s'/\look w 9=some v/\Bb s' v 4 1 ((dK b id arg).map Mv.c))
  0 (by omega) ⟨_,by simp,by simp,by simp,by simp;rfl,by simp,by simp,by
   refine⟨Sz.mv _,by simp[Ky.toNat],.inr ⟨.z .e,_,.z .e,[],by simp,rfl,by simp,rfl,by simp[Ky.toNat]⟩⟩⟩
  (λi e s' r x ⟨v,y,A,p,m,g,q,j⟩ k=>by
   have B:i<64:=by split at x<;>omega
   have d:b.cell=true:=by cases Q:b.cell<;>simp[Q]at x ⊢
   have C:(i:Int)<b.n:=by rw[d,ar rfl]at x;omega
   obtain⟨T,V,H,D,t⟩:=j.append (bw:=4398046511104) (new:=[Mv.c (C4 id arg i)]) (Sz.cons rfl Sz.nil) (by simp) (by simp;omega);simp only[Mv.c,C4]at H;simp[U.wE,y,A,p,m,g,q,d,C,H,bo (n:=64) B (by omega)]at k;subst k;refine .inl ⟨_,_,rfl,T,by simp[y],by simp[A],by simp[p],by simp,by simp,?_,?_⟩
   .rw[t.2.2.1 _ (by decide)];exact q
   rw[ph,<-List.cons_append,fB];exact D)
  (λe s' r ⟨v,y,A,p,m,g,q,j⟩ k=>by
   cases d:b.cell with
   |false=>simp[U.wE,p,q,d]at k;subst k;refine⟨by simp,_,_,v,rfl,by simp[m],?_⟩;rw[d]at j;unfold dK;rw[d];exact j
   |true=>
    rw[d,ar rfl]at g j;have E:¬(max b.n 0<b.n):=by omega
    simp[U.wE,p,g,q,d,E]at k;subst k;refine⟨by simp,_,_,v,rfl,by simp[m],?_⟩;unfold dK;rw[d];exact j)
 clear G;obtain⟨w,s',v,rfl,m,j⟩:=O;simp[m];exact aH (j.vw (by simp))
def afw(a:Ar)(ok:dW a)(id arg:Int)(b:Bs)(BY:Bool)(d:di a id arg=some (b,BY))(s:HS):R (.call 146 [.agg a.c,iV id,iV arg] s)=.val (.bool BY) s:=by
 refine aeq ?_;have w:=ok.1;unfold di at d
 split at d
 .rename_i h0;obtain⟨rfl,rfl⟩:=h0;cases d;cases k:a.jumps<;>simp[U.Hx,k,aa]
 rename_i h0
 split at d
 .rename_i y;obtain⟨i,rfl⟩:∃i:Nat,id=(i:Int)+1:=⟨(id-1).toNat,by omega⟩;rw[show((i:Int)+1-1).toNat=i by omega]at d
  split at d
  .cases d
  rename_i t q;have r:bQ .i64 (i:Int)=i:=bT (by omega) (by omega);have g:(0:Int)<(i:Int)+1:=by omega
  split at d
  .rename_i u;subst u;cases d;cases k:a.jumps
   .cases m:t.ps.isEmpty
    .have f:t.ps≠ []:=by intro h;simp[h]at m
     have j:0<t.ps.length:=xK.2 f;simp[U.Hx,k,aa,q,r,g,j]
    have f:t.ps.length=0:=by rw[zJ];simpa using m
    simp[U.Hx,k,aa,q,r,g,f]
   simp[U.Hx,k,aa]
  split at d
  .rename_i u;obtain⟨x,z,n⟩:=l9.1 d;cases n;have p:(0:Int)<arg:=by omega
   simp[U.Hx,aa,p]
  cases d
 cases d
def afx(a:Ar)(ok:dW a)(W:aI a=0)(id arg:Int)(s:HS):R (.call 124 [.agg a.c,iV id,iV arg,.int .u8 1] s)=.val (.psl ((lC a id arg).map Mv.c)) s:=by
 refine ad8 ?_;have f:=X7 a ok id arg;simp only[Ar.c,iV]at f;unfold lC;cases D:di a id arg with
 |none=>rw[D]at f;simp only[kT]at f;simp[U.LX,f,s0,ai,an];exact aH .ah
 |some X=>
 obtain⟨b,k⟩:=X;rw[D]at f;simp only[kT,Bs.c]at f;have g:=afw a ok id arg b k D;simp only[Ar.c,iV]at g;have Y:=iv W D;simp only[dV,bX]at Y;have main:∀(e:En) (s1:HS) (v:HV) (o:Out),bJ R (.loop U.qD) e s1=o->look e 1=some (iV id)->look e 2=some (iV arg)->look e 3=some (.int .u8 1)->look e 9=some (.ptr .e 0)->look e 11=some v->look e 12=some (iV 0)->
   ak s1.h .e=some (.cells (cM b.c) 0 2 .e)->Bb s1 v 4 1 ((if k then [⟨id,arg,3,-1⟩]else []:bc).map Mv.c)->
   ∃q s' v,o=.code (.exit 0) q s'/\look q 11=some v/\Bb s' v 4 1 ((pg b k id arg).map Mv.c):=by
  intro e s1 v o t y A B u d j w p;refine ba t b.n.toNat
   (λi e s'=>∃v,look e 1=some (iV id)/\look e 2=some (iV arg)/\look e 3=some (.int .u8 1)/\look e 9=some (.ptr .e 0)/\look e 11=some v/\look e 12=some (iV i)/\
    ak s'.h .e=some (.cells (cM b.c) 0 2 .e)/\Bb s' v 4 1 (((if k then [⟨id,arg,3,-1⟩]else []:bc)++(List.range i).map (pf id arg)).map Mv.c))
   (λo=>∃q s' v,o=.code (.exit 0) q s'/\look q 11=some v/\Bb s' v 4 1 ((pg b k id arg).map Mv.c))
   0 (by omega) ⟨v,y,A,B,u,d,j,w,by simpa using p⟩
   (λi e s' r Z ⟨v,y,A,B,u,d,j,w,p⟩ E=>?_) (λe s' r ⟨v,y,A,B,u,d,j,w,p⟩ E=>?_)
  .have H:i<64:=by omega
   have x:(i:Int)<b.n:=by omega
   obtain⟨T,I,G,J,C⟩:=p.append (bw:=4398046511104) (new:=[Mv.c (pf id arg i)]) (Sz.cons rfl Sz.nil) (by simp) (by simp;split<;>simp<;>omega);simp only[Mv.c,pf]at G;have M:r=.code .normal (((e.p8 43 (.bool true)).p8 11 T).p8 12 (iV (i+1))) I:=by
    rw[<-E];rcases Nat.eq_zero_or_pos i with rfl|V
    .have N:bQ .i64 1=1:=bT (by omega) (by omega);simp at G j x;simp[U.qD,y,A,u,d,j,w,x,G,N]
    have O:¬i=0:=by omega
    simp[U.qD,y,A,B,u,d,j,w,x,G,bo (n:=64) H (by omega),O]
   subst M;refine .inl ⟨_,_,rfl,T,by simp[y],by simp[A],by simp[B],by simp[u],by simp,by simp,?_,?_⟩
   .rw[C.2.2.1 _ (by decide)];exact w
   rw[ph,<-List.append_assoc,fB];exact J
  have Q:¬(max b.n 0<b.n):=by omega
  simp[U.qD,u,j,w,Q]at E;subst E;exact⟨by simp,_,_,v,rfl,by simp[d],p⟩
 cases m:k with
 |false=>rw[m]at g main;simp[U.LX,f,g,s0,ai,an];generalize t:bJ R (.loop U.qD) _ _=o;obtain⟨q,s',v,rfl,d,p⟩:=main _ _ _ _ t (by simp) (by simp) (by simp) (by simp) (by simp) (by simp) (by simp) (Bb.ah (by simp[Ky.toNat]));clear t;simp[d];exact aH (p.vw (by simp))
 |true=>
  rw[m]at g main;simp[U.LX,f,g,s0,ai,an];generalize t:bJ R (.loop U.qD) _ _=o;obtain⟨q,s',v,rfl,d,p⟩:=main _ _ _ _ t (by simp) (by simp) (by simp) (by simp) (by simp;rfl) (by simp) (by simp)
   ⟨Sz.mv _,by simp[Ky.toNat],.inr ⟨.z .e,_,.z .e,[],by simp,rfl,by simp,rfl,by simp[Ky.toNat]⟩⟩
  clear t;simp[d];exact aH (p.vw (by simp))
def nB(a b:Mv):ql ⟨true,[0,0,0,0]⟩ (.agg a.c) (.agg b.c)=some (decide (a=b)):=by rw[vc _ _ _ rfl rfl];simp only[Mv.c];rw[ee _ _ _ _ _ _ (fg ..) (ee _ _ _ _ _ _ (fg ..) (ee _ _ _ _ _ _ (fg ..) (ee _ _ _ _ _ _ (fg ..) u9)))];cases a;cases b;simp[Bg]
def X8(l:bc)(k:l.length<4611686018427387904)(m:Mv)(s:HS):R (.call 122 [.psl (l.map Mv.c),.agg m.c] s)=.val (iV (if m∈l then l.findIdx (λx=>x=m)else-1)) s:=by
 refine ad6 ?_;simp[U.Wp];generalize w:bJ R (.loop U.wD) _ _=o;have y:=ba w l.length
  (λi e s'=>s'=s0/\look e 0=some (.psl (l.map Mv.c))/\look e 3=some (.aw m.c)/\look e 5=some (iV i)/\∀j (d:j<i) (k:j<l.length),l[j]≠m)
  (λo=>(∃i h,∃a:i<l.length,o=.code .ret h s0/\look h 4=some (iV i)/\l[i]=m/\∀j (d:j<i) (k:j<l.length),l[j]≠m)∨(∃h,o=.code (.exit 0) h s0/\m ∉ l))
  0 (by omega) (by simp)
  (λi e s' r a ⟨t,h0,p,q,b⟩ f=>by
   subst t;have n:=nB l[i] m;simp only[Mv.c]at n;by_cases g:l[i]=m
   .rw[ey g]at n;simp[U.wD,h0,p,q,a,n]at f;subst f;exact .inr ⟨by simp,.inl ⟨i,_,a,rfl,by simp,g,b⟩⟩
   rw[ef g]at n;simp[U.wD,h0,p,q,a,n,bo a (qL k)]at f;subst f;refine .inl ⟨_,_,rfl,rfl,by simp[h0],by simp[p],by simp,λj d k=>?_⟩;by_cases u:j=i
   .subst u;exact g
   exact b j (by omega) k)
  (λe s' r ⟨t,h0,p,q,b⟩ f=>by
   subst t;simp[U.wD,h0,q]at f;subst f;refine⟨by simp,.inr ⟨_,rfl,λz=>?_⟩⟩;obtain⟨j,d,A⟩:=eH.1 z;exact b j d d A)
 clear w;rcases y with⟨i,h,a,rfl,B,g,b⟩|⟨h,rfl,b⟩
 .simp[B,aa];rw[ar (g▸cp a),(ES a).2 ⟨by simpa using g,λj d=>by simpa using b j d (by omega)⟩]
 simp[aa,b]
def fv(a:Ar)(m:Mv):Bool:=m∈cu a m.id m.arg∨m∈lC a m.id m.arg
def xL{a:Ar}(d:aI a=0)(id arg:Int):(cu a id arg).length<=65:=by
 unfold cu;cases f:di a id arg with
 |none=>simp
 |some c=>
  have g:=iv d (b:=c.1) (BY:=c.2) f;simp only[dV,bX]at g;simp[dK]
  split<;>omega
def HJ{a:Ar}(d:aI a=0)(id arg:Int):(lC a id arg).length<=65:=by
 unfold lC;cases f:di a id arg with
 |none=>simp
 |some c=>
  have g:=iv d (b:=c.1) (BY:=c.2) f;simp only[dV,bX]at g;simp[pg]
  split<;>simp<;>omega
def X9(a:Ar)(ok:dW a)(h:aI a=0)(m:Mv)(s:HS):R (.call 97 [.agg a.c,.agg m.c] s)=.val (.bool (fv a m)) s:=by
 refine adR ?_;have i:=afv a ok h m.id m.arg;have k:=afx a ok h m.id m.arg;have d:=X8 (cu a m.id m.arg) (by have:=xL h m.id m.arg;omega) m;have f:=X8 (lC a m.id m.arg) (by have:=HJ h m.id m.arg;omega) m;simp only[Ar.c,iV,Mv.c]at i k d f;unfold fv;by_cases g:m∈cu a m.id m.arg
 .have b:(0:Int)<=((cu a m.id m.arg).findIdx (λx=>decide (x=m)):Int):=by omega
  simp only[g,bj]at d;simp[U.LR,i,d,g,b,aa]
 simp only[g,bn]at d;by_cases j:m∈lC a m.id m.arg
 .have b:(0:Int)<=((lC a m.id m.arg).findIdx (λx=>decide (x=m)):Int):=by omega
  simp only[j,bj]at f;simp[U.LR,i,k,d,f,g,j,b,aa]
 simp only[j,bn]at f;simp[U.LR,i,k,d,f,g,j,aa]
structure Eg where
 m:Mv
 to:Nat
 deriving DecidableEq,Inhabited
abbrev bq:=List Eg
structure Fa where
 nx:List bq
 fi:cb
 deriving DecidableEq,Inhabited
@[simp]def Eg.c(e:Eg):aj:=[.int .i64 e.m.id,.int .i64 e.m.arg,.int .u8 e.m.kind,.int .i64 e.m.n,.int .i64 (e.to:Int)]
@[simp]def nW(l:bq):aj:=[.psl (l.map Eg.c)]
@[simp]def Fa.c(x:Fa):aj:=[.psl (x.nx.map nW),.psl (x.fi.map bC)]
structure Ei where
 m:Mv
 to:Int
 deriving DecidableEq,Inhabited
abbrev ft:=List Ei
structure Ax where
 nx:List ft
 fi:cb
 deriving DecidableEq,Inhabited
@[simp]def Ei.c(e:Ei):aj:=[.int .i64 e.m.id,.int .i64 e.m.arg,.int .u8 e.m.kind,.int .i64 e.m.n,.int .i64 e.to]
@[simp]def yC(l:ft):aj:=[.psl (l.map Ei.c)]
@[simp]def Ax.c(x:Ax):aj:=[.psl (x.nx.map yC),.psl (x.fi.map bC)]
@[simp]def aaR(l:ft):eM (l.map Ei.c)=true:=cq (λx=>by simp) l
@[simp]def Ya(l:List ft):eM (l.map yC)=true:=cq (λx=>by simp) l
def Eg.i(e:Eg):Ei:=⟨e.m,e.to⟩
def Fa.i(x:Fa):Ax:=⟨x.nx.map (List.map Eg.i),x.fi⟩
def Fa.Yb(x:Fa):x.i.c=x.c:=by
 have h:(yC∘List.map Eg.i)=nW:=funext λl=>by simp[EU,Eg.i]
 simp only[Ax.c,Fa.c,Fa.i,sv,h]
@[simp]def aaS(l:bq):eM (l.map Eg.c)=true:=cq (λx=>by simp) l
@[simp]def pj(l:List bq):eM (l.map nW)=true:=cq (λx=>by simp) l
@[simp]def MR(l:cb):eM (l.map bC)=true:=cq (λx=>by simp) l
def bH(e:En):List (Nat×HV)->Prop
 |[]=>True
 |(k,v)::r=>look e k=some v/\bH e r
@[simp]def ae{e:En}:bH e []=True:=rfl
@[simp]def ab{e:En}{k:Nat}{v:HV}{r:List (Nat×HV)}:bH e ((k,v)::r)=(look e k=some v/\bH e r):=rfl
def Oc{c:HC}{e:En}{s:HS}{o:Out}(u:bJ R (.loop c) e s=o)(a n:Nat)(P:aC)(L:Nat->List (Nat×HV))(M:List (Nat×HV))(x:Nat)(Q:Nat->Out->Prop)(h0:a<=n)(w:bH e (L a))
  (round:∀i e r,a<=i->i<n->bH e (L i)->bJ R c e s=r->(P i/\∃e',r=.code .normal e' s/\bH e' (L (i+1)))∨(¬P i/\gk r/\Q i r))
  (last:∀e r,bH e (L n)->bJ R c e s=r->∃e',r=.code (.exit x) e' s/\bH e' M):
  (∃i,a<=i/\i<n/\(∀j,a<=j->j<i->P j)/\¬P i/\Q i o)∨((∀i,a<=i->i<n->P i)/\∃e',o=.code (.exit x) e' s/\bH e' M):=by
 refine ba u n (λi e s'=>s'=s/\a<=i/\bH e (L i)/\∀j,a<=j->j<i->P j) (λo=>(∃i,a<=i/\i<n/\(∀j,a<=j->j<i->P j)/\¬P i/\Q i o)∨((∀i,a<=i->i<n->P i)/\∃e',o=.code (.exit x) e' s/\bH e' M)) a h0 ⟨rfl,aW _,w,λj g b=>by omega⟩ ?_ ?_
 .rintro i e s' r t ⟨rfl,k,g,b⟩ m
  rcases round i e r k t g m with⟨p,e',d,f⟩|⟨p,d,f⟩
  .refine .inl ⟨e',s',d,rfl,by omega,f,λj q y=>?_⟩;by_cases h:j=i
   .subst h;exact p
   exact b j q (by omega)
  exact .inr ⟨d,.inl ⟨i,k,t,b,p,f⟩⟩
 rintro e s' r ⟨rfl,k,g,b⟩ m
 obtain⟨e',d,f⟩:=last e r g m;subst d;exact⟨by simp,.inr ⟨b,e',rfl,f⟩⟩
def jJ{c:HC}{e:En}{s:HS}{o:Out}(d:bJ R (.loop c) e s=o)(n:Nat)(P:aC)(L:Nat->List (Nat×HV))(M:List (Nat×HV))(x:Nat)(Q:Nat->Out->Prop)(f:bH e (L 0))
  (round:∀i e r,i<n->bH e (L i)->bJ R c e s=r->(P i/\∃e',r=.code .normal e' s/\bH e' (L (i+1)))∨(¬P i/\gk r/\Q i r))
  (last:∀e r,bH e (L n)->bJ R c e s=r->∃e',r=.code (.exit x) e' s/\bH e' M):
  (∃i,i<n/\(∀j,j<i->P j)/\¬P i/\Q i o)∨((∀i,i<n->P i)/\∃e',o=.code (.exit x) e' s/\bH e' M):=by
 rcases Oc d 0 n P L M x Q (fm _) f (λi e r _=>round i e r) last with⟨i,_,a,b,g⟩|⟨a,b⟩
 .exact .inl ⟨i,a,λj=>b j (fm _),g⟩
 exact .inr ⟨λi=>a i (fm _),b⟩
structure mw(x:Ax):Prop where
 n:x.nx.length<=400
 f:x.fi.length<=400
 e:(x.nx.map List.length).sum<=6000
def mw.row{x:Ax}(h:mw x){i:Nat}{l:ft}(b:x.nx[i]?=some l):l.length<=6000:=
 fz (by
  have:=cG b;generalize x.nx=k at this;clear b
  induction k with
  |nil=>cases this
  |cons a r ih=>
   simp only[cx,List.sum_cons];rcases bk.1 this with rfl|h
   .omega
   have:=ih h;omega) h.e
def ff(a b:Mv):Bool:=if a.id≠b.id then a.id<b.id else if a.arg≠b.arg then a.arg<b.arg else if a.kind≠b.kind then a.kind<b.kind else a.n<b.n
def Yc(a b:Mv)(s:HS):R (.call 93 [.agg a.c,.agg b.c] s)=.val (.bool (ff a b)) s:=by
 refine adN ?_;unfold ff;by_cases d:a.id=b.id
 .by_cases f:a.arg=b.arg
  .by_cases g:a.kind=b.kind<;>simp[U.LQ,d,f,g,aa]
  simp[U.LQ,d,f,aa]
 simp[U.LQ,d,aa]
def pn(l:List ft)(i:Nat):Nat:=((l.map List.length).take i).sum
def sY{l:List ft}{i:Nat}(a:i<l.length):pn l (i+1)=pn l i+l[i].length:=by unfold pn;rw[fC (by simpa using a),JQ];simp
def C5(l:List ft):pn l l.length=(l.map List.length).sum:=by unfold pn;rw[iH (by simp)]
def Bh{l:List ft}(b:∀r∈l,r.length<=70368744177664):∀k,k<=l.length->pn l k<=k*70368744177664
 |0,_=>by simp[pn]
 |k+1,c=>by
  have a:k<l.length:=by omega
  have:=Bh b k (by omega);have:=b _ (cp a);rw[sY a];omega
def afy(l:List ft)(m:l.length<=400)(f:∀r∈l,r.length<=70368744177664)(s:HS):R (.call 92 [.psl (l.map yC)] s)=.val (iV (l.map List.length).sum) s:=by
 refine adM ?_;simp[U.Wc];generalize g:bJ R (.loop U.AO) _ _=o;have j:=jJ g l.length (λ_=>True) (λi=>[(0,.psl (l.map yC)),(3,iV (pn l i)),(4,iV i)]) [(3,iV (pn l l.length))] 0 (λ_ _=>True) (by simp[pn])
  (λi e r c a b=>by
   have d:(i:Int)<l.length:=by omega
   have:=Bh f i (by omega);have:=f _ (cp c);have k:bQ .i64 ((pn l i:Int)+(l[i].length:Int))=(pn l (i+1):Nat):=by rw[sY c,bT (by omega) (by omega)];simp
   simp only[ab,ae]at a;simp[U.AO,a,c,d,k,bo (n:=400) (show i<400 by omega) (by omega)]at b;subst b;exact .inl ⟨trivial,_,rfl,by simp[a]⟩)
  (λe r a b=>by
   simp only[ab,ae]at a;simp[U.AO,a]at b;subst b;exact⟨_,rfl,by simp[a]⟩)
 clear g;rcases j with⟨i,_,_,h,_⟩|⟨_,p,rfl,a⟩
 .exact absurd trivial h
 rw[C5]at a;simp only[ab,ae]at a;simp[a,aa]
def afz(x:Ax)(a:mw x)(s:HS):R (.call 62 [.agg x.c] s)=.val (.bool false) s:=by
 refine adz ?_;have b:=afy x.nx a.n (λr d=>by obtain⟨i,g⟩:=tO.1 d;have:=a.row g;omega);have h:¬(400:Int)<x.nx.length:=by have:=a.n;omega
 have j:¬(400:Int)<x.fi.length:=by have:=a.f;omega
 have k:¬(6000:Int)<((x.nx.map List.length).sum:Nat):=by have:=a.e;omega
 simp[U.V6,h,j,k,b,aa]
def lU(x:Ax):Bool:=decide (0<x.nx.length/\x.nx.length=x.fi.length/\∀l∈x.nx,∀e∈l,0<=e.to/\e.to<x.nx.length)
def MS{x:Ax}{i k:Nat}(a:i<x.nx.length)(b:k<x.nx[i].length)(h:¬(0<=(x.nx[i][k]).to/\(x.nx[i][k]).to<=(x.nx.length:Int)-1)):lU x=false:=by
 unfold lU;simp only[zo]
 rintro⟨_,_,c⟩
 have:=c _ (cp a) _ (cp b);omega
def afA(x:Ax)(G:mw x)(s:HS):R (.call 63 [.agg x.c] s)=.val (.bool (lU x)) s:=by
 refine adA ?_;have H:=G.n;by_cases h0:x.nx.length=0
 .have:lU x=false:=by unfold lU;simp[h0]
  have u:x.nx=[]:=zJ.1 h0;rw[this];simp[U.LG,u,aa]
 by_cases w:x.nx.length=x.fi.length
 case neg=>
  have:lU x=false:=by unfold lU;simp[w]
  have y:¬(x.nx.length:Int)=x.fi.length:=by omega
  rw[this];simp[U.LG,h0,y,aa]
 simp[U.LG,h0,w.symm];generalize p:bJ R (.loop U.AK) _ _=o;have z:=jJ p x.nx.length (λi=>∀h:i<x.nx.length,∀e∈x.nx[i],0<=e.to/\e.to<x.nx.length) (λi=>[(1,.aw x.c),(3,iV i)]) [] 0 (λ_ o=>lU x=false/\∃m,o=.code .ret m s0/\look m 2=some (.bool false)) (by simp)
  (λi e r g a b=>by
   have A:(i:Int)<x.nx.length:=by omega
   have B:=aR g;simp only[ab,ae]at a;simp[U.AK,a,A]at b;generalize p:bJ R (.loop U.wo) _ _=o at b;have z:=jJ p x.nx[i].length (λk=>∀h:k<x.nx[i].length,0<=(x.nx[i][k]).to/\(x.nx[i][k]).to<=(x.nx.length:Int)-1) (λk=>[(1,.aw x.c),(3,iV i),(4,iV k)]) [(1,.aw x.c),(3,iV i)] 2 (λ_ o=>lU x=false/\∃m,o=.code .ret m s0/\look m 2=some (.bool false)) (by simp[a])
    (λk e r j a b=>by
     have q:(k:Int)<x.nx[i].length:=by omega
     have J:=G.row B;have d:=w62 (x.nx[i][k]).to 0 ((x.nx.length:Int)-1);have I:bQ .i64 ((x.nx.length:Int)-1)=(x.nx.length:Int)-1:=bT (by omega) (by omega);simp only[ab,ae]at a;by_cases t:0<=(x.nx[i][k]).to/\(x.nx[i][k]).to<=(x.nx.length:Int)-1
     .rw[ey t]at d;simp only[iV]at d;simp[U.wo,a,g,j,q,I,d,bo (n:=6000) (show k<6000 by omega) (by omega)]at b;subst b;exact .inl ⟨λ_=>t,_,rfl,by simp[a]⟩
     rw[ef t]at d;simp only[iV]at d;simp[U.wo,a,g,j,q,I,d]at b;subst b;exact .inr ⟨λh=>t (h j),by simp,MS g j t,_,rfl,by simp⟩)
    (λe r a b=>by
     simp only[ab,ae]at a;simp[U.wo,a,g]at b;subst b;exact⟨_,rfl,by simp[a]⟩)
   clear p;rcases z with⟨k,j,_,H,C,m,rfl,D⟩|⟨f,m,rfl,a⟩
   .simp at b;subst b;refine .inr ⟨λh=>H λj=>?_,by simp,C,_,rfl,D⟩;have:=h g _ (cp j);omega
   simp only[ab,ae]at a;simp[a,bo (n:=400) (show i<400 by omega) (by omega)]at b;subst b;refine .inl ⟨λ_ e E=>?_,_,rfl,by simp[a]⟩;obtain⟨k,j,rfl⟩:=eH.1 E;have:=f k j j;omega)
  (λe r a b=>by
   simp only[ab,ae]at a;simp[U.AK,a]at b;subst b;exact⟨_,rfl,by simp⟩)
 clear p;rcases z with⟨i,g,_,_,C,m,rfl,D⟩|⟨f,m,rfl,_⟩
 .rw[C];simp[D,aa]
 have:lU x=true:=by unfold lU;simp only[bX];refine⟨by omega,w,λl M e E=>?_⟩;obtain⟨i,g,rfl⟩:=eH.1 M;exact f i g g e E
 rw[this];simp[aa]
structure cf(x:Fa):Prop where
 ok:mw x.i
 to:∀l∈x.nx,∀e∈l,e.to<x.nx.length
 nf:x.nx.length=x.fi.length
 pos:0<x.nx.length
def cf.n{x:Fa}(h:cf x):x.nx.length<=400:=by have:=h.ok.n;simpa[Fa.i]using this
def cf.row{x:Fa}(h:cf x){i:Nat}(a:i<x.nx.length):x.nx[i].length<=6000:=by have:=h.ok.row (i:=i) (l:=x.nx[i].map Eg.i) (by simp[Fa.i,a]);simpa using this
def Sy{x:Ax}(j:mw x)(h:lU x=true):∃y:Fa,x=y.i/\cf y:=by
 unfold lU at h;simp only[bX]at h;obtain⟨k,n,g⟩:=h;refine⟨⟨x.nx.map (List.map λe=>⟨e.m,e.to.toNat⟩),x.fi⟩,?_⟩;have a:x=(Fa.mk (x.nx.map (List.map λe=>⟨e.m,e.to.toNat⟩)) x.fi).i:=by unfold Fa.i;simp only[sv];obtain⟨nx,fi⟩:=x;simp only[Ax.mk.injEq,and_true];symm;refine(EV λl b=>?_).trans (List.map_id _);simp only[EU,sv];refine(EV λe a=>?_).trans (List.map_id _);have:=(g l b e a).1;simp only[Eg.i,id];rw[JR this]
 refine⟨a,⟨a▸j,λl b e c=>?_,by simpa using n,by simpa using k⟩⟩;simp only[dt]at b;obtain⟨p,d,rfl⟩:=b;obtain⟨q,f,rfl⟩:=dt.1 c;have:=g p d q f;simp only[bG];omega
def uB(l:bq):Prop:=∀k,(h:k+1<l.length)->ff l[k].m l[k+1].m=true
def sZ(x:Fa):Prop:=∀l∈x.nx,uB l
open Classical in
def afB(x:Fa)(J:cf x)(s:HS):R (.call 64 [.agg x.c] s)=.val (.bool (decide (sZ x))) s:=by
 refine adB ?_;have M:=J.n;simp[U.V7];generalize u:bJ R (.loop U.AL) _ _=o;have D:=jJ u x.nx.length (λi=>∀h:i<x.nx.length,uB x.nx[i]) (λi=>[(1,.aw x.c),(3,iV i)]) [] 0 (λ_ o=>∃p,o=.code .ret p s0/\look p 2=some (.bool false)) (by simp)
  (λi e r f b d=>by
   have E:(i:Int)<x.nx.length:=by omega
   simp only[ab,ae]at b;simp[U.AL,b,E]at d;generalize u:bJ R (.loop U.wq) _ _=o at d;have D:=Oc u 1 (max 1 x.nx[i].length) (λk=>∀j,(B:j+1=k)->(h:k<x.nx[i].length)->ff (x.nx[i][j]'(by omega)).m x.nx[i][k].m=true) (λk=>[(1,.aw x.c),(3,iV i),(4,iV k)]) [(1,.aw x.c),(3,iV i)] 2 (λ_ o=>∃p,o=.code .ret p s0/\look p 2=some (.bool false)) (by omega) (by simp[b])
    (λk e r G w b d=>by
     have t:k<x.nx[i].length:=by omega
     have y:(k:Int)<x.nx[i].length:=by omega
     have N:=J.row f;obtain⟨j,B⟩:∃j,j+1=k:=⟨k-1,by omega⟩;have z:j<x.nx[i].length:=by omega
     have A:bQ .i64 ((k:Int)-1)=j:=by rw[show(k:Int)-1=j by omega];exact bT (by omega) (by omega)
     have a:=Yc x.nx[i][j].m x.nx[i][k].m;simp only[ab,ae]at b;cases C:ff x.nx[i][j].m x.nx[i][k].m
     .rw[C]at a;simp only[Mv.c]at a;simp[U.wq,b,f,t,y,z,A,a]at d;subst d;refine .inr ⟨λh=>?_,by simp,_,rfl,by simp⟩;have:=h j B t;rw[C]at this;cases this
     rw[C]at a;simp only[Mv.c]at a;simp[U.wq,b,f,t,y,z,A,a,bo (n:=6000) (show k<6000 by omega) (by omega)]at d;subst d;refine .inl ⟨λO Q _=>?_,_,rfl,by simp[b]⟩;obtain rfl:O=j:=by omega
     exact C)
    (λe r b d=>by
     have H:¬(((max 1 x.nx[i].length:Nat):Int)<x.nx[i].length):=by omega
     simp only[ab,ae]at b;generalize(max 1 x.nx[i].length)=q at*;simp[U.wq,b,f,H]at d;subst d;exact⟨_,rfl,by simp[b]⟩)
   clear u;rcases D with⟨k,G,w,_,M,p,rfl,I⟩|⟨g,p,rfl,b⟩
   .simp at d;subst d;refine .inr ⟨λh=>M λj B w=>?_,by simp,_,rfl,I⟩;subst B;exact h f j w
   simp only[ab,ae]at b;simp[b,bo (n:=400) (show i<400 by omega) (by omega)]at d;subst d;exact .inl ⟨λ_ k w=>g (k+1) (by omega) (by omega) k rfl w,_,rfl,by simp[b]⟩)
  (λe r b d=>by
   simp only[ab,ae]at b;simp[U.AL,b]at d;subst d;exact⟨_,rfl,by simp⟩)
 clear u;rcases D with⟨i,f,_,T,p,rfl,I⟩|⟨g,p,rfl,_⟩
 .rw[ef λh=>T λf=>h _ (cp f)];simp[I,aa]
 have:sZ x:=λl V=>by obtain⟨i,f,rfl⟩:=eH.1 V;exact g i f f
 rw[ey this];simp[aa]
def SA(a b:Eg):ql ⟨true,[0,0,0,0,0]⟩ (.agg a.c) (.agg b.c)=some (decide (a=b)):=by rw[vc _ _ _ rfl rfl];simp only[Eg.c];rw[ee _ _ _ _ _ _ (fg ..) (ee _ _ _ _ _ _ (fg ..) (ee _ _ _ _ _ _ (fg ..) (ee _ _ _ _ _ _ (fg ..) (ee _ _ _ _ _ _ (fg ..) u9))))];obtain⟨⟨_,_,_,_⟩,_⟩:=a;obtain⟨⟨_,_,_,_⟩,_⟩:=b;simp[Bg,Int.natCast_inj,A9]
def qM{α:Type}{a b:List α}(h:a.length=b.length)(f:∀i,(c:i<a.length)->(d:i<b.length)->a[i]=b[i]):a=b:=qi h (λi c d=>f i c d)
def afC(x y:Fa)(j:x.nx.length<=400)(q:x.fi.length<=400)(O:∀l∈x.nx,l.length<=6000)(s:HS):R (.call 65 [.agg x.c,.agg y.c] s)=.val (.bool (decide (x=y))) s:=by
 refine adC ?_;have fin:∀(o:Out) (d:En),o=.code .ret d s0->look d 4=some (.bool false)->n5 [.tmp 4] o=some (.bool false):=by
  rintro _ d rfl h
  simp[h,aa]
 by_cases G:x.nx.length=y.nx.length
 case neg=>
  rw[ef (λh=>G (by rw[h]))];have I:¬(x.nx.length:Int)=y.nx.length:=by omega
  simp[U.LH,I,aa]
 by_cases J:x.fi.length=y.fi.length
 case neg=>
  rw[ef (λh=>J (by rw[h]))];have M:¬(x.fi.length:Int)=y.fi.length:=by omega
  simp[U.LH,G.symm,M,aa]
 simp[U.LH,G.symm,J.symm];generalize w:bJ R (.loop U.wu) _ _=o;have B:=jJ w x.fi.length (λi=>∀(j:i<x.fi.length) (q:i<y.fi.length),x.fi[i]=y.fi[i]) (λi=>[(2,.aw x.c),(3,.aw y.c),(5,iV i)]) [(2,.aw x.c),(3,.aw y.c)] 0 (λ_ o=>∃d,o=.code .ret d s0/\look d 4=some (.bool false)) (by simp)
  (λi e r g a b=>by
   have p:(i:Int)<x.fi.length:=by omega
   have t:i<y.fi.length:=by omega
   simp only[ab,ae]at a;by_cases u:x.fi[i]=y.fi[i]
   .simp[U.wu,a,g,p,t,u,bo (n:=400) (show i<400 by omega) (by omega)]at b;subst b;exact .inl ⟨λ_ _=>u,_,rfl,by simp[a]⟩
   have Q:(x.fi[i]==y.fi[i])=false:=by simpa using u
   have N:(x.fi[i] != y.fi[i])=true:=by simpa using u
   simp[U.wu,a,g,p,t,N]at b;subst b;exact .inr ⟨λh=>u (h g t),by simp,_,rfl,by simp⟩)
  (λe r a b=>by
   simp only[ab,ae]at a;simp[U.wu,a]at b;subst b;exact⟨_,rfl,by simp[a]⟩)
 clear w;rcases B with⟨i,g,_,C,d,rfl,D⟩|⟨f,d,rfl,a⟩
 .rw[ef (λh=>C (by subst h;exact λ_ _=>rfl))];simp[D,aa]
 have T:x.fi=y.fi:=qM J (λi j q=>f i j j q);simp only[ab,ae]at a;simp;generalize w:bJ R (.loop U.wx) _ _=o;have B:=jJ w x.nx.length (λi=>∀(j:i<x.nx.length) (q:i<y.nx.length),x.nx[i]=y.nx[i]) (λi=>[(2,.aw x.c),(3,.aw y.c),(6,iV i)]) [] 2 (λ_ o=>∃d,o=.code .ret d s0/\look d 4=some (.bool false)) (by simp[a])
  (λi e r g a b=>by
   have p:(i:Int)<x.nx.length:=by omega
   have t:i<y.nx.length:=by omega
   have V:=O _ (cp g);simp only[ab,ae]at a;by_cases hlen:x.nx[i].length=y.nx[i].length
   case neg=>
    have z:¬(x.nx[i].length:Int)=y.nx[i].length:=by omega
    simp[U.wx,a,g,p,t,z]at b;subst b;exact .inr ⟨λh=>hlen (by rw[h g t]),by simp,_,rfl,by simp⟩
   simp[U.wx,a,g,p,t,hlen.symm]at b;generalize w:bJ R (.loop U.wv) _ _=o at b;have B:=jJ w x.nx[i].length (λk=>∀(j:k<x.nx[i].length) (q:k<y.nx[i].length),x.nx[i][k]=y.nx[i][k]) (λk=>[(2,.aw x.c),(3,.aw y.c),(6,iV i),(7,iV k)]) [(2,.aw x.c),(3,.aw y.c),(6,iV i)] 4 (λ_ o=>∃d,o=.code .ret d s0/\look d 4=some (.bool false)) (by simp[a])
    (λk e r H a b=>by
     have E:(k:Int)<x.nx[i].length:=by omega
     have A:k<y.nx[i].length:=by omega
     have m:=SA x.nx[i][k] y.nx[i][k];simp only[ab,ae]at a;by_cases u:x.nx[i][k]=y.nx[i][k]
     .rw[ey u]at m;simp only[Eg.c]at m;simp[U.wv,a,g,t,H,E,A,m,bo (n:=6000) (show k<6000 by omega) (by omega)]at b;subst b;exact .inl ⟨λ_ _=>u,_,rfl,by simp[a]⟩
     rw[ef u]at m;simp only[Eg.c]at m;simp[U.wv,a,g,t,H,E,A,m]at b;subst b;exact .inr ⟨λh=>u (h H A),by simp,_,rfl,by simp⟩)
    (λe r a b=>by
     simp only[ab,ae]at a;simp[U.wv,a,g]at b;subst b;exact⟨_,rfl,by simp[a]⟩)
   clear w;rcases B with⟨k,H,_,C,d,rfl,D⟩|⟨f,d,rfl,a⟩
   .simp at b;subst b;refine .inr ⟨λh=>C λj q=>?_,by simp,_,rfl,D⟩;simp only[h g t]
   simp only[ab,ae]at a;simp[a,bo (n:=400) (show i<400 by omega) (by omega)]at b;subst b;exact .inl ⟨λ_ _=>qM hlen (λk j q=>f k j j q),_,rfl,by simp[a]⟩)
  (λe r a b=>by
   simp only[ab,ae]at a;simp[U.wx,a]at b;subst b;exact⟨_,rfl,by simp⟩)
 clear w;rcases B with⟨i,g,_,C,d,rfl,D⟩|⟨f,d,rfl,_⟩
 .rw[ef (λh=>C (by subst h;exact λ_ _=>rfl))];simp[D,aa]
 have:x=y:=by have W:x.nx=y.nx:=qM G (λi j q=>f i j j q);cases x;cases y;simp_all
 rw[ey this];simp[aa]
def lD:Fa:=⟨[[]],[false]⟩
def afD(s:HS):R (.call 81 [] s)=.val (.agg lD.c) s:=by refine adI ?_;simp[U.V8,s0,ai,an,ao];exact aH (.agg (.cons (.sl (l:=[.ah]) (l':=[.psl []]) (by simp[ao]) (.cons .ah .nil) (λ_=>rfl) (λh=>by cases h)) (.cons (.sl (l:=[.bool false]) (l':=[.bool false]) (by simp[ao]) (.data rfl) (λ_=>rfl) (λh=>by cases h)) .nil)))
abbrev nC(n:Nat):aj:=[iV n]
@[simp]def U7(l:ay):eM (l.map nC)=true:=cq (λx=>by simp) l
structure Wk where
 a:Ar
 w:bc
 op:ay
 pt:aY
 js:aY
 lost:Bool
 po:Int
@[simp]def Wk.c(x:Wk):aj:=[.psl (x.a.ids.map Ty.c),.bool x.a.root.cell,.int .i64 x.a.root.n,.bool x.a.jumps,.psl (x.w.map Mv.c),.psl (x.op.map nC),.psl (x.pt.map iC),.psl (x.js.map iC),.bool x.lost,.int .i64 x.po]
def bf(w:bc):Bool:=match w.getLast? with|none=>false|some m=>cJ m&&decide (0<m.arg)
def ie(x:Wk):Option Mv:=match x.op.getLast? with|none=>none|some n=>x.w[n]?
def kU(t m:Mv):Bool:=m.id=t.id/\m.arg=t.arg/\m.kind=3/\(t.kind=1∨m.n<=0)
def fV(x:Wk)(m:Mv):Bool:=fv x.a m&&(if x.w=[]then decide (m.id=0)&&de m else match ie x with
 |none=>false
 |some t=>if x.lost||bf x.w then kU t m&&cJ m else
  if de m then(if 0<t.id/\t.arg=0 then m.id=t.id/\0<m.arg else 0<m.id/\m.arg=0)else
  if cJ m/\t.arg=0 then kU t m&&decide (0<t.id)&&x.a.jumps else kU t m)
structure jl(x:Wk):Prop where
 ok:dW x.a
 Yd:aI x.a=0
 len:x.w.length<=400
 op:∀n∈x.op,n<x.w.length
 C6:x.op.length<=x.w.length
 SB:x.pt.length=x.w.length
 SC:x.js.length=x.w.length
def w65(x:Wk)(f:jl x)(s:HS):R (.call 38 [.aw x.c] s)=.val (.bool (bf x.w)) s:=by
 refine q65 ?_;have b:=f.len;unfold bf;rcases mu x.w with a|⟨r,m,a⟩
 .simp[U.b65,a,aa]
 rw[a]at b ⊢;simp only[xM,cA,dx]at b;have g:(0:Int)<(r.length:Int)+1:=by omega
 have h:bQ .i64 (r.length:Int)=r.length:=bT (by omega) (by omega);have d:=Su m;simp only[Mv.c]at d;cases i:cJ m<;>simp[U.b65,a,aa,g,h,d,i]
def EW(o:Option Mv):aj:=match o with|none=>[.agg [.int .i64 0,.int .i64 0,.int .u8 0,.int .i64 0],.bool false]|some m=>[.agg m.c,.bool true]
def w95(x:Wk)(d:jl x)(s:HS):R (.call 58 [.aw x.c] s)=.val (.bM (EW (ie x))) s:=by
 refine q95 ?_;have j:=d.len;have a:=d.C6;unfold ie;rcases mu x.op with b|⟨r,n,b⟩
 .simp[U.b95,b,s0,ai,an,ao,EW];exact aH (.bM (.data (by simp)))
 have g:=d.op n (by rw[b];simp);rw[b]at a ⊢;simp only[xM,cA,dx]at a;have h:¬((r.length:Int)+1=0):=by omega
 have i:bQ .i64 (r.length:Int)=r.length:=bT (by omega) (by omega);have f:=aR g;generalize x.w[n]=m at f;simp[U.b95,b,s0,ai,an,ao,EW,h,i,f];exact aH (.bM (.data (by simp)))
def afE{e:En}{s:HS}{t m:Mv}(a:look e 3=some (.aw m.c))(b:look e 5=some (.ptr .e 0))(d:ak s.h .e=some (.cells (cM t.c) 0 4 .e)):bJ R U.iM e s=.code .normal (e.p8 7 (.bool (kU t m))) s:=by
 by_cases f:m.id=t.id
 .by_cases g:m.arg=t.arg
  .by_cases i:m.kind=3
   .by_cases j:t.kind=1<;>simp[a,b,d,f,g,i,j,kU]
   simp[a,b,d,f,g,i,kU]
  simp[a,b,d,f,g,kU]
 simp[a,b,d,f,kU]
def afF(x:Wk)(G:jl x)(m:Mv)(s:HS):R (.call 90 [.aw x.c,.agg m.c] s)=.val (.bool (fV x m)) s:=by
 refine adK ?_;have b:=X9 x.a G.ok G.Yd m;have g:=U5 m;have i:=Su m;have d:=w95 x G;have A:=w65 x G;have h:=λ(e:En) (s:HS) (t:Mv)=>@afE e s t m
 obtain⟨y,C,mk,mn⟩:=m;simp only[Ar.c,Mv.c,Wk.c]at b g i d A;unfold fV;cases k:fv x.a ⟨y,C,mk,mn⟩
 .simp[U.oT,b,k,aa]
 by_cases n:x.w=[]
 .by_cases I:y=0
  .subst I;simp[U.oT,b,g,k,n,aa]
  simp[U.oT,b,k,n,I,aa]
 have f:¬x.w.length=0:=by simpa using n
 cases J:ie x with
 |none=>rw[J]at d;simp only[EW]at d;simp[U.oT,b,d,k,n,f,aa,s0,ai,an]
 |some t=>
  rw[J]at d;have h:=λe s=>h e s t
  obtain⟨D,E,M,N⟩:=t;simp only[EW,Mv.c]at d h;have p:∀(e:En) (s:HS),look e 0=some (.aw x.c)->bJ R U.iN e s=.code .normal (e.p8 69 (.bool (x.lost||bf x.w))) s:=by intro e s h0;simp only[Wk.c]at h0;cases H:x.lost<;>rw[H]at h0 A<;>simp[h0,A]
  simp only[Wk.c]at p;cases O:(x.lost||bf x.w)
  .rw[O]at p;cases z:de ⟨y,C,mk,mn⟩
   .cases q:kU ⟨D,E,M,N⟩ ⟨y,C,mk,mn⟩
    .rw[q]at h;cases B:cJ ⟨y,C,mk,mn⟩
     .simp-implicitDefEqProofs[-U.iM,-U.iN,U.oT,b,g,d,i,k,n,f,aa,s0,ai,an,p,h,q,z,B]
     by_cases j:E=0
     .subst j;simp-implicitDefEqProofs[-U.iM,-U.iN,U.oT,b,g,d,i,k,n,f,aa,s0,ai,an,p,h,q,z,B]
     simp-implicitDefEqProofs[-U.iM,-U.iN,U.oT,b,g,d,i,k,n,f,aa,s0,ai,an,p,h,q,z,B,j]
    rw[q]at h;cases B:cJ ⟨y,C,mk,mn⟩
    .simp-implicitDefEqProofs[-U.iM,-U.iN,U.oT,b,g,d,i,k,n,f,aa,s0,ai,an,p,h,q,z,B]
    by_cases j:E=0
    .subst j;by_cases r:0<D<;>simp-implicitDefEqProofs[-U.iM,-U.iN,U.oT,b,g,d,i,k,n,f,aa,s0,ai,an,p,h,q,z,B,r]
    simp-implicitDefEqProofs[-U.iM,-U.iN,U.oT,b,g,d,i,k,n,f,aa,s0,ai,an,p,h,q,z,B,j]
   by_cases r:0<D
   .by_cases j:E=0
    .subst j;by_cases u:y=D
     .subst u;simp-implicitDefEqProofs[-U.iM,-U.iN,U.oT,b,g,d,k,n,f,aa,s0,ai,an,p,h,z,r]
     simp-implicitDefEqProofs[-U.iM,-U.iN,U.oT,b,g,d,k,n,f,aa,s0,ai,an,p,h,z,r,u]
    by_cases u:0<y<;>simp-implicitDefEqProofs[-U.iM,-U.iN,U.oT,b,g,d,k,n,f,aa,s0,ai,an,p,h,z,r,j,u]
   by_cases u:0<y<;>simp-implicitDefEqProofs[-U.iM,-U.iN,U.oT,b,g,d,k,n,f,aa,s0,ai,an,p,h,z,r,u]
  rw[O]at p;cases q:kU ⟨D,E,M,N⟩ ⟨y,C,mk,mn⟩
  .rw[q]at h;simp-implicitDefEqProofs[-U.iM,-U.iN,U.oT,b,d,k,n,f,aa,s0,ai,an,p,h,q]
  rw[q]at h;simp-implicitDefEqProofs[-U.iM,-U.iN,U.oT,b,d,i,k,n,f,aa,s0,ai,an,p,h,q]
end Go.Proofs.YtepamfbheocmhaaGreatDoor.K.Hm.S
