import Derived.Test.YtfgljaglidhjiaaGreatDoorIds
set_option linter.all false
set_option maxRecDepth 100000
namespace Go.Proofs.YtfgljaglidhjiaaGreatDoor
open Go Go.Abs
def abX :=[qx 3 0,qx 5 2]
def abY :=[ql 11 1 3,qc 12 fX [11],qm 6 12]
def abZ :=[qm 13 6,qe 14 13,qn 15 .gtr 14 0]
def ab0:List Abs.Op:=[]
def ab1 :=[ql 17 1 5,qo 18 (.fJ 1 (.t 17) (.c zI)),ql 19 1 18,qo 20 (.call false (.c (.fn cG [] [])) [(.t 19),(.c zI),(.c (.int .i64 255))])]
def ab2:List Abs.Op:=[]
def ab3 :=[qL 22 1 3,qO 23 (.nN (.t 22)),qF 24 0 23,qF 25 10 24,qL 26 1 25,qE 27 26,qL 28 1 5,qO 29 (.fJ 1 (.t 28) (.c zI)),qL 30 1 29,qO 31 (.Tx .u8 (.t 30)),qL 32 1 5,qO 33 (.fJ 1 (.t 32) (.c (.int .i64 1))),qL 34 1 33,qL 35 1 5,qO 36 (.fJ 1 (.t 35) (.c (.int .i64 2))),qL 37 1 36,qL 38 1 5,qO 39 (.fJ 1 (.t 38) (.c (.int .i64 3))),qL 40 1 39,qO 41 (.mJ [zI,zI] [(0,1,(.t 37)),(1,1,(.t 40))]),qO 42 (.mJ [zI,(.int .u8 0),zI,zI,zI] [(0,1,(.t 27)),(1,1,(.t 31)),(2,1,(.t 34)),(3,2,(.t 41))]),qO 7 (.On [] [zI,(.int .u8 0),zI,zI,zI]),qt 5 7 42]
def ab4 :=[qL 44 1 3,qO 45 (.nN (.t 44)),qF 46 0 45,qF 47 0 46,qA 48 9 47,qM 49 6,qO 50 (.fJ 4 (.t 49) (.c zI)),qF 51 0 50,qA 52 2 51,qO 53 (.wc 1 2 [(.str []),.aH] [(0,2,(.t 52))]),qL 54 1 3,qO 55 (.nN (.t 54)),qF 56 0 55,qF 57 10 56,qL 58 1 57,qA 59 5 7,qO 60 (.wc 1 5 [zI,(.int .u8 0),zI,zI,zI] [(0,5,(.t 59))]),qC 61 nD [48,53,58,60],qM 43 61,qZ 62 43 0,qZ 63 43 1,qZ 64 43 2,qM 8 62,qM 9 63,qm 10 64]
def ab5 :=[qm 65 10]
def ab6:List Abs.Op:=[]
def Ry :=[qL 67 1 3,qL 68 1 5,qO 69 (.fJ 1 (.t 68) (.c (.int .i64 2))),qL 70 1 69,qL 71 1 5,qO 72 (.fJ 1 (.t 71) (.c (.int .i64 3))),qL 73 1 72,qO 74 (.mJ [zI,zI] [(0,1,(.t 70)),(1,1,(.t 73))]),qO 75 (.zR eT [] [(.t 3),(.t 7),(.t 5)]),qc 76 gr [67,74,75]]
def FQ:bP:=⟨[(7,[]),(6,[3,5,7]),(5,[3,5,7,10]),(4,[3,5,6,7]),(3,[3,5,6]),(2,[3,5,6]),(1,[3,5,6]),(0,[3,5])],[],[],[7],[],[],[],[],[],[],[(2,some 3),(3,some 4),(6,some 1)]⟩
def lK:Abs.Fn:=⟨3,[],
 (.seq (.ak [3,5] abX) (.seq (.ak [3,5,6] abY) (.seq (.jk [3,5,6] abZ ⟨some 16,none,false,.call false (.c (.fn bd [] [])) [(.t 15),(.c (.int .i64 8))]⟩ ab0) (.seq (.jk [3,5,6] ab1 ⟨some 21,none,false,.call false (.c (.fn bd [] [])) [(.t 20),(.c (.int .i64 1))]⟩ ab2) (.seq (.ak [3,5,6,7] ab3) (.seq (.ak [3,5,7,10] ab4) (.seq (.jk [3,5,7] ab5 ⟨some 66,none,false,.call false (.c (.fn bW [] [])) [(.t 65)]⟩ ab6) (.ak [] Ry))))))))⟩
@[simp] theorem aHd:type_of% (show abX=_∧abY=_∧abZ=_∧ab0=_∧ab1=_∧ab2=_∧ab3=_∧ab4=_∧ab5=_∧ab6=_∧Ry=_ from by simp only[zI,abX,abY,abZ,ab0,ab1,ab2,ab3,ab4,ab5,ab6,Ry,qo,qO,qm,qM,qF,ql,qL,qA,qx,qe,qE,qn,qt,qZ,qc,qC,aj,aw];exact⟨rfl,rfl,rfl,rfl,rfl,rfl,rfl,rfl,rfl,rfl,rfl⟩):=⟨rfl,rfl,rfl,rfl,rfl,rfl,rfl,rfl,rfl,rfl,rfl⟩
theorem xP:type_of% lK.eq_1:=ah lK.eq_1
def ab7 :=[qm 7 0,qo 8 (.nN (.t 7)),qf 9 0 8,qf 10 16 9,ql 11 1 10,qe 12 11,qn 13 .lss 12 10]
def ab8:List Abs.Op:=[]
def ab9 :=[qm 15 2,qo 16 (.fJ 1 (.t 15) (.c zI)),ql 17 1 16,qo 18 (.mJ [zI,.aH] [(0,1,(.t 17))]),qo 6 (.eK [] [zI,.aH]),⟨none,none,false,.LV 6 [(1,2)] 2 6 (.t 18)⟩]
def aca :=[qm 19 2,qo 20 (.UB 1 (.t 19) (some (.c (.int .i64 1))) none none),qm 2 20]
def acb :=[qm 21 2,qe 22 21,qn 23 .gtr 22 0]
def acd :=[qF 26 1 6,qV 27 6 1 26,qM 28 2,qO 29 (.fJ 1 (.t 28) (.c zI)),qL 30 1 29,qM 31 2,qO 32 (.fJ 1 (.t 31) (.c (.int .i64 1))),qL 33 1 32,qO 34 (.mJ [zI,zI] [(0,1,(.t 30)),(1,1,(.t 33))]),qO 35 (.wc 1 2 [zI,zI] [(0,2,(.t 34))]),qy 36 2 16 27 35,qf 37 1 6,⟨none,none,false,.LV 6 [(0,2)] 1 37 (.t 36)⟩]
def ace :=[qm 24 2,qo 25 (.UB 1 (.t 24) (some (.c (.int .i64 2))) none none),qm 2 25]
def mj:Abs.cZ :=
 (.seq (.seq (.ak [0,2,6,23] acb) (.ite (.t 23) .cU (.exit 0))) (.seq (.bB 1 (.ak [0,2,6] acd)) (.ak [0,2,6] ace)))
def acf :=[qw 38 6 2 6,qc 39 oB [38]]
def acg:List Abs.Op:=[]
def Rz :=[qM 41 0,qM 42 0,qO 43 (.nN (.t 42)),qF 44 0 43,qF 45 16 44,qL 46 1 45,qW 47 6 2 6,qO 48 (.wc 1 2 [zI,.aH] [(0,2,(.t 47))]),qO 49 (.app 2 32 (.t 46) (.t 48)),qo 50 (.nN (.t 41)),qf 51 0 50,qf 52 16 51,⟨none,none,false,.st [(0,2)] 1 (.t 52) (.t 49)⟩]
def FV:bP:=⟨[(7,[]),(6,[0,6]),(4,[0,2,6]),(5,[0,2,6]),(3,[0,2,6,23]),(2,[0,2,6]),(1,[0,2,6]),(0,[0,2])],[(0,[0,2,6])],[],[0,6],[6],[(1005,[(1,2)]),(5012,[(0,2)]),(7012,[(0,2)])],[],[(6,[6,1000006]),(6,[6])],[],[],[(0,some 7),(6,some 2)]⟩
def lO:Abs.Fn:=⟨3,[],
 (.seq (.jk [0,2] ab7 ⟨some 14,none,false,.call false (.c (.fn bd [] [])) [(.t 13),(.c (.int .i64 3))]⟩ ab8) (.seq (.ak [0,2,6] ab9) (.seq (.seq (.ak [0,2,6] aca) (.bB 0 (.loop [0,2,6] false mj))) (.seq (.seq (.cI [6,1000006]) (.jk [0,6] acf ⟨some 40,none,false,.call false (.c (.fn bW [] [])) [(.t 39)]⟩ acg)) (.ak [] Rz)))))⟩
@[simp] theorem aHe:type_of% (show ab7=_∧ab8=_∧ab9=_∧aca=_∧acb=_∧acd=_∧ace=_∧acf=_∧acg=_∧Rz=_ from by simp only[zI,ab7,ab8,ab9,aca,acb,acd,ace,acf,acg,Rz,qo,qO,qm,qM,qf,qF,ql,qL,qV,qw,qW,qe,qn,qc,qy,aj,aw];exact⟨rfl,rfl,rfl,rfl,rfl,rfl,rfl,rfl,rfl,rfl⟩):=⟨rfl,rfl,rfl,rfl,rfl,rfl,rfl,rfl,rfl,rfl⟩
theorem uP:type_of% mj.eq_1:=ah mj.eq_1
theorem xT:type_of% lO.eq_1:=ah lO.eq_1
def ach :=[qm 21 0,qc 22 fX [21],qm 6 22]
def aci :=[qm 23 6,qe 24 23,qn 25 .gtr 24 0,qm 26 25,qg 26 true (qm 27 0),qg 26 true (qo 28 (.nN (.t 27))),qg 26 true (qf 29 0 28),qg 26 true (qf 30 10 29),qg 26 true (ql 31 1 30),qg 26 true (qe 32 31),qg 26 true (qn 33 .gtr 32 0),qp 34 26 33]
def acj:List Abs.Op:=[]
def ack :=[qM 36 2,qO 37 (.fJ 1 (.t 36) (.c zI)),qL 38 1 37,qM 39 2,qO 40 (.fJ 1 (.t 39) (.c (.int .i64 1))),qL 41 1 40,qM 42 2,qO 43 (.fJ 1 (.t 42) (.c (.int .i64 2))),qL 44 1 43,qM 45 2,qO 46 (.fJ 1 (.t 45) (.c (.int .i64 3))),qL 47 1 46,qM 7 38,qM 8 41,qM 9 44,qm 10 47]
def acm :=[qm 48 7,qm 49 0,qo 50 (.nN (.t 49)),qf 51 0 50,qf 52 0 51,qf 53 8 52,ql 54 1 53,qe 55 54,qn 56 .sub 55 1,qo 57 (.call false (.c (.fn cG [] [])) [(.t 48),(.c zI),(.t 56)]),qm 58 57,qg 58 true (qm 59 8),qg 58 true (qm 60 0),qg 58 true (qo 61 (.nN (.t 60))),qg 58 true (qf 62 0 61),qg 58 true (qf 63 0 62),qg 58 true (qf 64 4 63),qg 58 true (ql 65 1 64),qg 58 true (qe 66 65),qg 58 true (qn 67 .sub 66 1),qg 58 true (qo 68 (.call false (.c (.fn cG [] [])) [(.t 59),(.c zI),(.t 67)])),qp 69 58 68,qm 70 69,qg 70 true (qm 71 9),qg 70 true (qm 72 0),qg 70 true (qo 73 (.nN (.t 72))),qg 70 true (qf 74 0 73),qg 70 true (qf 75 16 74),qg 70 true (ql 76 1 75),qg 70 true (qe 77 76),qg 70 true (qn 78 .sub 77 1),qg 70 true (qo 79 (.call false (.c (.fn cG [] [])) [(.t 71),(.c zI),(.t 78)])),qp 80 70 79,qm 81 80,qg 81 true (qm 82 10),qg 81 true (qo 83 (.call false (.c (.fn cG [] [])) [(.t 82),(.c zI),(.c (.int .i64 1000))])),qp 84 81 83]
def acn:List Abs.Op:=[]
def aco :=[qo 11 (.rk 1)]
def acp :=[qm 86 6,qe 87 86,qi 88 0]
def acq :=[qk 89 .lss 88 87]
def acr :=[qj 90 4 86 88,qa 91 4 90,qo 13 (.eK [] [(.str []),.aH,(.bool false),zI]),qs 13 4 13 91]
def RA :=[qM 93 0,qO 94 (.nN (.t 93)),qF 95 0 94,qF 96 0 95,qA 97 9 96,qF 98 0 13,qW 99 13 2 98,qM 100 0,qO 101 (.nN (.t 100)),qF 102 0 101,qF 103 10 102,qL 104 1 103,qC 105 uk [97,99,104],qM 92 105,qZ 106 92 0,qZ 107 92 1,qO 14 (.eK [] [.aH,.aH]),qS 14 2 14 106,qm 15 107]
def RB :=[qm 108 15]
def RC:List Abs.Op:=[]
def RD :=[qF 110 1 14,qV 111 14 1 110,qM 112 0,qO 113 (.nN (.t 112)),qF 114 0 113,qF 115 10 114,qL 116 1 115,qE 117 116,qN 118 .sub 117 1,qJ 119 1 111 118,qL 120 1 119,qM 121 7,qJ 122 3 120 121,qA 123 3 122,qO 16 (.eK [] [zI,zI,zI]),qs 16 3 16 123]
def RE :=[qM 125 0,qO 126 (.nN (.t 125)),qF 127 0 126,qF 128 0 127,qF 129 4 128,qL 130 1 129,qM 131 8,qF 132 0 16,qV 133 16 1 132,qF 134 1 16,qV 135 16 1 134,qO 136 (.mJ [zI,zI,zI,zI] [(0,1,(.t 133)),(1,1,(.t 135))]),qC 137 ru [130,131,136],qM 124 137,qZ 138 124 0,qZ 139 124 1,qO 17 (.eK [] [zI,zI,zI,zI,zI,zI,zI,zI,zI,zI]),qS 17 10 17 138,qm 15 139]
def RF :=[qm 140 15]
def RG:List Abs.Op:=[]
def RH :=[qM 143 0,qO 144 (.nN (.t 143)),qF 145 0 144,qF 146 16 145,qL 147 1 146,qM 148 9,qJ 149 2 147 148,qA 150 2 149,qF 151 0 17,qW 152 17 4 151,qC 153 sf [150,152],qM 142 153,qZ 154 142 0,qZ 155 142 1,qZ 156 142 2,qO 18 (.eK [] [zI,zI,zI,zI]),qS 18 4 18 154,qM 19 155,qm 15 156]
def RI :=[qm 157 15]
def RJ:List Abs.Op:=[]
def RL :=[qm 159 11,qm 160 19,qo 161 (.wc 1 1 [zI] [(0,1,(.t 160))]),qy 162 1 8 159 161,qm 11 162]
def RM :=[qn 163 .add 88 1,qm 88 163]
def kY:Abs.cZ :=
 (.seq (.ak [0,7,8,9,10,11,86,87,88,89] acq) (.seq (.ite (.t 89) .cU (.exit 0)) (.seq (.bB 1 (.seq (.ak [0,7,8,9,10,11,13,86,87,88] acr) (.seq (.ak [0,7,8,9,10,11,14,15,86,87,88] RA) (.seq (.jk [0,7,8,9,10,11,14,86,87,88] RB ⟨some 109,none,false,.call false (.c (.fn bW [] [])) [(.t 108)]⟩ RC) (.seq (.ak [0,7,8,9,10,11,16,86,87,88] RD) (.seq (.ak [0,7,8,9,10,11,15,17,86,87,88] RE) (.seq (.jk [0,7,8,9,10,11,17,86,87,88] RF ⟨some 141,none,false,.call false (.c (.fn bW [] [])) [(.t 140)]⟩ RG) (.seq (.ak [0,7,8,9,10,11,15,19,86,87,88] RH) (.seq (.jk [0,7,8,9,10,11,19,86,87,88] RI ⟨some 158,none,false,.call false (.c (.fn bW [] [])) [(.t 157)]⟩ RJ) (.ak [0,7,8,9,10,11,86,87,88] RL)))))))))) (.ak [0,7,8,9,10,11,86,87,88] RM))))
def RN :=[qm 164 11,qc 165 se [164],qo 20 (.eK [] [zI,zI]),qs 20 2 20 165]
def RO :=[qM 166 0,qM 167 0,qO 168 (.nN (.t 167)),qF 169 0 168,qF 170 17 169,qL 171 1 170,qM 172 0,qO 173 (.nN (.t 172)),qF 174 0 173,qF 175 10 174,qL 176 1 175,qE 177 176,qM 178 7,qW 179 20 2 20,qF 180 0 20,qV 181 20 1 180,qM 182 10,qK 183 .mul 181 182,qF 184 1 20,qV 185 20 1 184,qM 186 10,qK 187 .mul 185 186,qO 188 (.mJ [zI,zI] [(0,1,(.t 183)),(1,1,(.t 187))]),qO 189 (.mJ [zI,zI,zI,zI,zI,zI] [(0,1,(.t 177)),(1,1,(.t 178)),(2,2,(.t 179)),(4,2,(.t 188))]),qO 190 (.wc 1 6 [zI,zI,zI,zI,zI,zI] [(0,6,(.t 189))]),qO 191 (.app 6 48 (.t 171) (.t 190)),qo 192 (.nN (.t 166)),qf 193 0 192,qf 194 17 193,⟨none,none,false,.st [(0,6)] 1 (.t 194) (.t 191)⟩]
def FT:bP:=⟨[(18,[]),(17,[0,7,10,20]),(16,[0,7,8,9,10,11,86,87,88]),(15,[0,7,8,9,10,11,86,87,88]),(14,[0,7,8,9,10,11,19,86,87,88]),(13,[0,7,8,9,10,11,15,19,86,87,88]),(12,[0,7,8,9,10,11,17,86,87,88]),(11,[0,7,8,9,10,11,15,17,86,87,88]),(10,[0,7,8,9,10,11,16,86,87,88]),(9,[0,7,8,9,10,11,14,86,87,88]),(8,[0,7,8,9,10,11,14,15,86,87,88]),(7,[0,7,8,9,10,11,13,86,87,88]),(6,[0,7,8,9,10,11,86,87,88,89]),(5,[0,7,8,9,10,11,86,87,88]),(4,[0,6,7,8,9,10,11]),(3,[0,6,7,8,9,10]),(2,[0,6,7,8,9,10]),(1,[0,2,6]),(0,[0,2,6])],[(0,[0,7,8,9,10,11,86,87,88])],[],[0,11,13,14,16,17,18,20],[13,14,16,17,18,20],[(18029,[(0,6)])],[],[(17,[11])],[],[],[(1,some 12),(3,some 37),(9,some 1),(12,some 1),(14,some 1)]⟩
def lM:Abs.Fn:=⟨3,[],
 (.seq (.ak [0,2,6] ach) (.seq (.jk [0,2,6] aci ⟨some 35,none,false,.call false (.c (.fn bd [] [])) [(.t 34),(.c (.int .i64 8))]⟩ acj) (.seq (.ak [0,6,7,8,9,10] ack) (.seq (.jk [0,6,7,8,9,10] acm ⟨some 85,none,false,.call false (.c (.fn bd [] [])) [(.t 84),(.c (.int .i64 2))]⟩ acn) (.seq (.ak [0,6,7,8,9,10,11] aco) (.seq (.seq (.ak [0,7,8,9,10,11,86,87,88] acp) (.bB 0 (.loop [0,7,8,9,10,11,86,87,88] false kY))) (.seq (.seq (.cI [11]) (.ak [0,7,10,20] RN)) (.ak [] RO))))))))⟩
@[simp] theorem aHf:type_of% (show ach=_∧aci=_∧acj=_∧ack=_∧acm=_∧acn=_∧aco=_∧acp=_∧acq=_∧acr=_∧RA=_∧RB=_∧RC=_∧RD=_∧RE=_∧RF=_∧RG=_∧RH=_∧RI=_∧RJ=_∧RL=_∧RM=_∧RN=_∧RO=_ from by simp only[zI,ach,aci,acj,ack,acm,acn,aco,acp,acq,acr,RA,RB,RC,RD,RE,RF,RG,RH,RI,RJ,RL,RM,RN,RO,qo,qO,qm,qM,qi,qf,qF,ql,qL,qa,qA,qV,qW,qe,qE,qj,qJ,qk,qK,qn,qN,qp,qs,qS,qZ,qc,qC,qy,qg,aj,aw];exact⟨rfl,rfl,rfl,rfl,rfl,rfl,rfl,rfl,rfl,rfl,rfl,rfl,rfl,rfl,rfl,rfl,rfl,rfl,rfl,rfl,rfl,rfl,rfl,rfl⟩):=⟨rfl,rfl,rfl,rfl,rfl,rfl,rfl,rfl,rfl,rfl,rfl,rfl,rfl,rfl,rfl,rfl,rfl,rfl,rfl,rfl,rfl,rfl,rfl,rfl⟩
theorem uc:type_of% kY.eq_1:=ah kY.eq_1
theorem xR:type_of% lM.eq_1:=ah lM.eq_1
def awA :=[qi 4 0]
def awB :=[qm 6 0,qe 7 6,qi 8 0]
def awC :=[qk 9 .lss 8 7]
def awD :=[qm 10 8,qm 5 10]
def awE :=[qm 11 1,qm 12 0,qm 13 5,qj 14 3 12 13,qa 15 3 14,qo 16 (.call false (.t 11) [(.t 15)])]
def awF :=[qm 17 5,qm 4 17]
def awG :=[qn 18 .add 8 1,qm 8 18]
def vF:Abs.cZ :=
 (.seq (.ak [0,1,7,8,9] awC) (.seq (.ite (.t 9) .cU (.exit 0)) (.seq (.bB 1 (.seq (.ak [0,1,5,7,8] awD) (.seq (.ak [0,1,5,7,8,16] awE) (.ite (.t 16) (.seq (.ak [4] awF) .ret) .cU)))) (.ak [0,1,7,8] awG))))
def awH :=[qi 4 (-1)]
def xu:bP:=K1 [(7,[4]),(6,[0,1,7,8]),(5,[4]),(4,[0,1,5,7,8,16]),(3,[0,1,5,7,8]),(2,[0,1,7,8,9]),(1,[0,1,7,8]),(0,[0,1])] [(0,[0,1,7,8])]
def qR:Abs.Fn:=⟨2,[.t 4],
 (.seq (.ak [0,1] awA) (.seq (.seq (.ak [0,1,7,8] awB) (.bB 0 (.loop [0,1,7,8] false vF))) (.seq (.ak [4] awH) .ret)))⟩
def acO :=[qF 6 0 1,qF 7 0 6,qL 8 1 7,qF 9 0 1,qF 10 1 9,qL 11 1 10,qM 3 8,qm 4 11]
def acP :=[qa 12 9 1,qc 13 dq [12],qi 14 0]
def acQ :=[qk 15 .lss 14 13]
def acR :=[qm 16 14,qm 5 16]
def acS :=[qm 17 5,qn 18 .add 17 1,qm 19 3,qk 20 .rem 18 19,qn 21 .neq 20 0,qm 22 21,qg 22 true (qm 23 0),qg 22 true (qm 24 5),qg 22 true (qm 25 5),qg 22 true (qn 26 .add 25 1),qg 22 true (qo 27 (.mJ [zI,zI] [(0,1,(.t 24)),(1,1,(.t 26))])),qg 22 true (qo 28 (.call false (.t 23) [(.t 27)])),qg 22 true (qu 29 28),qp 30 22 29]
def acT :=[qm 31 5,qm 32 3,qk 33 .quo 31 32,qm 34 4,qk 35 .rem 33 34,qm 36 4,qn 37 .sub 36 1,qk 38 .neq 35 37,qm 39 38,qg 39 true (qm 40 0),qg 39 true (qm 41 5),qg 39 true (qm 42 5),qg 39 true (qm 43 3),qg 39 true (qk 44 .add 42 43),qg 39 true (qo 45 (.mJ [zI,zI] [(0,1,(.t 41)),(1,1,(.t 44))])),qg 39 true (qo 46 (.call false (.t 40) [(.t 45)])),qg 39 true (qu 47 46),qp 48 39 47]
def acU :=[qm 49 5,qm 50 3,qm 51 4,qk 52 .mul 50 51,qk 53 .add 49 52,qa 54 9 1,qc 55 dq [54],qk 56 .lss 53 55,qm 57 56,qg 57 true (qm 58 0),qg 57 true (qm 59 5),qg 57 true (qm 60 5),qg 57 true (qm 61 3),qg 57 true (qm 62 4),qg 57 true (qk 63 .mul 61 62),qg 57 true (qk 64 .add 60 63),qg 57 true (qo 65 (.mJ [zI,zI] [(0,1,(.t 59)),(1,1,(.t 64))])),qg 57 true (qo 66 (.call false (.t 58) [(.t 65)])),qg 57 true (qu 67 66),qp 68 57 67]
def acV :=[qn 69 .add 14 1,qm 14 69]
def nG:Abs.cZ :=
 (.seq (.ak [0,1,3,4,13,14,15] acQ) (.seq (.ite (.t 15) .cU (.exit 0)) (.seq (.bB 1 (.seq (.ak [0,1,3,4,5,13,14] acR) (.seq (.seq (.ak [0,1,3,4,5,13,14,30] acS) (.ite (.t 30) .ret .cU)) (.seq (.seq (.ak [0,1,3,4,5,13,14,48] acT) (.ite (.t 48) .ret .cU)) (.seq (.ak [0,1,3,4,13,14,68] acU) (.ite (.t 68) .ret .cU)))))) (.ak [0,1,3,4,13,14] acV))))
def Hg:bP:=K1 [(7,[0,1,3,4,13,14]),(6,[0,1,3,4,13,14,68]),(5,[0,1,3,4,5,13,14,48]),(4,[0,1,3,4,5,13,14,30]),(3,[0,1,3,4,5,13,14]),(2,[0,1,3,4,13,14,15]),(1,[0,1,3,4,13,14]),(0,[0,1,3,4])] [(0,[0,1,3,4,13,14])]
def mV:Abs.Fn:=⟨2,[],
 (.seq (.ak [0,1,3,4] acO) (.seq (.ak [0,1,3,4,13,14] acP) (.bB 0 (.loop [0,1,3,4,13,14] false nG))))⟩
@[simp] theorem aHg:type_of% (show acO=_∧acP=_∧acQ=_∧acR=_∧acS=_∧acT=_∧acU=_∧acV=_ from by simp only[zI,acO,acP,acQ,acR,acS,acT,acU,acV,qo,qm,qM,qi,qF,qL,qa,qk,qn,qu,qp,qc,qg,aj,aw];exact⟨rfl,rfl,rfl,rfl,rfl,rfl,rfl,rfl⟩):=⟨rfl,rfl,rfl,rfl,rfl,rfl,rfl,rfl⟩
theorem vM:type_of% nG.eq_1:=ah nG.eq_1
theorem HH:type_of% mV.eq_1:=ah mV.eq_1
def awI :=[qb 4 false]
def awJ :=[qm 5 0,qm 6 1,qc 7 gj [5,6],qn 8 .geq 7 0,qm 4 8]
def uI:bP:=jc [(1,[4]),(0,[0,1])]
def oq:Abs.Fn:=⟨2,[.t 4],
 (.seq (.ak [0,1] awI) (.seq (.ak [4] awJ) .ret))⟩
def awK :=[qx 2 0,qb 3 false]
def awL :=[ql 4 1 1,qa 5 3 2,qo 6 (.call false (.t 4) [(.t 5)]),qu 7 6,qm 3 7]
def A1:bP:=jc [(1,[3]),(0,[1,2])]
def uh:Abs.Fn:=⟨2,[.t 3],
 (.seq (.ak [1,2] awK) (.seq (.ak [3] awL) .ret))⟩
def acW :=[qm 2 0,qn 3 .eql 2 0,qm 4 0]
def acX:List Abs.Op:=[]
def MK:bP:=⟨[(0,[])],[],[],[],[],[],[],[],[],[],[(0,some 3)]⟩
def rT:Abs.Fn:=⟨1,[],
 (.jk [] acW ⟨some 5,none,false,.call false (.c (.fn bd [] [])) [(.t 3),(.t 4)]⟩ acX)⟩
@[simp] theorem aHh:type_of% (show acW=_∧acX=_ from by simp only[zI,acW,acX,qm,qn];exact⟨rfl,rfl⟩):=⟨rfl,rfl⟩
theorem Ei:type_of% rT.eq_1:=ah rT.eq_1
def acY :=[qx 1 0,qi 2 0]
def acZ :=[qa 3 9 1,qc 4 jW [3],qu 5 4]
def ac0 :=[qi 2 1]
def ac1 :=[qi 2 0]
def LC:bP:=⟨[(3,[2]),(2,[2]),(1,[5]),(0,[1])],[],[],[],[],[],[],[(0,[0])],[],[],[]⟩
def qH:Abs.Fn:=⟨1,[.t 2],
 (.seq (.seq (.cI [0]) (.ak [1] acY)) (.seq (.seq (.ak [5] acZ) (.ite (.t 5) (.seq (.ak [2] ac0) .ret) .cU)) (.seq (.ak [2] ac1) .ret)))⟩
@[simp] theorem aHi:type_of% (show acY=_∧acZ=_∧ac0=_∧ac1=_ from by simp only[zI,acY,acZ,ac0,ac1,qi,qa,qx,qu,qc,aj,aw];exact⟨rfl,rfl,rfl,rfl⟩):=⟨rfl,rfl,rfl,rfl⟩
theorem LP:type_of% qH.eq_1:=ah qH.eq_1
def ac2 :=[qo 2 (.rk 3)]
def ac3 :=[qm 3 0,qo 4 (.isn false false (.t 3))]
def ac4 :=[qo 2 (.rk 3)]
def ac5 :=[qo 5 (.UR 0 3 [] []),qm 6 0,qy 7 3 24 5 6,qm 2 7]
def Ar:bP:=Tl [(3,[2]),(2,[2]),(1,[0,4]),(0,[0])] [] [] [2,5]
def gB:Abs.Fn:=⟨1,[.t 2],
 (.seq (.ak [0] ac2) (.seq (.seq (.ak [0,4] ac3) (.ite (.t 4) (.seq (.ak [2] ac4) .ret) .cU)) (.seq (.ak [2] ac5) .ret)))⟩
@[simp] theorem aHj:type_of% (show ac2=_∧ac3=_∧ac4=_∧ac5=_ from by simp only[zI,ac2,ac3,ac4,ac5,qo,qm,qy];exact⟨rfl,rfl,rfl,rfl⟩):=⟨rfl,rfl,rfl,rfl⟩
theorem sW:type_of% gB.eq_1:=ah gB.eq_1
def awM :=[qb 4 false]
def awN :=[qm 5 0,qm 6 1,qc 7 dw [5,6],qn 8 .geq 7 0,qm 4 8]
def sS:bP:=jc [(1,[4]),(0,[0,1])]
def mB:Abs.Fn:=⟨2,[.t 4],
 (.seq (.ak [0,1] awM) (.seq (.ak [4] awN) .ret))⟩
def adu :=[qx 2 0,qb 3 false]
def adv :=[qf 4 0 2,qf 5 0 4,ql 6 1 5,ql 7 1 1,qo 8 (.BA (.seq false) [(.t 6),(.t 7)]),qm 3 8]
def BZ:bP:=jc [(1,[3]),(0,[1,2])]
def iJ:Abs.Fn:=⟨2,[.t 3],
 (.seq (.ak [1,2] adu) (.seq (.ak [3] adv) .ret))⟩
@[simp] theorem aHk:type_of% (show adu=_∧adv=_ from by simp only[zI,adu,adv,qo,qm,qb,qf,ql,qx];exact⟨rfl,rfl⟩):=⟨rfl,rfl⟩
theorem Cn:type_of% iJ.eq_1:=ah iJ.eq_1
def adw :=[qx 2 0,qx 3 1,qo 4 (.mv (.c .aH)),qi 5 0]
def adx :=[qa 9 9 2,qa 10 2 3,qc 11 tU [9,10],qm 8 11,qz 12 8 0,qz 13 8 1,qo 6 (.eK [] [zI,zI,zI,zI,.aH,zI,zI,zI,.aH,(.str []),.aH]),qs 6 11 6 12,qm 7 13]
def ady :=[qm 14 7,qn 15 .neq 14 0]
def adz :=[qm 16 7,qo 4 (.mv (.c .aH)),qm 5 16]
def adA :=[qw 17 6 11 6,qc 18 jh [17],qm 4 18,qi 5 0]
def P6:bP:=⟨[(4,[4,5]),(3,[4,5]),(2,[6,7,15]),(1,[6,7]),(0,[2,3])],[],[],[6],[6],[],[],[(0,[0])],[],[],[]⟩
def u0:Abs.Fn:=⟨2,[.t 4,.t 5],
 (.seq (.seq (.cI [0]) (.ak [2,3] adw)) (.seq (.ak [6,7] adx) (.seq (.seq (.ak [6,7,15] ady) (.ite (.t 15) (.seq (.ak [4,5] adz) .ret) .cU)) (.seq (.ak [4,5] adA) .ret))))⟩
@[simp] theorem aHl:type_of% (show adw=_∧adx=_∧ady=_∧adz=_∧adA=_ from by simp only[zI,adw,adx,ady,adz,adA,qo,qm,qi,qa,qw,qx,qn,qs,qz,qc,aj,aw];exact⟨rfl,rfl,rfl,rfl,rfl⟩):=⟨rfl,rfl,rfl,rfl,rfl⟩
theorem IY:type_of% u0.eq_1:=ah u0.eq_1
def adB :=[qx 2 0,qx 3 1,qi 4 0]
def adC :=[qa 5 4 2,qo 6 (.zR cS [(.t 5)] []),qo 7 (.zR dQ [] [(.t 2),(.t 3)]),qo 8 (.wc 2 1 [.jj,.jj] [(0,1,(.t 6)),(1,1,(.t 7))]),qc 9 oM [8],qm 4 9]
def Da:bP:=jc [(1,[4]),(0,[2,3])]
def jA:Abs.Fn:=⟨2,[.t 4],
 (.seq (.ak [2,3] adB) (.seq (.ak [4] adC) .ret))⟩
@[simp] theorem aHm:type_of% (show adB=_∧adC=_ from by simp only[zI,adB,adC,qo,qm,qi,qa,qx,qc,aj,aw];exact⟨rfl,rfl⟩):=⟨rfl,rfl⟩
theorem Dq:type_of% jA.eq_1:=ah jA.eq_1
def adD :=[qx 4 1]
def adE :=[qm 9 0,qo 10 (.nN (.t 9)),qf 11 0 10,qf 12 9 11,ql 13 1 12,qe 14 13,qi 15 0]
def adF :=[qk 16 .lss 15 14]
def adG :=[qm 17 15,qj 18 4 13 15,qa 19 4 18,qo 7 (.eK [] [(.str []),.aH,(.bool false),zI]),qm 6 17,qs 7 4 7 19]
def adH :=[qf 20 2 7,qv 21 7 1 20,qu 22 21]
def adI :=[qm 23 2,qf 24 0 7,qw 25 7 2 24,qo 26 (.call false (.t 23) [(.t 25)]),qm 8 26]
def adJ :=[qm 27 8,qf 28 0 4,ql 29 1 28,qf 30 1 4,ql 31 1 30,qc 32 cG [27,29,31],qu 33 32]
def adK :=[qM 34 0,qO 35 (.nN (.t 34)),qF 36 0 35,qF 37 9 36,qL 38 1 37,qM 39 6,qM 40 0,qO 41 (.nN (.t 40)),qF 42 0 41,qF 43 9 42,qL 44 1 43,qM 45 6,qM 46 0,qO 47 (.nN (.t 46)),qF 48 20 47,qL 49 1 48,qJ 50 4 38 39,qF 51 2 50,⟨none,none,true,.st [] 1 (.t 51) (.c (.bool false))⟩,qj 52 4 44 45,qf 53 3 52,qt 1 53 49]
def adL :=[qM 54 0,qO 55 (.nN (.t 54)),qF 56 19 55,qL 57 1 56,qM 58 6,qM 59 0,qO 60 (.nN (.t 59)),qF 61 20 60,qL 62 1 61,qM 63 8,qF 64 0 4,qL 65 1 64,qF 66 1 4,qL 67 1 66,qO 68 (.mJ [zI,zI,zI,zI] [(0,1,(.t 62)),(1,1,(.t 63)),(2,1,(.t 65)),(3,1,(.t 67))]),qj 69 4 57 58,qt 4 69 68]
def adM :=[qn 70 .add 15 1,qm 15 70]
def jt:Abs.cZ :=
 (.seq (.ak [0,2,4,13,14,15,16] adF) (.seq (.ite (.t 16) .cU (.exit 0)) (.seq (.bB 1 (.seq (.ak [0,2,4,6,7,13,14,15] adG) (.seq (.seq (.ak [0,2,4,6,7,13,14,15,22] adH) (.ite (.t 22) (.exit 1) .cU)) (.seq (.ak [0,2,4,6,8,13,14,15] adI) (.seq (.ak [0,2,4,6,8,13,14,15,33] adJ) (.ite (.t 33) (.seq (.ak [0,2,4,6,8,13,14,15] adK) (.ak [0,2,4,13,14,15] adL)) .cU)))))) (.ak [0,2,4,13,14,15] adM))))
def Di:bP:=Hx [(9,[0,2,4,13,14,15]),(8,[0,2,4,13,14,15]),(7,[0,2,4,6,8,13,14,15]),(6,[0,2,4,6,8,13,14,15,33]),(5,[0,2,4,6,8,13,14,15]),(4,[0,2,4,6,7,13,14,15,22]),(3,[0,2,4,6,7,13,14,15]),(2,[0,2,4,13,14,15,16]),(1,[0,2,4,13,14,15]),(0,[0,2,4])] [(0,[0,2,4,13,14,15])] [] [7] [7] [] []
def jI:Abs.Fn:=⟨3,[],
 (.seq (.ak [0,2,4] adD) (.seq (.ak [0,2,4,13,14,15] adE) (.bB 0 (.loop [0,2,4,13,14,15] false jt))))⟩
@[simp] theorem aHn:type_of% (show adD=_∧adE=_∧adF=_∧adG=_∧adH=_∧adI=_∧adJ=_∧adK=_∧adL=_∧adM=_ from by simp only[zI,adD,adE,adF,adG,adH,adI,adJ,adK,adL,adM,qo,qO,qm,qM,qi,qf,qF,ql,qL,qa,qv,qw,qx,qe,qj,qJ,qk,qn,qu,qs,qt,qc,aj,aw];exact⟨rfl,rfl,rfl,rfl,rfl,rfl,rfl,rfl,rfl,rfl⟩):=⟨rfl,rfl,rfl,rfl,rfl,rfl,rfl,rfl,rfl,rfl⟩
theorem sD:type_of% jt.eq_1:=ah jt.eq_1
theorem Dx:type_of% jI.eq_1:=ah jI.eq_1
def adN :=[qx 3 0,qi 4 0]
def adO :=[qL 8 1 1,qO 9 (.nN (.t 8)),qF 10 0 9,qF 11 0 10,qF 12 0 11,qA 13 4 12,qA 14 2 3,qA 15 6 2,qC 16 xe [13,14,15],qM 7 16,qZ 17 7 0,qZ 18 7 1,qM 5 17,qm 6 18]
def adP :=[qm 19 5,qm 4 19]
def DY:bP:=jc [(2,[4]),(1,[5]),(0,[1,2,3])]
def kr:Abs.Fn:=⟨3,[.t 4],
 (.seq (.ak [1,2,3] adN) (.seq (.ak [5] adO) (.seq (.ak [4] adP) .ret)))⟩
@[simp] theorem aHo:type_of% (show adN=_∧adO=_∧adP=_ from by simp only[zI,adN,adO,adP,qO,qm,qM,qi,qF,qL,qA,qx,qZ,qC,aj,aw];exact⟨rfl,rfl,rfl⟩):=⟨rfl,rfl,rfl⟩
theorem Eh:type_of% kr.eq_1:=ah kr.eq_1
def adQ :=[qx 6 2,qo 8 (.mv (.c .aH)),qi 9 0]
def adR :=[qo 10 (.mv (.c (.fn lq [] [])))]
def adS :=[qm 15 0,qe 16 15,qn 17 .gtr 16 500,qm 14 17]
def adT :=[qo 8 (.mv (.c .aH)),qi 9 3]
def adU :=[qm 19 0,qm 20 10,qc 21 ij [19,20],qu 22 21,qm 23 22,qg 23 false (qm 24 1),qg 23 false (qe 25 24),qg 23 false (qm 26 0),qg 23 false (qe 27 26),qg 23 false (qk 28 .neq 25 27),qP 29 23 28,qm 30 29,qg 30 false (qm 31 1),qg 30 false (qo 32 (.call false (.c (.fn pV [] [])) [(.t 31),(.c (.fn rH [] []))])),qg 30 false (qu 33 32),qP 34 30 33,qm 35 34,qg 35 false (qm 36 10),qg 35 false (qm 37 3),qg 35 false (qo 38 (.call false (.t 36) [(.t 37)])),qg 35 false (qu 39 38),qP 40 35 39,qm 18 40]
def adV :=[qo 8 (.mv (.c .aH)),qi 9 1]
def adW :=[qo 42 (.EE 3 1 (.t 6) (.c (.int .u8 0))),ql 43 1 42,qn 44 .gtr 43 1000,qm 45 44,qg 45 false (qo 46 (.EE 3 1 (.t 6) (.c (.int .u8 1)))),qg 45 false (ql 47 1 46),qg 45 false (qo 48 (.EE 3 1 (.t 6) (.c (.int .u8 0)))),qg 45 false (ql 49 1 48),qg 45 false (qk 50 .gtr 47 49),qP 51 45 50,qm 52 51,qg 52 false (qo 53 (.EE 3 1 (.t 6) (.c (.int .u8 2)))),qg 52 false (ql 54 1 53),qg 52 false (qo 55 (.EE 3 1 (.t 6) (.c (.int .u8 1)))),qg 52 false (ql 56 1 55),qg 52 false (qk 57 .gtr 54 56),qP 58 52 57,qm 59 58,qg 59 false (qo 60 (.EE 3 1 (.t 6) (.c (.int .u8 2)))),qg 59 false (ql 61 1 60),qg 59 false (qn 62 .lss 61 0),qP 63 59 62,qm 41 63]
def adX :=[qo 8 (.mv (.c .aH)),qi 9 1]
def adY :=[qm 64 0,qe 65 64,qo 66 (.mks 1 8 [zI] (.t 65) (.t 65)),qm 11 66]
def adZ :=[qm 67 0,qe 68 67,qi 69 0]
def RP :=[qk 70 .lss 69 68]
def RQ :=[qm 71 69,qj 72 1 67 69,ql 73 1 72,qm 12 71,qm 13 73]
def RR :=[qm 74 11,qm 75 12,qm 76 13,qm 77 1,qm 78 12,qj 79 1 77 78,ql 80 1 79,qo 81 (.EE 3 1 (.t 6) (.t 80)),ql 82 1 81,qk 83 .mul 76 82,qn 84 .quo 83 1000,qj 85 1 74 75,qt 1 85 84]
def RS :=[qm 86 12,qn 87 .gtr 86 0]
def RT :=[qM 88 11,qM 89 12,qM 90 11,qM 91 12,qJ 92 1 90 91,qL 93 1 92,qM 94 11,qM 95 12,qN 96 .sub 95 1,qJ 97 1 94 96,qL 98 1 97,qM 99 3,qK 100 .add 98 99,qO 101 (.mn (.t 93) (.t 100)),qj 102 1 88 89,qt 1 102 101]
def RU :=[qn 103 .add 69 1,qm 69 103]
def sQ:Abs.cZ :=
 (.seq (.ak [1,3,6,11,67,68,69,70] RP) (.seq (.ite (.t 70) .cU (.exit 1)) (.seq (.bB 2 (.seq (.ak [1,3,6,11,12,13,67,68,69] RQ) (.seq (.ak [1,3,6,11,12,67,68,69] RR) (.seq (.ak [1,3,6,11,12,67,68,69,87] RS) (.ite (.t 87) (.ak [1,3,6,11,67,68,69] RT) .cU))))) (.ak [1,3,6,11,67,68,69] RU))))
def RV :=[qm 104 11,qm 8 104,qi 9 0]
def LD:bP:=K1 [(16,[8,9]),(15,[1,3,6,11,67,68,69]),(14,[1,3,6,11,67,68,69]),(13,[1,3,6,11,12,67,68,69,87]),(12,[1,3,6,11,12,67,68,69]),(11,[1,3,6,11,12,13,67,68,69]),(10,[1,3,6,11,67,68,69,70]),(9,[1,3,6,11,67,68,69]),(8,[0,1,3,6,11]),(3,[8,9]),(5,[8,9]),(7,[8,9]),(6,[0,1,3,6,41]),(4,[0,1,3,6,18]),(2,[0,1,3,6,10,14]),(1,[0,1,3,6,10]),(0,[0,1,3,6])] [(1,[1,3,6,11,67,68,69])]
def qU:Abs.Fn:=⟨4,[.t 8,.t 9],
 (.seq (.ak [0,1,3,6] adQ) (.seq (.ak [0,1,3,6,10] adR) (.seq (.bB 0 (.seq (.ak [0,1,3,6,10,14] adS) (.ite (.t 14) (.seq (.ak [8,9] adT) .ret) (.seq (.ak [0,1,3,6,18] adU) (.ite (.t 18) (.seq (.ak [8,9] adV) .ret) (.seq (.ak [0,1,3,6,41] adW) (.ite (.t 41) (.seq (.ak [8,9] adX) .ret) .cU))))))) (.seq (.ak [0,1,3,6,11] adY) (.seq (.seq (.ak [1,3,6,11,67,68,69] adZ) (.bB 1 (.loop [1,3,6,11,67,68,69] false sQ))) (.seq (.ak [8,9] RV) .ret))))))⟩
@[simp] theorem aHp:type_of% (show adQ=_∧adR=_∧adS=_∧adT=_∧adU=_∧adV=_∧adW=_∧adX=_∧adY=_∧adZ=_∧RP=_∧RQ=_∧RR=_∧RS=_∧RT=_∧RU=_∧RV=_ from by simp only[zI,adQ,adR,adS,adT,adU,adV,adW,adX,adY,adZ,RP,RQ,RR,RS,RT,RU,RV,qo,qO,qm,qM,qi,ql,qL,qx,qe,qj,qJ,qk,qK,qn,qN,qu,qP,qt,qc,qg,aj,aw];exact⟨rfl,rfl,rfl,rfl,rfl,rfl,rfl,rfl,rfl,rfl,rfl,rfl,rfl,rfl,rfl,rfl,rfl⟩):=⟨rfl,rfl,rfl,rfl,rfl,rfl,rfl,rfl,rfl,rfl,rfl,rfl,rfl,rfl,rfl,rfl,rfl⟩
theorem Gm:type_of% sQ.eq_1:=ah sQ.eq_1
theorem LQ:type_of% qU.eq_1:=ah qU.eq_1
def ad0 :=[qo 2 (.mv (.c .aH))]
def ad1 :=[qm 3 0,qo 4 (.nN (.t 3)),qf 5 0 4,qf 6 9 5,ql 7 1 6,qo 8 (.call false (.c (.fn dS [] [])) [(.t 7),(.c (.fn eS [] []))]),qm 2 8]
def FO:bP:=jc [(1,[2]),(0,[0])]
def lI:Abs.Fn:=⟨1,[.t 2],
 (.seq (.ak [0] ad0) (.seq (.ak [2] ad1) .ret))⟩
@[simp] theorem aHq:type_of% (show ad0=_∧ad1=_ from by simp only[zI,ad0,ad1,qo,qm,qf,ql];exact⟨rfl,rfl⟩):=⟨rfl,rfl⟩
theorem Gb:type_of% lI.eq_1:=ah lI.eq_1
def ad2 :=[qo 2 (.rk 1)]
def ad3 :=[qm 3 0,qo 4 (.isn false false (.t 3))]
def ad4 :=[qo 2 (.rk 1)]
def ad5 :=[qo 5 (.UR 0 1 [] []),qm 6 0,qy 7 1 24 5 6,qm 2 7]
def D6:bP:=Tl [(3,[2]),(2,[2]),(1,[0,4]),(0,[0])] [] [] [2,5]
def kF:Abs.Fn:=⟨1,[.t 2],
 (.seq (.ak [0] ad2) (.seq (.seq (.ak [0,4] ad3) (.ite (.t 4) (.seq (.ak [2] ad4) .ret) .cU)) (.seq (.ak [2] ad5) .ret)))⟩
@[simp] theorem aHr:type_of% (show ad2=_∧ad3=_∧ad4=_∧ad5=_ from by simp only[zI,ad2,ad3,ad4,ad5,qo,qm,qy];exact⟨rfl,rfl,rfl,rfl⟩):=⟨rfl,rfl,rfl,rfl⟩
theorem wU:type_of% kF.eq_1:=ah kF.eq_1
def ad6 :=[qx 4 0,qi 5 0]
def ad7 :=[qL 10 1 1,qO 11 (.nN (.t 10)),qF 12 0 11,qF 13 0 12,qA 14 9 13,qA 15 2 4,qO 16 (.wc 1 2 [(.str []),.aH] [(0,2,(.t 15))]),qL 17 1 1,qO 18 (.nN (.t 17)),qF 19 0 18,qF 20 10 19,qL 21 1 20,qA 22 5 2,qO 23 (.wc 1 5 [zI,(.int .u8 0),zI,zI,zI] [(0,5,(.t 22))]),qC 24 nD [14,16,21,23],qM 9 24,qZ 25 9 0,qZ 26 9 1,qZ 27 9 2,qM 6 25,qM 7 26,qm 8 27]
def ad8 :=[qm 29 7,qe 30 29,qn 31 .eql 30 0,qm 28 31]
def ad9 :=[ql 32 1 3,qo 33 (.fJ 1 (.t 32) (.c (.int .i64 2))),ql 34 1 33,qm 5 34]
def aea :=[qm 36 7,qo 37 (.fJ 3 (.t 36) (.c zI)),qf 38 2 37,ql 39 1 38,qn 40 .gtr 39 0,qm 35 40]
def aeb :=[qL 41 1 3,qO 42 (.fJ 1 (.t 41) (.c (.int .i64 3))),qL 43 1 42,qM 44 7,qO 45 (.fJ 3 (.t 44) (.c zI)),qF 46 2 45,qL 47 1 46,qk 48 .add 43 47,qm 5 48]
def aec :=[qL 49 1 3,qO 50 (.fJ 1 (.t 49) (.c (.int .i64 2))),qL 51 1 50,qM 52 7,qO 53 (.fJ 3 (.t 52) (.c zI)),qF 54 2 53,qL 55 1 54,qk 56 .add 51 55,qm 5 56]
def Dh:bP:=jc [(6,[5]),(3,[5]),(5,[5]),(4,[3,7,35]),(2,[3,7,28]),(1,[3,7]),(0,[1,2,3,4])]
def jH:Abs.Fn:=⟨4,[.t 5],
 (.seq (.ak [1,2,3,4] ad6) (.seq (.ak [3,7] ad7) (.seq (.bB 0 (.seq (.ak [3,7,28] ad8) (.ite (.t 28) (.seq (.ak [5] ad9) .ret) (.seq (.ak [3,7,35] aea) (.ite (.t 35) (.seq (.ak [5] aeb) .ret) .cU))))) (.seq (.ak [5] aec) .ret))))⟩
@[simp] theorem aHs:type_of% (show ad6=_∧ad7=_∧ad8=_∧ad9=_∧aea=_∧aeb=_∧aec=_ from by simp only[zI,ad6,ad7,ad8,ad9,aea,aeb,aec,qo,qO,qm,qM,qi,qf,qF,ql,qL,qA,qx,qe,qk,qn,qZ,qC,aj,aw];exact⟨rfl,rfl,rfl,rfl,rfl,rfl,rfl⟩):=⟨rfl,rfl,rfl,rfl,rfl,rfl,rfl⟩
theorem Dw:type_of% jH.eq_1:=ah jH.eq_1
def aed :=[qx 1 0,qi 2 0]
def aee :=[qa 3 2 1,qc 4 jT [3],qu 5 4]
def aef :=[qi 2 1]
def aeg :=[qi 2 0]
def IB:bP:=jc [(3,[2]),(2,[2]),(1,[5]),(0,[1])]
def oc:Abs.Fn:=⟨1,[.t 2],
 (.seq (.ak [1] aed) (.seq (.seq (.ak [5] aee) (.ite (.t 5) (.seq (.ak [2] aef) .ret) .cU)) (.seq (.ak [2] aeg) .ret)))⟩
@[simp] theorem aHt:type_of% (show aed=_∧aee=_∧aef=_∧aeg=_ from by simp only[zI,aed,aee,aef,aeg,qi,qa,qx,qu,qc,aj,aw];exact⟨rfl,rfl,rfl,rfl⟩):=⟨rfl,rfl,rfl,rfl⟩
theorem IT:type_of% oc.eq_1:=ah oc.eq_1
def aeh :=[qo 2 (.eK [] [zI,zI])]
def aei :=[qm 3 0,qc 4 pw [3],qm 5 0,qc 6 pv [5],qo 7 (.mJ [zI,zI] [(0,1,(.t 4)),(1,1,(.t 6))]),qs 2 2 2 7]
def ML:bP:=Hx [(1,[2]),(0,[0,2])] [] [] [2] [2] [] []
def rU:Abs.Fn:=⟨1,[.v 2 true 2],
 (.seq (.ak [0,2] aeh) (.seq (.ak [2] aei) .ret))⟩
@[simp] theorem aHu:type_of% (show aeh=_∧aei=_ from by simp only[zI,aeh,aei,qo,qm,qs,qc,aj,aw];exact⟨rfl,rfl⟩):=⟨rfl,rfl⟩
theorem Nb:type_of% rU.eq_1:=ah rU.eq_1
def awO :=[qi 4 0]
def awP :=[qm 6 0,qe 7 6,qi 8 0]
def awQ :=[qk 9 .lss 8 7]
def awR :=[qm 10 8,qm 5 10]
def awS :=[qm 11 1,qm 12 0,qm 13 5,qj 14 3 12 13,qa 15 3 14,qo 16 (.call false (.t 11) [(.t 15)])]
def awT :=[qm 17 5,qm 4 17]
def awU :=[qn 18 .add 8 1,qm 8 18]
def ve:Abs.cZ :=
 (.seq (.ak [0,1,7,8,9] awQ) (.seq (.ite (.t 9) .cU (.exit 0)) (.seq (.bB 1 (.seq (.ak [0,1,5,7,8] awR) (.seq (.ak [0,1,5,7,8,16] awS) (.ite (.t 16) (.seq (.ak [4] awT) .ret) .cU)))) (.ak [0,1,7,8] awU))))
def awV :=[qi 4 (-1)]
def wM:bP:=K1 [(7,[4]),(6,[0,1,7,8]),(5,[4]),(4,[0,1,5,7,8,16]),(3,[0,1,5,7,8]),(2,[0,1,7,8,9]),(1,[0,1,7,8]),(0,[0,1])] [(0,[0,1,7,8])]
def pG:Abs.Fn:=⟨2,[.t 4],
 (.seq (.ak [0,1] awO) (.seq (.seq (.ak [0,1,7,8] awP) (.bB 0 (.loop [0,1,7,8] false ve))) (.seq (.ak [4] awV) .ret)))⟩
def aej :=[qi 2 0]
def aek :=[qa 3 4 0,ql 4 1 1,qc 5 iO [3,4],qm 2 5]
def A0:bP:=jc [(1,[2]),(0,[0,1])]
def gY:Abs.Fn:=⟨2,[.t 2],
 (.seq (.ak [0,1] aej) (.seq (.ak [2] aek) .ret))⟩
@[simp] theorem aHv:type_of% (show aej=_∧aek=_ from by simp only[zI,aej,aek,qm,qi,ql,qa,qc,aj,aw];exact⟨rfl,rfl⟩):=⟨rfl,rfl⟩
theorem Ba:type_of% gY.eq_1:=ah gY.eq_1
def ael :=[qx 2 0,qi 4 0]
def aem :=[qm 5 1,qe 6 5,qn 7 .gtr 6 12]
def aen :=[qi 4 3]
def aeo :=[qm 8 1,qo 9 (.zR dD [] [(.t 2)]),qc 10 fu [8,9],qm 4 10]
def BW:bP:=jc [(3,[4]),(2,[4]),(1,[1,2,7]),(0,[1,2])]
def iC:Abs.Fn:=⟨2,[.t 4],
 (.seq (.ak [1,2] ael) (.seq (.seq (.ak [1,2,7] aem) (.ite (.t 7) (.seq (.ak [4] aen) .ret) .cU)) (.seq (.ak [4] aeo) .ret)))⟩
@[simp] theorem aHw:type_of% (show ael=_∧aem=_∧aen=_∧aeo=_ from by simp only[zI,ael,aem,aen,aeo,qo,qm,qi,qx,qe,qn,qc,aj,aw];exact⟨rfl,rfl,rfl,rfl⟩):=⟨rfl,rfl,rfl,rfl⟩
theorem Ck:type_of% iC.eq_1:=ah iC.eq_1
def aep :=[qb 2 false]
def aeq :=[qm 3 0,qo 4 (.call false (.c (.fn cq [] [])) [(.t 3),(.c zI),(.c (.int .i64 1000000000))]),qm 2 4]
def IL:bP:=jc [(1,[2]),(0,[0])]
def ow:Abs.Fn:=⟨1,[.t 2],
 (.seq (.ak [0] aep) (.seq (.ak [2] aeq) .ret))⟩
@[simp] theorem aHx:type_of% (show aep=_∧aeq=_ from by simp only[zI,aep,aeq,qo,qm,qb];exact⟨rfl,rfl⟩):=⟨rfl,rfl⟩
theorem I3:type_of% ow.eq_1:=ah ow.eq_1
def awW :=[qx 3 1,qb 4 false]
def awX :=[qm 5 0,qo 6 (.zR sh [] [(.t 3)]),qc 7 my [5,6],qu 8 7,qm 4 8]
def Hw:bP:=jc [(1,[4]),(0,[0,3])]
def y7:Abs.Fn:=⟨2,[.t 4],
 (.seq (.ak [0,3] awW) (.seq (.ak [4] awX) .ret))⟩
def awY :=[qb 2 false]
def awZ :=[qm 3 0,qo 4 (.bin .leq (.t 3) (.c (.int .u8 2))),qm 2 4]
def IM:bP:=jc [(1,[2]),(0,[0])]
def zH:Abs.Fn:=⟨1,[.t 2],
 (.seq (.ak [0] awY) (.seq (.ak [2] awZ) .ret))⟩
def aer :=[qo 4 (.rk 4)]
def aes :=[qm 7 0,qe 8 7,qi 9 0]
def aet :=[qk 10 .lss 9 8]
def aeu :=[qj 11 4 7 9,qa 12 4 11,qo 6 (.eK [] [(.str []),.aH,(.bool false),zI]),qs 6 4 6 12]
def aev :=[qm 13 1,qw 14 6 4 6,qo 15 (.call false (.t 13) [(.t 14)])]
def aew :=[qm 16 4,qw 17 6 4 6,qo 18 (.wc 1 4 [(.str []),.aH,(.bool false),zI] [(0,4,(.t 17))]),qy 19 4 56 16 18,qm 4 19]
def aex :=[qn 20 .add 9 1,qm 9 20]
def eG:Abs.cZ :=
 (.seq (.ak [1,4,7,8,9,10] aet) (.seq (.ite (.t 10) .cU (.exit 0)) (.seq (.bB 1 (.seq (.ak [1,4,6,7,8,9] aeu) (.seq (.ak [1,4,6,7,8,9,15] aev) (.ite (.t 15) (.ak [1,4,7,8,9] aew) .cU)))) (.ak [1,4,7,8,9] aex))))
def aey :=[qm 21 4,qm 4 21]
def vX:bP:=Hx [(7,[4]),(6,[1,4,7,8,9]),(5,[1,4,7,8,9]),(4,[1,4,6,7,8,9,15]),(3,[1,4,6,7,8,9]),(2,[1,4,7,8,9,10]),(1,[1,4,7,8,9]),(0,[0,1,4])] [(0,[1,4,7,8,9])] [] [4,6] [6] [] []
def dP:Abs.Fn:=⟨2,[.t 4],
 (.seq (.ak [0,1,4] aer) (.seq (.seq (.ak [1,4,7,8,9] aes) (.bB 0 (.loop [1,4,7,8,9] false eG))) (.seq (.ak [4] aey) .ret)))⟩
@[simp] theorem aHy:type_of% (show aer=_∧aes=_∧aet=_∧aeu=_∧aev=_∧aew=_∧aex=_∧aey=_ from by simp only[zI,aer,aes,aet,aeu,aev,aew,aex,aey,qo,qm,qi,qa,qw,qe,qj,qk,qn,qs,qy];exact⟨rfl,rfl,rfl,rfl,rfl,rfl,rfl,rfl⟩):=⟨rfl,rfl,rfl,rfl,rfl,rfl,rfl,rfl⟩
theorem nQ:type_of% eG.eq_1:=ah eG.eq_1
theorem wj:type_of% dP.eq_1:=ah dP.eq_1
def aez :=[qx 1 0,qb 2 false]
def aeA :=[qf 3 2 1,ql 4 1 3,qm 2 4]
def Df:bP:=jc [(1,[2]),(0,[1])]
def jF:Abs.Fn:=⟨1,[.t 2],
 (.seq (.ak [1] aez) (.seq (.ak [2] aeA) .ret))⟩
@[simp] theorem aHz:type_of% (show aez=_∧aeA=_ from by simp only[zI,aez,aeA,qm,qb,qf,ql,qx];exact⟨rfl,rfl⟩):=⟨rfl,rfl⟩
theorem Dv:type_of% jF.eq_1:=ah jF.eq_1
def aeB :=[qi 2 0]
def aeC :=[qm 5 0,qe 6 5,qn 7 .lss 6 1]
def aeD :=[qo 8 (.mki 9 (.c (.str [115,108,105,99,101,115,46,77,105,110,58,32,101,109,112,116,121,32,108,105,115,116])))]
def aeE:List Abs.Op:=[]
def aeF :=[qm 9 0,qo 10 (.fJ 1 (.t 9) (.c zI)),ql 11 1 10,qm 3 11]
def aeG :=[qi 4 1]
def aeH :=[qm 12 4,qm 13 0,qe 14 13,qk 15 .lss 12 14]
def aeI :=[qm 18 3,qm 19 0,qm 20 4,qj 21 1 19 20,ql 22 1 21,qo 23 (.mn (.t 18) (.t 22)),qm 3 23]
def aeJ :=[qm 16 4,qn 17 .add 16 1,qm 4 17]
def oW:Abs.cZ :=
 (.seq (.seq (.ak [0,3,4,15] aeH) (.ite (.t 15) .cU (.exit 0))) (.seq (.bB 1 (.ak [0,3,4] aeI)) (.ak [0,3,4] aeJ)))
def RW :=[qm 24 3,qm 2 24]
def J3:bP:=⟨[(8,[2]),(6,[0,3,4]),(7,[0,3,4]),(5,[0,3,4,15]),(4,[0,3,4]),(3,[0,3]),(2,[0]),(1,[0,7]),(0,[0])],[(0,[0,3,4])],[],[],[],[],[],[],[],[],[(2,some 1)]⟩
def pg:Abs.Fn:=⟨1,[.t 2],
 (.seq (.ak [0] aeB) (.seq (.seq (.ak [0,7] aeC) (.ite (.t 7) (.jk [0] aeD ⟨none,none,false,.UT (.t 8)⟩ aeE) .cU)) (.seq (.ak [0,3] aeF) (.seq (.seq (.ak [0,3,4] aeG) (.bB 0 (.loop [0,3,4] false oW))) (.seq (.ak [2] RW) .ret)))))⟩
@[simp] theorem aHA:type_of% (show aeB=_∧aeC=_∧aeD=_∧aeE=_∧aeF=_∧aeG=_∧aeH=_∧aeI=_∧aeJ=_∧RW=_ from by simp only[zI,aeB,aeC,aeD,aeE,aeF,aeG,aeH,aeI,aeJ,RW,qo,qm,qi,ql,qe,qj,qk,qn];exact⟨rfl,rfl,rfl,rfl,rfl,rfl,rfl,rfl,rfl,rfl⟩):=⟨rfl,rfl,rfl,rfl,rfl,rfl,rfl,rfl,rfl,rfl⟩
theorem xX:type_of% oW.eq_1:=ah oW.eq_1
theorem Ki:type_of% pg.eq_1:=ah pg.eq_1
def aeK :=[qi 2 0]
def aeL :=[qm 5 0,qe 6 5,qn 7 .lss 6 1]
def aeM :=[qo 8 (.mki 9 (.c (.str [115,108,105,99,101,115,46,77,97,120,58,32,101,109,112,116,121,32,108,105,115,116])))]
def aeN:List Abs.Op:=[]
def aeO :=[qm 9 0,qo 10 (.fJ 1 (.t 9) (.c zI)),ql 11 1 10,qm 3 11]
def aeP :=[qi 4 1]
def aeQ :=[qm 12 4,qm 13 0,qe 14 13,qk 15 .lss 12 14]
def aeR :=[qm 18 3,qm 19 0,qm 20 4,qj 21 1 19 20,ql 22 1 21,qo 23 (.mx (.t 18) (.t 22)),qm 3 23]
def aeS :=[qm 16 4,qn 17 .add 16 1,qm 4 17]
def oV:Abs.cZ :=
 (.seq (.seq (.ak [0,3,4,15] aeQ) (.ite (.t 15) .cU (.exit 0))) (.seq (.bB 1 (.ak [0,3,4] aeR)) (.ak [0,3,4] aeS)))
def RX :=[qm 24 3,qm 2 24]
def J2:bP:=⟨[(8,[2]),(6,[0,3,4]),(7,[0,3,4]),(5,[0,3,4,15]),(4,[0,3,4]),(3,[0,3]),(2,[0]),(1,[0,7]),(0,[0])],[(0,[0,3,4])],[],[],[],[],[],[],[],[],[(2,some 1)]⟩
def pf:Abs.Fn:=⟨1,[.t 2],
 (.seq (.ak [0] aeK) (.seq (.seq (.ak [0,7] aeL) (.ite (.t 7) (.jk [0] aeM ⟨none,none,false,.UT (.t 8)⟩ aeN) .cU)) (.seq (.ak [0,3] aeO) (.seq (.seq (.ak [0,3,4] aeP) (.bB 0 (.loop [0,3,4] false oV))) (.seq (.ak [2] RX) .ret)))))⟩
@[simp] theorem aHB:type_of% (show aeK=_∧aeL=_∧aeM=_∧aeN=_∧aeO=_∧aeP=_∧aeQ=_∧aeR=_∧aeS=_∧RX=_ from by simp only[zI,aeK,aeL,aeM,aeN,aeO,aeP,aeQ,aeR,aeS,RX,qo,qm,qi,ql,qe,qj,qk,qn];exact⟨rfl,rfl,rfl,rfl,rfl,rfl,rfl,rfl,rfl,rfl⟩):=⟨rfl,rfl,rfl,rfl,rfl,rfl,rfl,rfl,rfl,rfl⟩
theorem xW:type_of% oV.eq_1:=ah oV.eq_1
theorem Kh:type_of% pf.eq_1:=ah pf.eq_1
def aeW :=[qi 4 0]
def aeX :=[qo 10 (.mp (.make) []),qm 5 10]
def aeY :=[qm 11 0,qe 12 11,qi 13 0]
def aeZ :=[qk 14 .lss 13 12]
def ae0 :=[qj 15 6 11 13,qa 16 6 15,qo 7 (.eK [] [(.str []),zI,.aH,.aH,zI,zI]),qs 7 6 7 16]
def ae1 :=[qm 18 1,qw 19 7 6 7,qo 20 (.call false (.t 18) [(.t 19)]),qm 17 20,qz 21 17 0,qz 22 17 1,qm 8 21,qm 9 22]
def ae2 :=[qm 23 9,qn 24 .neq 23 0]
def ae3 :=[qm 25 9,qm 4 25]
def ae4 :=[qm 26 5,qm 27 8,qo 28 (.mp (.get none (.bool false) false) [(.t 26),(.t 27)])]
def ae5 :=[qi 4 6]
def RY :=[qm 29 5,qm 30 8,⟨none,none,false,.mp (.put none) [(.t 29),(.t 30),(.c (.bool true))]⟩]
def RZ :=[qn 31 .add 13 1,qm 13 31]
def fM:Abs.cZ :=
 (.seq (.ak [1,5,11,12,13,14] aeZ) (.seq (.ite (.t 14) .cU (.exit 0)) (.seq (.bB 1 (.seq (.ak [1,5,7,11,12,13] ae0) (.seq (.ak [1,5,8,9,11,12,13] ae1) (.seq (.seq (.ak [1,5,8,9,11,12,13,24] ae2) (.ite (.t 24) (.seq (.ak [4] ae3) .ret) .cU)) (.seq (.seq (.ak [1,5,8,11,12,13,28] ae4) (.ite (.t 28) (.seq (.ak [4] ae5) .ret) .cU)) (.ak [1,5,11,12,13] RY)))))) (.ak [1,5,11,12,13] RZ))))
def R0 :=[qi 4 0]
def yE:bP:=Hx [(12,[4]),(11,[1,5,11,12,13]),(10,[1,5,11,12,13]),(9,[4]),(8,[1,5,8,11,12,13,28]),(7,[4]),(6,[1,5,8,9,11,12,13,24]),(5,[1,5,8,9,11,12,13]),(4,[1,5,7,11,12,13]),(3,[1,5,11,12,13,14]),(2,[1,5,11,12,13]),(1,[0,1,5]),(0,[0,1])] [(0,[1,5,11,12,13])] [] [7] [7] [] []
def ft:Abs.Fn:=⟨2,[.t 4],
 (.seq (.ak [0,1] aeW) (.seq (.ak [0,1,5] aeX) (.seq (.seq (.ak [1,5,11,12,13] aeY) (.bB 0 (.loop [1,5,11,12,13] false fM))) (.seq (.ak [4] R0) .ret))))⟩
@[simp] theorem aHC:type_of% (show aeW=_∧aeX=_∧aeY=_∧aeZ=_∧ae0=_∧ae1=_∧ae2=_∧ae3=_∧ae4=_∧ae5=_∧RY=_∧RZ=_∧R0=_ from by simp only[zI,aeW,aeX,aeY,aeZ,ae0,ae1,ae2,ae3,ae4,ae5,RY,RZ,R0,qo,qm,qi,qa,qw,qe,qj,qk,qn,qs,qz];exact⟨rfl,rfl,rfl,rfl,rfl,rfl,rfl,rfl,rfl,rfl,rfl,rfl,rfl⟩):=⟨rfl,rfl,rfl,rfl,rfl,rfl,rfl,rfl,rfl,rfl,rfl,rfl,rfl⟩
theorem oY:type_of% fM.eq_1:=ah fM.eq_1
theorem yL:type_of% ft.eq_1:=ah ft.eq_1
def ae6 :=[qx 2 0,qo 3 (.mv (.c (.str []))),qi 4 0]
def ae7 :=[qF 5 0 2,qL 6 1 5,qA 7 4 1,qA 8 6 2,qC 9 gn [7,8],qm 3 6,qm 4 9]
def Am:bP:=jc [(1,[3,4]),(0,[1,2])]
def gz:Abs.Fn:=⟨2,[.t 3,.t 4],
 (.seq (.ak [1,2] ae6) (.seq (.ak [3,4] ae7) .ret))⟩
@[simp] theorem aHD:type_of% (show ae6=_∧ae7=_ from by simp only[zI,ae6,ae7,qo,qm,qi,qF,qL,qA,qx,qC,aj,aw];exact⟨rfl,rfl⟩):=⟨rfl,rfl⟩
theorem AD:type_of% gz.eq_1:=ah gz.eq_1
def aw0 :=[qb 4 false]
def aw1 :=[qm 5 0,qm 6 1,qc 7 oO [5,6],qn 8 .geq 7 0,qm 4 8]
def yf:bP:=jc [(1,[4]),(0,[0,1])]
def rF:Abs.Fn:=⟨2,[.t 4],
 (.seq (.ak [0,1] aw0) (.seq (.ak [4] aw1) .ret))⟩
def aw2 :=[qb 3 false]
def aw3 :=[ql 4 1 1,qm 5 0,qo 6 (.call false (.t 4) [(.t 5)]),qu 7 6,qm 3 7]
def Eb:bP:=jc [(1,[3]),(0,[0,1])]
def xc:Abs.Fn:=⟨2,[.t 3],
 (.seq (.ak [0,1] aw2) (.seq (.ak [3] aw3) .ret))⟩
def aw4 :=[qi 4 0]
def aw5 :=[qm 6 0,qe 7 6,qi 8 0]
def aw6 :=[qk 9 .lss 8 7]
def aw7 :=[qm 10 8,qm 5 10]
def aw8 :=[qm 11 1,qm 12 0,qm 13 5,qj 14 1 12 13,ql 15 1 14,qo 16 (.call false (.t 11) [(.t 15)])]
def aw9 :=[qm 17 5,qm 4 17]
def axa :=[qn 18 .add 8 1,qm 8 18]
def yk:Abs.cZ :=
 (.seq (.ak [0,1,7,8,9] aw6) (.seq (.ite (.t 9) .cU (.exit 0)) (.seq (.bB 1 (.seq (.ak [0,1,5,7,8] aw7) (.seq (.ak [0,1,5,7,8,16] aw8) (.ite (.t 16) (.seq (.ak [4] aw9) .ret) .cU)))) (.ak [0,1,7,8] axa))))
def axb :=[qi 4 (-1)]
def As:bP:=K1 [(7,[4]),(6,[0,1,7,8]),(5,[4]),(4,[0,1,5,7,8,16]),(3,[0,1,5,7,8]),(2,[0,1,7,8,9]),(1,[0,1,7,8]),(0,[0,1])] [(0,[0,1,7,8])]
def tz:Abs.Fn:=⟨2,[.t 4],
 (.seq (.ak [0,1] aw4) (.seq (.seq (.ak [0,1,7,8] aw5) (.bB 0 (.loop [0,1,7,8] false yk))) (.seq (.ak [4] axb) .ret)))⟩
def tF3:List (Nat×bP×Abs.Fn):=[(fY,FQ,lK),(gf,FV,lO),(ga,FT,lM),(gH,xu,qR),(jU,Hg,mV),(fa,uI,oq),(lk,A1,uh),(bW,MK,rT),(nZ,LC,qH),(eL,Ar,gB),(dY,sS,mB),(ek,BZ,iJ),(vj,P6,u0),(jM,Da,jA),(gr,Di,jI),(fx,DY,kr),(rh,LD,qU),(fX,FO,lI),(ie,D6,kF),(eT,Dh,jH),(oB,IB,oc),(se,ML,rU),(gj,wM,pG),(dQ,A0,gY),(iO,BW,iC),(lq,IL,ow),(pV,Hw,y7),(rH,IM,zH),(dS,vX,dP),(eS,Df,jF),(pw,J3,pg),(pv,J2,pf),(fu,yE,ft),(dD,Am,gz),(my,yf,rF),(sh,Eb,xc),(oO,As,tz)]
theorem kF3:(tF3.map fun p=>chk p)=tF3.map fun p=>some p.2.2:=by kernel_rfl
end Go.Proofs.YtfgljaglidhjiaaGreatDoor
