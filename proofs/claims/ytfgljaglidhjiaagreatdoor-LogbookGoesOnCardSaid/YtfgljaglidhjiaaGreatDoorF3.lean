import Derived.Test.YtfgljaglidhjiaaGreatDoorIds
set_option linter.all false
set_option maxRecDepth 100000
namespace Go.Proofs.YtfgljaglidhjiaaGreatDoor
open Go Go.Abs
def aa9 :=[qm 7 0,qo 8 (.mW (.t 7)),qf 9 0 8,qf 10 16 9,ql 11 1 10,qe 12 11,qn 13 .lss 12 10]
def aba:List Abs.Op:=[]
def abb :=[qm 15 2,qo 16 (.fM 1 (.t 15) (.c zI)),ql 17 1 16,qo 18 (.l9 [zI,.aK] [(0,1,(.t 17))]),qo 6 (.fm [] [zI,.aK]),⟨none,none,false,.Gt 6 [(1,2)] 2 6 (.t 18)⟩]
def abc :=[qm 19 2,qo 20 (.IF 1 (.t 19) (some (.c (.int .i64 1))) none none),qm 2 20]
def abd :=[qm 21 2,qe 22 21,qn 23 .gtr 22 0]
def abe :=[qF 26 1 6,qV 27 6 1 26,qM 28 2,qO 29 (.fM 1 (.t 28) (.c zI)),qL 30 1 29,qM 31 2,qO 32 (.fM 1 (.t 31) (.c (.int .i64 1))),qL 33 1 32,qO 34 (.l9 [zI,zI] [(0,1,(.t 30)),(1,1,(.t 33))]),qO 35 (.uU 1 2 [zI,zI] [(0,2,(.t 34))]),qy 36 2 16 27 35,qf 37 1 6,⟨none,none,false,.Gt 6 [(0,2)] 1 37 (.t 36)⟩]
def abf :=[qm 24 2,qo 25 (.IF 1 (.t 24) (some (.c (.int .i64 2))) none none),qm 2 25]
def lF:Abs.cF:=sI [0,2,6,23] abd 23 .eo (.exit 0) (.seq (.bO 1 (.cr [0,2,6] abe)) (.cr [0,2,6] abf))
def abg :=[qw 38 6 2 6,qc 39 nO [38]]
def abh:List Abs.Op:=[]
def P5 :=[qM 41 0,qM 42 0,qO 43 (.mW (.t 42)),qF 44 0 43,qF 45 16 44,qL 46 1 45,qW 47 6 2 6,qO 48 (.uU 1 2 [zI,.aK] [(0,2,(.t 47))]),qO 49 (.app 2 32 (.t 46) (.t 48)),qo 50 (.mW (.t 41)),qf 51 0 50,qf 52 16 51,⟨none,none,false,.st [(0,2)] 1 (.t 52) (.t 49)⟩]
def kY:Abs.Fn:=⟨3,[],.seq (.iY [0,2] aa9 ⟨some 14,none,false,.call false (.c (.fn aZ [] [])) [(.t 13),(.c (.int .i64 3))]⟩ aba) (sR [0,2,6] abb (sL [0,2,6] abc 0 [0,2,6] false lF (.seq (.seq (.cJ [6,1000006]) (.iY [0,6] abg ⟨some 40,none,false,.call false (.c (.fn bS [] [])) [(.t 39)]⟩ abh)) (.cr [] P5))))⟩
attribute [simp] aa9 aba abb abc abd abe abf abg abh P5
def abi :=[qm 21 0,qc 22 gj [21],qm 6 22]
def abj :=[qm 23 6,qe 24 23,qn 25 .gtr 24 0,qm 26 25,qg 26 true (qm 27 0),qg 26 true (qo 28 (.mW (.t 27))),qg 26 true (qf 29 0 28),qg 26 true (qf 30 10 29),qg 26 true (ql 31 1 30),qg 26 true (qe 32 31),qg 26 true (qn 33 .gtr 32 0),qp 34 26 33]
def abk:List Abs.Op:=[]
def abl :=[qM 36 2,qO 37 (.fM 1 (.t 36) (.c zI)),qL 38 1 37,qM 39 2,qO 40 (.fM 1 (.t 39) (.c (.int .i64 1))),qL 41 1 40,qM 42 2,qO 43 (.fM 1 (.t 42) (.c (.int .i64 2))),qL 44 1 43,qM 45 2,qO 46 (.fM 1 (.t 45) (.c (.int .i64 3))),qL 47 1 46,qM 7 38,qM 8 41,qM 9 44,qm 10 47]
def abm :=[qm 48 7,qm 49 0,qo 50 (.mW (.t 49)),qf 51 0 50,qf 52 0 51,qf 53 8 52,ql 54 1 53,qe 55 54,qn 56 .sub 55 1,qo 57 (.call false (.c (.fn cC [] [])) [(.t 48),(.c zI),(.t 56)]),qm 58 57,qg 58 true (qm 59 8),qg 58 true (qm 60 0),qg 58 true (qo 61 (.mW (.t 60))),qg 58 true (qf 62 0 61),qg 58 true (qf 63 0 62),qg 58 true (qf 64 4 63),qg 58 true (ql 65 1 64),qg 58 true (qe 66 65),qg 58 true (qn 67 .sub 66 1),qg 58 true (qo 68 (.call false (.c (.fn cC [] [])) [(.t 59),(.c zI),(.t 67)])),qp 69 58 68,qm 70 69,qg 70 true (qm 71 9),qg 70 true (qm 72 0),qg 70 true (qo 73 (.mW (.t 72))),qg 70 true (qf 74 0 73),qg 70 true (qf 75 16 74),qg 70 true (ql 76 1 75),qg 70 true (qe 77 76),qg 70 true (qn 78 .sub 77 1),qg 70 true (qo 79 (.call false (.c (.fn cC [] [])) [(.t 71),(.c zI),(.t 78)])),qp 80 70 79,qm 81 80,qg 81 true (qm 82 10),qg 81 true (qo 83 (.call false (.c (.fn cC [] [])) [(.t 82),(.c zI),(.c (.int .i64 1000))])),qp 84 81 83]
def abn:List Abs.Op:=[]
def abo :=[qo 11 (.qh 1)]
def abp :=[qm 86 6,qe 87 86,qi 88 0]
def abq :=[qk 89 .lss 88 87]
def abr :=[qj 90 4 86 88,qa 91 4 90,qo 13 (.fm [] [(.str []),.aK,(.bool false),zI]),qs 13 4 13 91]
def P6 :=[qM 93 0,qO 94 (.mW (.t 93)),qF 95 0 94,qF 96 0 95,qA 97 9 96,qF 98 0 13,qW 99 13 2 98,qM 100 0,qO 101 (.mW (.t 100)),qF 102 0 101,qF 103 10 102,qL 104 1 103,qC 105 tQ [97,99,104],qM 92 105,qZ 106 92 0,qZ 107 92 1,qO 14 (.fm [] [.aK,.aK]),qS 14 2 14 106,qm 15 107]
def P7 :=[qm 108 15]
def P8:List Abs.Op:=[]
def P9 :=[qF 110 1 14,qV 111 14 1 110,qM 112 0,qO 113 (.mW (.t 112)),qF 114 0 113,qF 115 10 114,qL 116 1 115,qE 117 116,qN 118 .sub 117 1,qJ 119 1 111 118,qL 120 1 119,qM 121 7,qJ 122 3 120 121,qA 123 3 122,qO 16 (.fm [] [zI,zI,zI]),qs 16 3 16 123]
def Qa :=[qM 125 0,qO 126 (.mW (.t 125)),qF 127 0 126,qF 128 0 127,qF 129 4 128,qL 130 1 129,qM 131 8,qF 132 0 16,qV 133 16 1 132,qF 134 1 16,qV 135 16 1 134,qO 136 (.l9 [zI,zI,zI,zI] [(0,1,(.t 133)),(1,1,(.t 135))]),qC 137 qX [130,131,136],qM 124 137,qZ 138 124 0,qZ 139 124 1,qO 17 (.fm [] [zI,zI,zI,zI,zI,zI,zI,zI,zI,zI]),qS 17 10 17 138,qm 15 139]
def Qb :=[qm 140 15]
def Qc:List Abs.Op:=[]
def Qd :=[qM 143 0,qO 144 (.mW (.t 143)),qF 145 0 144,qF 146 16 145,qL 147 1 146,qM 148 9,qJ 149 2 147 148,qA 150 2 149,qF 151 0 17,qW 152 17 4 151,qC 153 rO [150,152],qM 142 153,qZ 154 142 0,qZ 155 142 1,qZ 156 142 2,qO 18 (.fm [] [zI,zI,zI,zI]),qS 18 4 18 154,qM 19 155,qm 15 156]
def Qe :=[qm 157 15]
def Qf:List Abs.Op:=[]
def Qg :=[qm 159 11,qm 160 19,qo 161 (.uU 1 1 [zI] [(0,1,(.t 160))]),qy 162 1 8 159 161,qm 11 162]
def Qh :=[qn 163 .add 88 1,qm 88 163]
def kA:Abs.cF:=sR [0,7,8,9,10,11,86,87,88,89] abq (.seq (.ite (.t 89) .eo (.exit 0)) (.seq (.bO 1 (sR [0,7,8,9,10,11,13,86,87,88] abr (sR [0,7,8,9,10,11,14,15,86,87,88] P6 (.seq (.iY [0,7,8,9,10,11,14,86,87,88] P7 ⟨some 109,none,false,.call false (.c (.fn bS [] [])) [(.t 108)]⟩ P8) (sR [0,7,8,9,10,11,16,86,87,88] P9 (sR [0,7,8,9,10,11,15,17,86,87,88] Qa (.seq (.iY [0,7,8,9,10,11,17,86,87,88] Qb ⟨some 141,none,false,.call false (.c (.fn bS [] [])) [(.t 140)]⟩ Qc) (sR [0,7,8,9,10,11,15,19,86,87,88] Qd (.seq (.iY [0,7,8,9,10,11,19,86,87,88] Qe ⟨some 158,none,false,.call false (.c (.fn bS [] [])) [(.t 157)]⟩ Qf) (.cr [0,7,8,9,10,11,86,87,88] Qg)))))))))) (.cr [0,7,8,9,10,11,86,87,88] Qh)))
def Qi :=[qm 164 11,qc 165 rN [164],qo 20 (.fm [] [zI,zI]),qs 20 2 20 165]
def Qj :=[qM 166 0,qM 167 0,qO 168 (.mW (.t 167)),qF 169 0 168,qF 170 17 169,qL 171 1 170,qM 172 0,qO 173 (.mW (.t 172)),qF 174 0 173,qF 175 10 174,qL 176 1 175,qE 177 176,qM 178 7,qW 179 20 2 20,qF 180 0 20,qV 181 20 1 180,qM 182 10,qK 183 .mul 181 182,qF 184 1 20,qV 185 20 1 184,qM 186 10,qK 187 .mul 185 186,qO 188 (.l9 [zI,zI] [(0,1,(.t 183)),(1,1,(.t 187))]),qO 189 (.l9 [zI,zI,zI,zI,zI,zI] [(0,1,(.t 177)),(1,1,(.t 178)),(2,2,(.t 179)),(4,2,(.t 188))]),qO 190 (.uU 1 6 [zI,zI,zI,zI,zI,zI] [(0,6,(.t 189))]),qO 191 (.app 6 48 (.t 171) (.t 190)),qo 192 (.mW (.t 166)),qf 193 0 192,qf 194 17 193,⟨none,none,false,.st [(0,6)] 1 (.t 194) (.t 191)⟩]
def kW:Abs.Fn:=⟨3,[],sR [0,2,6] abi (.seq (.iY [0,2,6] abj ⟨some 35,none,false,.call false (.c (.fn aZ [] [])) [(.t 34),(.c (.int .i64 8))]⟩ abk) (sR [0,6,7,8,9,10] abl (.seq (.iY [0,6,7,8,9,10] abm ⟨some 85,none,false,.call false (.c (.fn aZ [] [])) [(.t 84),(.c (.int .i64 2))]⟩ abn) (sR [0,6,7,8,9,10,11] abo (sL [0,7,8,9,10,11,86,87,88] abp 0 [0,7,8,9,10,11,86,87,88] false kA (.seq (.seq (.cJ [11]) (.cr [0,7,10,20] Qi)) (.cr [] Qj)))))))⟩
attribute [simp] abi abj abk abl abm abn abo abp abq abr P6 P7 P8 P9 Qa Qb Qc Qd Qe Qf Qg Qh Qi Qj
def aqC :=[qi 4 0]
def aqD :=[qm 6 0,qe 7 6,qi 8 0]
def aqE :=[qk 9 .lss 8 7]
def aqF :=[qm 10 8,qm 5 10]
def aqG :=[qm 11 1,qm 12 0,qm 13 5,qj 14 3 12 13,qa 15 3 14,qo 16 (.call false (.t 11) [(.t 15)])]
def aqH :=[qm 17 5,qm 4 17]
def aqI :=[qn 18 .add 8 1,qm 8 18]
def uV:Abs.cF:=sR [0,1,7,8,9] aqE (.seq (.ite (.t 9) .eo (.exit 0)) (.seq (.bO 1 (sR [0,1,5,7,8] aqF (sR [0,1,5,7,8,16] aqG (.ite (.t 16) (sR [4] aqH .ret) .eo)))) (.cr [0,1,7,8] aqI)))
def aqJ :=[qi 4 (-1)]
def pS:Abs.Fn:=⟨2,[.t 4],sR [0,1] aqC (sL [0,1,7,8] aqD 0 [0,1,7,8] false uV (sR [4] aqJ .ret))⟩
def abO :=[qF 6 0 1,qF 7 0 6,qL 8 1 7,qF 9 0 1,qF 10 1 9,qL 11 1 10,qM 3 8,qm 4 11]
def abP :=[qa 12 9 1,qc 13 dn [12],qi 14 0]
def abQ :=[qk 15 .lss 14 13]
def abR :=[qm 16 14,qm 5 16]
def abS :=[qm 17 5,qn 18 .add 17 1,qm 19 3,qk 20 .rem 18 19,qn 21 .neq 20 0,qm 22 21,qg 22 true (qm 23 0),qg 22 true (qm 24 5),qg 22 true (qm 25 5),qg 22 true (qn 26 .add 25 1),qg 22 true (qo 27 (.l9 [zI,zI] [(0,1,(.t 24)),(1,1,(.t 26))])),qg 22 true (qo 28 (.call false (.t 23) [(.t 27)])),qg 22 true (qu 29 28),qp 30 22 29]
def abT :=[qm 31 5,qm 32 3,qk 33 .quo 31 32,qm 34 4,qk 35 .rem 33 34,qm 36 4,qn 37 .sub 36 1,qk 38 .neq 35 37,qm 39 38,qg 39 true (qm 40 0),qg 39 true (qm 41 5),qg 39 true (qm 42 5),qg 39 true (qm 43 3),qg 39 true (qk 44 .add 42 43),qg 39 true (qo 45 (.l9 [zI,zI] [(0,1,(.t 41)),(1,1,(.t 44))])),qg 39 true (qo 46 (.call false (.t 40) [(.t 45)])),qg 39 true (qu 47 46),qp 48 39 47]
def abU :=[qm 49 5,qm 50 3,qm 51 4,qk 52 .mul 50 51,qk 53 .add 49 52,qa 54 9 1,qc 55 dn [54],qk 56 .lss 53 55,qm 57 56,qg 57 true (qm 58 0),qg 57 true (qm 59 5),qg 57 true (qm 60 5),qg 57 true (qm 61 3),qg 57 true (qm 62 4),qg 57 true (qk 63 .mul 61 62),qg 57 true (qk 64 .add 60 63),qg 57 true (qo 65 (.l9 [zI,zI] [(0,1,(.t 59)),(1,1,(.t 64))])),qg 57 true (qo 66 (.call false (.t 58) [(.t 65)])),qg 57 true (qu 67 66),qp 68 57 67]
def abV :=[qn 69 .add 14 1,qm 14 69]
def mM:Abs.cF:=sR [0,1,3,4,13,14,15] abQ (.seq (.ite (.t 15) .eo (.exit 0)) (.seq (.bO 1 (sR [0,1,3,4,5,13,14] abR (sI [0,1,3,4,5,13,14,30] abS 30 .ret .eo (sI [0,1,3,4,5,13,14,48] abT 48 .ret .eo (sR [0,1,3,4,13,14,68] abU (.ite (.t 68) .ret .eo)))))) (.cr [0,1,3,4,13,14] abV)))
def pk:Abs.Fn:=⟨2,[],sR [0,1,3,4] abO (sR [0,1,3,4,13,14] abP (.bO 0 (.loop [0,1,3,4,13,14] false mM)))⟩
attribute [simp] abO abP abQ abR abS abT abU abV
def aqK :=[qb 4 false]
def aqL :=[qm 5 0,qm 6 1,qc 7 gz [5,6],qn 8 .geq 7 0,qm 4 8]
def nG:Abs.Fn:=⟨2,[.t 4],sR [0,1] aqK (sR [4] aqL .ret)⟩
def aqM :=[qx 2 0,qb 3 false]
def aqN :=[ql 4 1 1,qa 5 3 2,qo 6 (.call false (.t 4) [(.t 5)]),qu 7 6,qm 3 7]
def tO:Abs.Fn:=⟨2,[.t 3],sR [1,2] aqM (sR [3] aqN .ret)⟩
def abW :=[qm 2 0,qn 3 .eql 2 0,qm 4 0]
def abX:List Abs.Op:=[]
def rK:Abs.Fn:=⟨1,[],.iY [] abW ⟨some 5,none,false,.call false (.c (.fn aZ [] [])) [(.t 3),(.t 4)]⟩ abX⟩
attribute [simp] abW abX
def abY :=[qx 1 0,qi 2 0]
def abZ :=[qa 3 9 1,qc 4 jL [3],qu 5 4]
def ab0 :=[qi 2 1]
def ab1 :=[qi 2 0]
def tu:Abs.Fn:=⟨1,[.t 2],.seq (.seq (.cJ [0]) (.cr [1] abY)) (sE [5] abZ 5 [2] ab0 (sR [2] ab1 .ret))⟩
attribute [simp] abY abZ ab0 ab1
def ab2 :=[qo 2 (.qh 3)]
def ab3 :=[qm 3 0,qo 4 (.SX false false (.t 3))]
def ab4 :=[qo 2 (.qh 3)]
def ab5 :=[qo 5 (.MX 0 3 [] []),qm 6 0,qy 7 3 24 5 6,qm 2 7]
def gJ:Abs.Fn:=⟨1,[.t 2],sR [0] ab2 (sE [0,4] ab3 4 [2] ab4 (sR [2] ab5 .ret))⟩
attribute [simp] ab2 ab3 ab4 ab5
def aqO :=[qb 4 false]
def aqP :=[qm 5 0,qm 6 1,qc 7 dz [5,6],qn 8 .geq 7 0,qm 4 8]
def lS:Abs.Fn:=⟨2,[.t 4],sR [0,1] aqO (sR [4] aqP .ret)⟩
def acu :=[qx 2 0,qb 3 false]
def acv :=[qf 4 0 2,qf 5 0 4,ql 6 1 5,ql 7 1 1,qo 8 (.zf (.seq false) [(.t 6),(.t 7)]),qm 3 8]
def lE:Abs.Fn:=⟨2,[.t 3],sR [1,2] acu (sR [3] acv .ret)⟩
attribute [simp] acu acv
def acw :=[qx 2 0,qx 3 1,qo 4 (.mv (.c .aK)),qi 5 0]
def acx :=[qa 9 9 2,qa 10 2 3,qc 11 tF [9,10],qm 8 11,qz 12 8 0,qz 13 8 1,qo 6 (.fm [] [zI,zI,zI,zI,.aK,zI,zI,zI,.aK,(.str []),.aK]),qs 6 11 6 12,qm 7 13]
def acy :=[qm 14 7,qn 15 .neq 14 0]
def acz :=[qm 16 7,qo 4 (.mv (.c .aK)),qm 5 16]
def acA :=[qw 17 6 11 6,qc 18 je [17],qm 4 18,qi 5 0]
def uq:Abs.Fn:=⟨2,[.t 4,.t 5],.seq (.seq (.cJ [0]) (.cr [2,3] acw)) (sR [6,7] acx (sE [6,7,15] acy 15 [4,5] acz (sR [4,5] acA .ret)))⟩
attribute [simp] acw acx acy acz acA
def acB :=[qx 2 0,qx 3 1,qi 4 0]
def acC :=[qa 5 4 2,qo 6 (.xW cQ [(.t 5)] []),qo 7 (.xW dR [] [(.t 2),(.t 3)]),qo 8 (.uU 2 1 [.iW,.iW] [(0,1,(.t 6)),(1,1,(.t 7))]),qc 9 nY [8],qm 4 9]
def mA:Abs.Fn:=⟨2,[.t 4],sR [2,3] acB (sR [4] acC .ret)⟩
attribute [simp] acB acC
def acD :=[qx 4 1]
def acE :=[qm 9 0,qo 10 (.mW (.t 9)),qf 11 0 10,qf 12 9 11,ql 13 1 12,qe 14 13,qi 15 0]
def acF :=[qk 16 .lss 15 14]
def acG :=[qm 17 15,qj 18 4 13 15,qa 19 4 18,qo 7 (.fm [] [(.str []),.aK,(.bool false),zI]),qm 6 17,qs 7 4 7 19]
def acH :=[qf 20 2 7,qv 21 7 1 20,qu 22 21]
def acI :=[qm 23 2,qf 24 0 7,qw 25 7 2 24,qo 26 (.call false (.t 23) [(.t 25)]),qm 8 26]
def acJ :=[qm 27 8,qf 28 0 4,ql 29 1 28,qf 30 1 4,ql 31 1 30,qc 32 cC [27,29,31],qu 33 32]
def acK :=[qM 34 0,qO 35 (.mW (.t 34)),qF 36 0 35,qF 37 9 36,qL 38 1 37,qM 39 6,qM 40 0,qO 41 (.mW (.t 40)),qF 42 0 41,qF 43 9 42,qL 44 1 43,qM 45 6,qM 46 0,qO 47 (.mW (.t 46)),qF 48 20 47,qL 49 1 48,qJ 50 4 38 39,qF 51 2 50,⟨none,none,true,.st [] 1 (.t 51) (.c (.bool false))⟩,qj 52 4 44 45,qf 53 3 52,qt 1 53 49]
def acL :=[qM 54 0,qO 55 (.mW (.t 54)),qF 56 19 55,qL 57 1 56,qM 58 6,qM 59 0,qO 60 (.mW (.t 59)),qF 61 20 60,qL 62 1 61,qM 63 8,qF 64 0 4,qL 65 1 64,qF 66 1 4,qL 67 1 66,qO 68 (.l9 [zI,zI,zI,zI] [(0,1,(.t 62)),(1,1,(.t 63)),(2,1,(.t 65)),(3,1,(.t 67))]),qj 69 4 57 58,qt 4 69 68]
def acM :=[qn 70 .add 15 1,qm 15 70]
def jn:Abs.cF:=sR [0,2,4,13,14,15,16] acF (.seq (.ite (.t 16) .eo (.exit 0)) (.seq (.bO 1 (sR [0,2,4,6,7,13,14,15] acG (sI [0,2,4,6,7,13,14,15,22] acH 22 (.exit 1) .eo (sR [0,2,4,6,8,13,14,15] acI (sR [0,2,4,6,8,13,14,15,33] acJ (.ite (.t 33) (sR [0,2,4,6,8,13,14,15] acK (.cr [0,2,4,13,14,15] acL)) .eo)))))) (.cr [0,2,4,13,14,15] acM)))
def mI:Abs.Fn:=⟨3,[],sR [0,2,4] acD (sR [0,2,4,13,14,15] acE (.bO 0 (.loop [0,2,4,13,14,15] false jn)))⟩
attribute [simp] acD acE acF acG acH acI acJ acK acL acM
def acN :=[qx 3 0,qi 4 0]
def acO :=[qL 8 1 1,qO 9 (.mW (.t 8)),qF 10 0 9,qF 11 0 10,qF 12 0 11,qA 13 4 12,qA 14 2 3,qA 15 6 2,qC 16 vS [13,14,15],qM 7 16,qZ 17 7 0,qZ 18 7 1,qM 5 17,qm 6 18]
def acP :=[qm 19 5,qm 4 19]
def nv:Abs.Fn:=⟨3,[.t 4],sR [1,2,3] acN (sR [5] acO (sR [4] acP .ret))⟩
attribute [simp] acN acO acP
def acQ :=[qx 6 2,qo 8 (.mv (.c .aK)),qi 9 0]
def acR :=[qo 10 (.mv (.c (.fn kO [] [])))]
def acS :=[qm 15 0,qe 16 15,qn 17 .gtr 16 500,qm 14 17]
def acT :=[qo 8 (.mv (.c .aK)),qi 9 3]
def acU :=[qm 19 0,qm 20 10,qc 21 ix [19,20],qu 22 21,qm 23 22,qg 23 false (qm 24 1),qg 23 false (qe 25 24),qg 23 false (qm 26 0),qg 23 false (qe 27 26),qg 23 false (qk 28 .neq 25 27),qP 29 23 28,qm 30 29,qg 30 false (qm 31 1),qg 30 false (qo 32 (.call false (.c (.fn pM [] [])) [(.t 31),(.c (.fn rG [] []))])),qg 30 false (qu 33 32),qP 34 30 33,qm 35 34,qg 35 false (qm 36 10),qg 35 false (qm 37 3),qg 35 false (qo 38 (.call false (.t 36) [(.t 37)])),qg 35 false (qu 39 38),qP 40 35 39,qm 18 40]
def acV :=[qo 8 (.mv (.c .aK)),qi 9 1]
def acW :=[qo 42 (.Bw 3 1 (.t 6) (.c (.int .u8 0))),ql 43 1 42,qn 44 .gtr 43 1000,qm 45 44,qg 45 false (qo 46 (.Bw 3 1 (.t 6) (.c (.int .u8 1)))),qg 45 false (ql 47 1 46),qg 45 false (qo 48 (.Bw 3 1 (.t 6) (.c (.int .u8 0)))),qg 45 false (ql 49 1 48),qg 45 false (qk 50 .gtr 47 49),qP 51 45 50,qm 52 51,qg 52 false (qo 53 (.Bw 3 1 (.t 6) (.c (.int .u8 2)))),qg 52 false (ql 54 1 53),qg 52 false (qo 55 (.Bw 3 1 (.t 6) (.c (.int .u8 1)))),qg 52 false (ql 56 1 55),qg 52 false (qk 57 .gtr 54 56),qP 58 52 57,qm 59 58,qg 59 false (qo 60 (.Bw 3 1 (.t 6) (.c (.int .u8 2)))),qg 59 false (ql 61 1 60),qg 59 false (qn 62 .lss 61 0),qP 63 59 62,qm 41 63]
def acX :=[qo 8 (.mv (.c .aK)),qi 9 1]
def acY :=[qm 64 0,qe 65 64,qo 66 (.mks 1 8 [zI] (.t 65) (.t 65)),qm 11 66]
def acZ :=[qm 67 0,qe 68 67,qi 69 0]
def Qk :=[qk 70 .lss 69 68]
def Ql :=[qm 71 69,qj 72 1 67 69,ql 73 1 72,qm 12 71,qm 13 73]
def Qm :=[qm 74 11,qm 75 12,qm 76 13,qm 77 1,qm 78 12,qj 79 1 77 78,ql 80 1 79,qo 81 (.Bw 3 1 (.t 6) (.t 80)),ql 82 1 81,qk 83 .mul 76 82,qn 84 .quo 83 1000,qj 85 1 74 75,qt 1 85 84]
def Qo :=[qm 86 12,qn 87 .gtr 86 0]
def Qp :=[qM 88 11,qM 89 12,qM 90 11,qM 91 12,qJ 92 1 90 91,qL 93 1 92,qM 94 11,qM 95 12,qN 96 .sub 95 1,qJ 97 1 94 96,qL 98 1 97,qM 99 3,qK 100 .add 98 99,qO 101 (.mn (.t 93) (.t 100)),qj 102 1 88 89,qt 1 102 101]
def Qq :=[qn 103 .add 69 1,qm 69 103]
def wF:Abs.cF:=sR [1,3,6,11,67,68,69,70] Qk (.seq (.ite (.t 70) .eo (.exit 1)) (.seq (.bO 2 (sR [1,3,6,11,12,13,67,68,69] Ql (sR [1,3,6,11,12,67,68,69] Qm (sR [1,3,6,11,12,67,68,69,87] Qo (.ite (.t 87) (.cr [1,3,6,11,67,68,69] Qp) .eo))))) (.cr [1,3,6,11,67,68,69] Qq)))
def Qr :=[qm 104 11,qm 8 104,qi 9 0]
def tv:Abs.Fn:=⟨4,[.t 8,.t 9],sR [0,1,3,6] acQ (sR [0,1,3,6,10] acR (.seq (.bO 0 (sR [0,1,3,6,10,14] acS (.ite (.t 14) (sR [8,9] acT .ret) (sR [0,1,3,6,18] acU (.ite (.t 18) (sR [8,9] acV .ret) (sR [0,1,3,6,41] acW (.ite (.t 41) (sR [8,9] acX .ret) .eo))))))) (sR [0,1,3,6,11] acY (sL [1,3,6,11,67,68,69] acZ 1 [1,3,6,11,67,68,69] false wF (sR [8,9] Qr .ret)))))⟩
attribute [simp] acQ acR acS acT acU acV acW acX acY acZ Qk Ql Qm Qo Qp Qq Qr
def ac0 :=[qo 2 (.mv (.c .aK))]
def ac1 :=[qm 3 0,qo 4 (.mW (.t 3)),qf 5 0 4,qf 6 9 5,ql 7 1 6,qo 8 (.call false (.c (.fn dT [] [])) [(.t 7),(.c (.fn eU [] []))]),qm 2 8]
def oj:Abs.Fn:=⟨1,[.t 2],sR [0] ac0 (sR [2] ac1 .ret)⟩
attribute [simp] ac0 ac1
def ac2 :=[qo 2 (.qh 1)]
def ac3 :=[qm 3 0,qo 4 (.SX false false (.t 3))]
def ac4 :=[qo 2 (.qh 1)]
def ac5 :=[qo 5 (.MX 0 1 [] []),qm 6 0,qy 7 1 24 5 6,qm 2 7]
def ke:Abs.Fn:=⟨1,[.t 2],sR [0] ac2 (sE [0,4] ac3 4 [2] ac4 (sR [2] ac5 .ret))⟩
attribute [simp] ac2 ac3 ac4 ac5
def ac6 :=[qx 4 0,qi 5 0]
def ac7 :=[qL 10 1 1,qO 11 (.mW (.t 10)),qF 12 0 11,qF 13 0 12,qA 14 9 13,qA 15 2 4,qO 16 (.uU 1 2 [(.str []),.aK] [(0,2,(.t 15))]),qL 17 1 1,qO 18 (.mW (.t 17)),qF 19 0 18,qF 20 10 19,qL 21 1 20,qA 22 5 2,qO 23 (.uU 1 5 [zI,(.int .u8 0),zI,zI,zI] [(0,5,(.t 22))]),qC 24 mw [14,16,21,23],qM 9 24,qZ 25 9 0,qZ 26 9 1,qZ 27 9 2,qM 6 25,qM 7 26,qm 8 27]
def ac8 :=[qm 29 7,qe 30 29,qn 31 .eql 30 0,qm 28 31]
def ac9 :=[ql 32 1 3,qo 33 (.fM 1 (.t 32) (.c (.int .i64 2))),ql 34 1 33,qm 5 34]
def ada :=[qm 36 7,qo 37 (.fM 3 (.t 36) (.c zI)),qf 38 2 37,ql 39 1 38,qn 40 .gtr 39 0,qm 35 40]
def adb :=[qL 41 1 3,qO 42 (.fM 1 (.t 41) (.c (.int .i64 3))),qL 43 1 42,qM 44 7,qO 45 (.fM 3 (.t 44) (.c zI)),qF 46 2 45,qL 47 1 46,qk 48 .add 43 47,qm 5 48]
def ade :=[qL 49 1 3,qO 50 (.fM 1 (.t 49) (.c (.int .i64 2))),qL 51 1 50,qM 52 7,qO 53 (.fM 3 (.t 52) (.c zI)),qF 54 2 53,qL 55 1 54,qk 56 .add 51 55,qm 5 56]
def mH:Abs.Fn:=⟨4,[.t 5],sR [1,2,3,4] ac6 (sR [3,7] ac7 (.seq (.bO 0 (sR [3,7,28] ac8 (.ite (.t 28) (sR [5] ac9 .ret) (sR [3,7,35] ada (.ite (.t 35) (sR [5] adb .ret) .eo))))) (sR [5] ade .ret)))⟩
attribute [simp] ac6 ac7 ac8 ac9 ada adb ade
def adf :=[qx 1 0,qi 2 0]
def adg :=[qa 3 2 1,qc 4 jI [3],qu 5 4]
def adh :=[qi 2 1]
def adi :=[qi 2 0]
def rm:Abs.Fn:=⟨1,[.t 2],sR [1] adf (sE [5] adg 5 [2] adh (sR [2] adi .ret))⟩
attribute [simp] adf adg adh adi
def adj :=[qo 2 (.fm [] [zI,zI])]
def adk :=[qm 3 0,qc 4 oR [3],qm 5 0,qc 6 oQ [5],qo 7 (.l9 [zI,zI] [(0,1,(.t 4)),(1,1,(.t 6))]),qs 2 2 2 7]
def uj:Abs.Fn:=⟨1,[.v 2 true 2],sR [0,2] adj (sR [2] adk .ret)⟩
attribute [simp] adj adk
def aqQ :=[qi 4 0]
def aqR :=[qm 6 0,qe 7 6,qi 8 0]
def aqS :=[qk 9 .lss 8 7]
def aqT :=[qm 10 8,qm 5 10]
def aqU :=[qm 11 1,qm 12 0,qm 13 5,qj 14 3 12 13,qa 15 3 14,qo 16 (.call false (.t 11) [(.t 15)])]
def aqV :=[qm 17 5,qm 4 17]
def aqW :=[qn 18 .add 8 1,qm 8 18]
def uA:Abs.cF:=sR [0,1,7,8,9] aqS (.seq (.ite (.t 9) .eo (.exit 0)) (.seq (.bO 1 (sR [0,1,5,7,8] aqT (sR [0,1,5,7,8,16] aqU (.ite (.t 16) (sR [4] aqV .ret) .eo)))) (.cr [0,1,7,8] aqW)))
def aqX :=[qi 4 (-1)]
def o4:Abs.Fn:=⟨2,[.t 4],sR [0,1] aqQ (sL [0,1,7,8] aqR 0 [0,1,7,8] false uA (sR [4] aqX .ret))⟩
def adl :=[qi 2 0]
def adm :=[qa 3 4 0,ql 4 1 1,qc 5 iK [3,4],qm 2 5]
def kr:Abs.Fn:=⟨2,[.t 2],sR [0,1] adl (sR [2] adm .ret)⟩
attribute [simp] adl adm
def adn :=[qx 2 0,qi 4 0]
def ado :=[qm 5 1,qe 6 5,qn 7 .gtr 6 12]
def adp :=[qi 4 3]
def adq :=[qm 8 1,qo 9 (.xW dE [] [(.t 2)]),qc 10 fy [8,9],qm 4 10]
def lu:Abs.Fn:=⟨2,[.t 4],sR [1,2] adn (sE [1,2,7] ado 7 [4] adp (sR [4] adq .ret))⟩
attribute [simp] adn ado adp adq
def ads :=[qb 2 false]
def adt :=[qm 3 0,qo 4 (.call false (.c (.fn cm [] [])) [(.t 3),(.c zI),(.c (.int .i64 1000000000))]),qm 2 4]
def rE:Abs.Fn:=⟨1,[.t 2],sR [0] ads (sR [2] adt .ret)⟩
attribute [simp] ads adt
def aqY :=[qx 3 1,qb 4 false]
def aqZ :=[qm 5 0,qo 6 (.xW rP [] [(.t 3)]),qc 7 lQ [5,6],qu 8 7,qm 4 8]
def xx:Abs.Fn:=⟨2,[.t 4],sR [0,3] aqY (sR [4] aqZ .ret)⟩
def aq0 :=[qb 2 false]
def aq1 :=[qm 3 0,qo 4 (.bin .leq (.t 3) (.c (.int .u8 2))),qm 2 4]
def yk:Abs.Fn:=⟨1,[.t 2],sR [0] aq0 (sR [2] aq1 .ret)⟩
def adu :=[qo 4 (.qh 4)]
def adv :=[qm 7 0,qe 8 7,qi 9 0]
def adw :=[qk 10 .lss 9 8]
def adx :=[qj 11 4 7 9,qa 12 4 11,qo 6 (.fm [] [(.str []),.aK,(.bool false),zI]),qs 6 4 6 12]
def ady :=[qm 13 1,qw 14 6 4 6,qo 15 (.call false (.t 13) [(.t 14)])]
def adz :=[qm 16 4,qw 17 6 4 6,qo 18 (.uU 1 4 [(.str []),.aK,(.bool false),zI] [(0,4,(.t 17))]),qy 19 4 56 16 18,qm 4 19]
def adA :=[qn 20 .add 9 1,qm 9 20]
def eJ:Abs.cF:=sR [1,4,7,8,9,10] adw (.seq (.ite (.t 10) .eo (.exit 0)) (.seq (.bO 1 (sR [1,4,6,7,8,9] adx (sR [1,4,6,7,8,9,15] ady (.ite (.t 15) (.cr [1,4,7,8,9] adz) .eo)))) (.cr [1,4,7,8,9] adA)))
def adB :=[qm 21 4,qm 4 21]
def fS:Abs.Fn:=⟨2,[.t 4],sR [0,1,4] adu (sL [1,4,7,8,9] adv 0 [1,4,7,8,9] false eJ (sR [4] adB .ret))⟩
attribute [simp] adu adv adw adx ady adz adA adB
def adC :=[qx 1 0,qb 2 false]
def adD :=[qf 3 2 1,ql 4 1 3,qm 2 4]
def mG:Abs.Fn:=⟨1,[.t 2],sR [1] adC (sR [2] adD .ret)⟩
attribute [simp] adC adD
def adE :=[qi 2 0]
def adF :=[qm 5 0,qe 6 5,qn 7 .lss 6 1]
def adG :=[qo 8 (.mki 9 (.c (.str [115,108,105,99,101,115,46,77,105,110,58,32,101,109,112,116,121,32,108,105,115,116])))]
def adH:List Abs.Op:=[]
def adI :=[qm 9 0,qo 10 (.fM 1 (.t 9) (.c zI)),ql 11 1 10,qm 3 11]
def adJ :=[qi 4 1]
def adK :=[qm 12 4,qm 13 0,qe 14 13,qk 15 .lss 12 14]
def adL :=[qm 18 3,qm 19 0,qm 20 4,qj 21 1 19 20,ql 22 1 21,qo 23 (.mn (.t 18) (.t 22)),qm 3 23]
def adM :=[qm 16 4,qn 17 .add 16 1,qm 4 17]
def oC:Abs.cF:=sI [0,3,4,15] adK 15 .eo (.exit 0) (.seq (.bO 1 (.cr [0,3,4] adL)) (.cr [0,3,4] adM))
def Qs :=[qm 24 3,qm 2 24]
def sk:Abs.Fn:=⟨1,[.t 2],sR [0] adE (sI [0,7] adF 7 (.iY [0] adG ⟨none,none,false,.MZ (.t 8)⟩ adH) .eo (sR [0,3] adI (sL [0,3,4] adJ 0 [0,3,4] false oC (sR [2] Qs .ret))))⟩
attribute [simp] adE adF adG adH adI adJ adK adL adM Qs
def adN :=[qi 2 0]
def adO :=[qm 5 0,qe 6 5,qn 7 .lss 6 1]
def adP :=[qo 8 (.mki 9 (.c (.str [115,108,105,99,101,115,46,77,97,120,58,32,101,109,112,116,121,32,108,105,115,116])))]
def adQ:List Abs.Op:=[]
def adR :=[qm 9 0,qo 10 (.fM 1 (.t 9) (.c zI)),ql 11 1 10,qm 3 11]
def adS :=[qi 4 1]
def adT :=[qm 12 4,qm 13 0,qe 14 13,qk 15 .lss 12 14]
def adU :=[qm 18 3,qm 19 0,qm 20 4,qj 21 1 19 20,ql 22 1 21,qo 23 (.mx (.t 18) (.t 22)),qm 3 23]
def adV :=[qm 16 4,qn 17 .add 16 1,qm 4 17]
def oB:Abs.cF:=sI [0,3,4,15] adT 15 .eo (.exit 0) (.seq (.bO 1 (.cr [0,3,4] adU)) (.cr [0,3,4] adV))
def Qu :=[qm 24 3,qm 2 24]
def sj:Abs.Fn:=⟨1,[.t 2],sR [0] adN (sI [0,7] adO 7 (.iY [0] adP ⟨none,none,false,.MZ (.t 8)⟩ adQ) .eo (sR [0,3] adR (sL [0,3,4] adS 0 [0,3,4] false oB (sR [2] Qu .ret))))⟩
attribute [simp] adN adO adP adQ adR adS adT adU adV Qu
def adZ :=[qi 4 0]
def ad0 :=[qo 10 (.mp (.make) []),qm 5 10]
def ad1 :=[qm 11 0,qe 12 11,qi 13 0]
def ad2 :=[qk 14 .lss 13 12]
def ad3 :=[qj 15 6 11 13,qa 16 6 15,qo 7 (.fm [] [(.str []),zI,.aK,.aK,zI,zI]),qs 7 6 7 16]
def ad4 :=[qm 18 1,qw 19 7 6 7,qo 20 (.call false (.t 18) [(.t 19)]),qm 17 20,qz 21 17 0,qz 22 17 1,qm 8 21,qm 9 22]
def ad5 :=[qm 23 9,qn 24 .neq 23 0]
def ad6 :=[qm 25 9,qm 4 25]
def ad7 :=[qm 26 5,qm 27 8,qo 28 (.mp (.get none (.bool false) false) [(.t 26),(.t 27)])]
def ad8 :=[qi 4 6]
def Qv :=[qm 29 5,qm 30 8,⟨none,none,false,.mp (.put none) [(.t 29),(.t 30),(.c (.bool true))]⟩]
def Qw :=[qn 31 .add 13 1,qm 13 31]
def fR:Abs.cF:=sR [1,5,11,12,13,14] ad2 (.seq (.ite (.t 14) .eo (.exit 0)) (.seq (.bO 1 (sR [1,5,7,11,12,13] ad3 (sR [1,5,8,9,11,12,13] ad4 (sE [1,5,8,9,11,12,13,24] ad5 24 [4] ad6 (sE [1,5,8,11,12,13,28] ad7 28 [4] ad8 (.cr [1,5,11,12,13] Qv)))))) (.cr [1,5,11,12,13] Qw)))
def Qx :=[qi 4 0]
def iG:Abs.Fn:=⟨2,[.t 4],sR [0,1] adZ (sR [0,1,5] ad0 (sL [1,5,11,12,13] ad1 0 [1,5,11,12,13] false fR (sR [4] Qx .ret)))⟩
attribute [simp] adZ ad0 ad1 ad2 ad3 ad4 ad5 ad6 ad7 ad8 Qv Qw Qx
def ad9 :=[qx 2 0,qo 3 (.mv (.c (.str []))),qi 4 0]
def aea :=[qF 5 0 2,qL 6 1 5,qA 7 4 1,qA 8 6 2,qC 9 gD [7,8],qm 3 6,qm 4 9]
def jW:Abs.Fn:=⟨2,[.t 3,.t 4],sR [1,2] ad9 (sR [3,4] aea .ret)⟩
attribute [simp] ad9 aea
def aq2 :=[qb 4 false]
def aq3 :=[qm 5 0,qm 6 1,qc 7 nZ [5,6],qn 8 .geq 7 0,qm 4 8]
def rB:Abs.Fn:=⟨2,[.t 4],sR [0,1] aq2 (sR [4] aq3 .ret)⟩
def aq4 :=[qb 3 false]
def aq5 :=[ql 4 1 1,qm 5 0,qo 6 (.call false (.t 4) [(.t 5)]),qu 7 6,qm 3 7]
def vP:Abs.Fn:=⟨2,[.t 3],sR [0,1] aq4 (sR [3] aq5 .ret)⟩
def aq6 :=[qi 4 0]
def aq7 :=[qm 6 0,qe 7 6,qi 8 0]
def aq8 :=[qk 9 .lss 8 7]
def aq9 :=[qm 10 8,qm 5 10]
def ara :=[qm 11 1,qm 12 0,qm 13 5,qj 14 1 12 13,ql 15 1 14,qo 16 (.call false (.t 11) [(.t 15)])]
def arb :=[qm 17 5,qm 4 17]
def arc :=[qn 18 .add 8 1,qm 8 18]
def wV:Abs.cF:=sR [0,1,7,8,9] aq8 (.seq (.ite (.t 9) .eo (.exit 0)) (.seq (.bO 1 (sR [0,1,5,7,8] aq9 (sR [0,1,5,7,8,16] ara (.ite (.t 16) (sR [4] arb .ret) .eo)))) (.cr [0,1,7,8] arc)))
def ard :=[qi 4 (-1)]
def sT:Abs.Fn:=⟨2,[.t 4],sR [0,1] aq6 (sL [0,1,7,8] aq7 0 [0,1,7,8] false wV (sR [4] ard .ret))⟩
def tF3:List (Nat×ub×Abs.Fn):=[A4 [] gr kY [] [0,6] [6] [(1005,[(1,2)]),(5012,[(0,2)]),(7012,[(0,2)])] [] [(6,[6,1000006]),(6,[6])] [] [] [(0,some 7),(6,some 2)],A4 [] gp kW [] [0,11,13,14,16,17,18,20] [13,14,16,17,18,20] [(18029,[(0,6)])] [] [(17,[11])] [] [] [(1,some 12),(3,some 37),(9,some 1),(12,some 1),(14,some 1)],A0 gQ pS,A0 jJ pk,A0 fg nG,A0 kL tO,A4 [] bS rK [] [] [] [] [] [] [] [] [(0,some 3)],A4 [] nh tu [] [] [] [] [] [(0,[0])] [] [] [],A2 [] eM gJ [] [2,5],A0 ec lS,A0 ez lE,A4 [] uD uq [] [6] [6] [] [] [(0,[0])] [] [] [],A0 jx mA,A3 [] gH mI [] [7] [7] [] [],A0 fB nv,A0 pY tv,A0 gj oj,A2 [] iu ke [] [2,5],A0 eV mH,A0 nO rm,A3 [] rN uj [] [2] [2] [] [],A0 gz o4,A0 dR kr,A0 iK lu,A0 kO rE,A0 pM xx,A0 rG yk,A3 [] dT fS [] [4,6] [6] [] [],A0 eU mG,A4 [] oR sk [] [] [] [] [] [] [] [] [(2,some 1)],A4 [] oQ sj [] [] [] [] [] [] [] [] [(2,some 1)],A3 [] fy iG [] [7] [7] [] [],A0 dE jW,A0 lQ rB,A0 rP vP,A0 nZ sT]
theorem kF3:(tF3.map fun p=>chk p)=tF3.map fun p=>some p.2.2:=by kernel_rfl
end Go.Proofs.YtfgljaglidhjiaaGreatDoor
