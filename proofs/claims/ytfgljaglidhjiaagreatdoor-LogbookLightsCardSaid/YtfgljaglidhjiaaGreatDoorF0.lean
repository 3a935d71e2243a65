import Derived.Test.YtfgljaglidhjiaaGreatDoorIds
set_option linter.all false
set_option maxRecDepth 100000
namespace Go.Proofs.YtfgljaglidhjiaaGreatDoor
open Go Go.Abs
def axO :=[qb 2 false]
def axP :=[qm 23 0,qc 24 vO [23],qu 25 24,qm 26 25,qg 26 false (qm 27 0),qg 26 false (qc 28 sr [27]),qg 26 false (qu 29 28),qP 30 26 29]
def axQ :=[qc 31 pI [],qm 2 31]
def axR :=[qm 33 0,qc 34 o9 [33],qc 35 nE [34],qm 32 35,qz 36 32 0,qz 37 32 1,qz 38 32 2,qo 3 (.eJ [] [zI,zI,zI,zI,.aG,zI,zI,zI,.aG,.aG,.aG,.aG,.aG,zI,zI,zI,.aG,.aG]),qs 3 18 3 36,qm 4 37,qm 5 38]
def axS :=[qm 39 5,qn 40 .neq 39 0,qm 41 40,qg 41 false (qm 42 4),qg 41 false (qe 43 42),qg 41 false (qm 44 0),qg 41 false (qe 45 44),qg 41 false (qk 46 .neq 43 45),qP 47 41 46]
def axT :=[qb 2 false]
def axU :=[qi 6 0]
def axV :=[qm 48 6,qm 49 0,qe 50 49,qk 51 .lss 48 50]
def axW :=[qm 55 0,qm 56 6,qj 57 1 55 56,ql 58 1 57,qc 59 so [58],qm 54 59,qz 60 54 0,qz 61 54 1,qz 62 54 2,qz 63 54 3,qm 7 60,qm 8 61,qm 9 62,qm 10 63]
def axX :=[qm 64 10,qu 65 64,qm 66 65,qg 66 false (qm 67 7),qg 66 false (qo 68 (.rl (.seq true) [(.t 67),(.c (.str [116,105,99,107]))])),qP 69 66 68,qm 70 69,qg 70 false (qm 71 4),qg 70 false (qm 72 6),qg 70 false (qj 73 1 71 72),qg 70 false (ql 74 1 73),qg 70 false (qn 75 .neq 74 0),qP 76 70 75]
def ank :=[qm 78 0,qm 79 6,qo 80 (.Md 1 (.t 78) none (some (.t 79)) none),qc 81 o9 [80],qc 82 nE [81],qm 77 82,qz 83 77 0,qz 84 77 1,qz 85 77 2,qo 11 (.eJ [] [zI,zI,zI,zI,.aG,zI,zI,zI,.aG,.aG,.aG,.aG,.aG,zI,zI,zI,.aG,.aG]),qs 11 18 11 83,qm 12 84,qm 13 85]
def anl :=[qm 87 0,qm 88 6,qn 89 .add 88 1,qo 90 (.Md 1 (.t 87) none (some (.t 89)) none),qc 91 o9 [90],qc 92 nE [91],qm 86 92,qz 93 86 0,qz 94 86 1,qz 95 86 2,qo 14 (.eJ [] [zI,zI,zI,zI,.aG,zI,zI,zI,.aG,.aG,.aG,.aG,.aG,zI,zI,zI,.aG,.aG]),qs 14 18 14 93,qm 15 94,qm 16 95]
def anm :=[qf 96 10 11,qv 97 11 1 96,qe 98 97,qm 17 98]
def ano :=[qm 99 13,qn 100 .neq 99 0,qm 101 100,qg 101 false (qm 102 16),qg 101 false (qn 103 .neq 102 0),qP 104 101 103,qm 105 104,qg 105 false (qf 106 10 14),qg 105 false (qv 107 14 1 106),qg 105 false (qe 108 107),qg 105 false (qm 109 17),qg 105 false (qn 110 .add 109 1),qg 105 false (qk 111 .neq 108 110),qP 112 105 111,qm 113 112,qg 113 false (qf 114 10 14),qg 113 false (qv 115 14 1 114),qg 113 false (qm 116 17),qg 113 false (qj 117 1 115 116),qg 113 false (ql 118 1 117),qg 113 false (qe 119 118),qg 113 false (qm 120 9),qg 113 false (qe 121 120),qg 113 false (qk 122 .neq 119 121),qP 123 113 122]
def anp :=[qb 2 false]
def anq :=[qf 125 11 11,qv 126 11 1 125,qf 127 12 11,qv 128 11 1 127,qm 129 17,qc 130 fF [126,128,129],qm 124 130,qz 131 124 0,qz 132 124 1,qz 133 124 2,qm 18 131,qm 19 132,qm 20 133]
def anr :=[qm 134 20,qn 135 .neq 134 0,qm 136 135,qg 136 false (qm 137 18),qg 136 false (qo 138 (.bin .gtr (.t 137) (.c (.int .u8 2)))),qP 139 136 138]
def ans :=[qb 2 false]
def ant :=[qi 21 0]
def anu :=[qm 140 21,qm 141 9,qe 142 141,qk 143 .lss 140 142]
def anv :=[qf 146 10 14,qv 147 14 1 146,qm 148 17,qj 149 1 147 148,ql 150 1 149,qm 151 21,qj 152 1 150 151,ql 153 1 152,qm 22 153]
def anw :=[qM 154 9,qM 155 21,qJ 156 1 154 155,qL 157 1 156,qN 158 .geq 157 0,qM 159 158,qg 159 true (qM 160 22),qg 159 true (qM 161 9),qg 159 true (qM 162 21),qg 159 true (qJ 163 1 161 162),qg 159 true (qL 164 1 163),qg 159 true (qK 165 .neq 160 164),qO 166 (.pick (.t 159) (.t 165) (.c (.bool false))),qM 167 166,qg 167 false (qM 168 9),qg 167 false (qM 169 21),qg 167 false (qJ 170 1 168 169),qg 167 false (qL 171 1 170),qg 167 false (qN 172 .lss 171 0),qg 167 false (qM 173 172),qg 173 true (qM 174 22),qg 173 true (qN 175 .gtr 174 0),qg 173 true (qM 176 175),qg 176 false (qM 177 22),qg 176 false (qO 178 (.un .neg (.t 177))),qg 176 false (qM 179 9),qg 176 false (qM 180 21),qg 176 false (qJ 181 1 179 180),qg 176 false (qL 182 1 181),qg 176 false (qO 183 (.un .neg (.t 182))),qg 176 false (qK 184 .gtr 178 183),qg 173 true (qO 185 (.pick (.t 176) (.c (.bool true)) (.t 184))),qg 173 true (qM 186 185),qg 186 false (qM 187 22),qg 186 false (qO 188 (.un .neg (.t 187))),qg 186 false (qM 189 9),qg 186 false (qM 190 21),qg 186 false (qJ 191 1 189 190),qg 186 false (qL 192 1 191),qg 186 false (qO 193 (.un .neg (.t 192))),qg 186 false (qM 194 18),qg 186 false (qF 195 13 11),qg 186 false (qO 196 (.BM 3 1 (.t 195) (.t 194))),qg 186 false (qV 197 11 1 196),qg 186 false (qK 198 .mul 193 197),qg 186 false (qN 199 .quo 198 1000),qg 186 false (qk 200 .neq 188 199),qg 173 true (qP 201 186 200),qg 167 false (qp 202 173 201),qP 203 167 202]
def anx :=[qb 2 false]
def anz :=[qm 144 21,qn 145 .add 144 1,qm 21 145]
def iY:Abs.cX :=
 (.seq (.seq (.ai [0,4,6,9,11,14,17,18,21,143] anu) (.ite (.t 143) .cI (.exit 2))) (.seq (.bD 3 (.seq (.ai [0,4,6,9,11,14,17,18,21,22] anv) (.seq (.ai [0,4,6,9,11,14,17,18,21,203] anw) (.ite (.t 203) (.seq (.ai [2] anx) .ret) .cI)))) (.ai [0,4,6,9,11,14,17,18,21] anz)))
def anA :=[qm 52 6,qn 53 .add 52 1,qm 6 53]
def iZ:Abs.cX :=
 (.seq (.seq (.ai [0,4,6,51] axV) (.ite (.t 51) .cI (.exit 0))) (.seq (.bD 1 (.seq (.ai [0,4,6,7,9,10] axW) (.seq (.seq (.ai [0,4,6,9,76] axX) (.ite (.t 76) (.exit 1) .cI)) (.seq (.ai [0,4,6,9,11,13] ank) (.seq (.ai [0,4,6,9,11,13,14,16] anl) (.seq (.ai [0,4,6,9,11,13,14,16,17] anm) (.seq (.seq (.ai [0,4,6,9,11,14,17,123] ano) (.ite (.t 123) (.seq (.ai [2] anp) .ret) .cI)) (.seq (.ai [0,4,6,9,11,14,17,18,20] anq) (.seq (.seq (.ai [0,4,6,9,11,14,17,18,139] anr) (.ite (.t 139) (.seq (.ai [2] ans) .ret) .cI)) (.seq (.ai [0,4,6,9,11,14,17,18,21] ant) (.bD 2 (.loop [0,4,6,9,11,14,17,18,21] false iY)))))))))))) (.ai [0,4,6] anA)))
def anB :=[qc 204 pI [],qm 2 204]
def By:bP:=Fp [(25,[2]),(8,[0,4,6]),(21,[0,4,6,9,11,14,17,18,21]),(24,[2]),(23,[0,4,6,9,11,14,17,18,21,203]),(22,[0,4,6,9,11,14,17,18,21,22]),(20,[0,4,6,9,11,14,17,18,21,143]),(19,[0,4,6,9,11,14,17,18,21]),(18,[2]),(17,[0,4,6,9,11,14,17,18,139]),(16,[0,4,6,9,11,14,17,18,20]),(15,[2]),(14,[0,4,6,9,11,14,17,123]),(13,[0,4,6,9,11,13,14,16,17]),(12,[0,4,6,9,11,13,14,16]),(11,[0,4,6,9,11,13]),(10,[0,4,6,9,76]),(9,[0,4,6,7,9,10]),(7,[0,4,6,51]),(6,[0,4,6]),(5,[2]),(4,[0,4,47]),(3,[0,4,5]),(2,[2]),(1,[0,30]),(0,[0])] [(2,[0,4,6,9,11,14,17,18,21]),(0,[0,4,6])] [] [3,11,14] [3,11,14] [] []
def ma:Abs.Fn:=⟨1,[.t 2],
 (.seq (.ai [0] axO) (.seq (.seq (.ai [0,30] axP) (.ite (.t 30) (.seq (.ai [2] axQ) .ret) .cI)) (.seq (.ai [0,4,5] axR) (.seq (.seq (.ai [0,4,47] axS) (.ite (.t 47) (.seq (.ai [2] axT) .ret) .cI)) (.seq (.seq (.ai [0,4,6] axU) (.bD 0 (.loop [0,4,6] false iZ))) (.seq (.ai [2] anB) .ret))))))⟩
attribute [simp] axO axP axQ axR axS axT axU axV axW axX ank anl anm ano anp anq anr ans ant anu anv anw anx anz anA anB
def akk :=[qb 2 false]
def akl :=[qi 3 0,qi 4 0,qi 5 0]
def akm :=[qi 6 0]
def akn :=[qm 7 6,qm 8 0,qe 9 8,qk 10 .lss 7 9]
def ako :=[qm 13 3,qm 14 0,qm 15 6,qj 16 1 14 15,ql 17 1 16,qo 18 (.rl (.z8) [(.t 17)]),qk 19 .add 13 18,qm 3 19]
def akp :=[qm 20 0,qm 21 6,qj 22 1 20 21,ql 23 1 22,qo 24 (.call false (.c (.fn lV [] [])) [(.t 23),(.c (.str [109,111,100,101,108]))])]
def akq :=[qm 25 4,qn 26 .add 25 1,qm 4 26]
def akr :=[qm 27 0,qm 28 6,qj 29 1 27 28,ql 30 1 29,qo 31 (.call false (.c (.fn lV [] [])) [(.t 30),(.c (.str [116,105,99,107]))])]
def aks :=[qm 32 5,qn 33 .add 32 1,qm 5 33]
def akt :=[qm 11 6,qn 12 .add 11 1,qm 6 12]
def sB:Abs.cX :=
 (.seq (.seq (.ai [0,3,4,5,6,10] akn) (.ite (.t 10) .cI (.exit 0))) (.seq (.bD 1 (.seq (.ai [0,3,4,5,6] ako) (.seq (.seq (.ai [0,3,4,5,6,24] akp) (.ite (.t 24) (.ai [0,3,4,5,6] akq) .cI)) (.seq (.ai [0,3,4,5,6,31] akr) (.ite (.t 31) (.ai [0,3,4,5,6] aks) .cI))))) (.ai [0,3,4,5,6] akt)))
def Zd :=[qm 34 4,qn 35 .leq 34 4,qm 36 35,qg 36 true (qm 37 5),qg 36 true (qn 38 .leq 37 8),qp 39 36 38,qm 40 39,qg 40 true (qm 41 3),qg 40 true (qn 42 .leq 41 5000),qp 43 40 42,qm 44 43,qg 44 true (qm 45 0),qg 44 true (qe 46 45),qg 44 true (qn 47 .leq 46 40),qg 44 true (qm 48 47),qg 48 false (qm 49 3),qg 48 false (qn 50 .leq 49 400),qg 48 false (qm 51 50),qg 51 true (qm 52 0),qg 51 true (qe 53 52),qg 51 true (qn 54 .leq 53 103),qg 48 false (qp 55 51 54),qg 44 true (qP 56 48 55),qp 57 44 56,qm 2 57]
def N1:bP:=IG [(10,[2]),(4,[0,3,4,5,6]),(9,[0,3,4,5,6]),(8,[0,3,4,5,6,31]),(7,[0,3,4,5,6]),(6,[0,3,4,5,6,24]),(5,[0,3,4,5,6]),(3,[0,3,4,5,6,10]),(2,[0,3,4,5,6]),(1,[0,3,4,5]),(0,[0])] [(0,[0,3,4,5,6])]
def yp:Abs.Fn:=⟨1,[.t 2],
 (.seq (.ai [0] akk) (.seq (.ai [0,3,4,5] akl) (.seq (.seq (.ai [0,3,4,5,6] akm) (.bD 0 (.loop [0,3,4,5,6] false sB))) (.seq (.ai [2] Zd) .ret))))⟩
attribute [simp] akk akl akm akn ako akp akq akr aks akt Zd
def awH :=[qb 0 false]
def awI :=[qc 10 vP [],qc 11 vc [10],qm 9 11,qz 12 9 0,qz 13 9 1,qm 1 12,qm 2 13]
def awJ :=[qo 15 (.uH 1 1 [(.str [])] [(0,1,(.c (.str [97])))]),qc 16 wk [15],qm 14 16,qz 17 14 0,qz 18 14 1,qm 3 17,qm 4 18]
def awK :=[qc 20 vP [],qo 21 (.call false (.c (.fn xB [] [])) [(.t 20),(.c (.str [98]))]),qm 19 21,qz 22 19 0,qz 23 19 1,qo 5 (.eJ [] [zI,zI,zI,zI]),qs 5 4 5 22,qm 6 23]
def awL :=[qc 25 vP [],qo 26 (.call false (.c (.fn tX [] [])) [(.t 25),(.c (.int .i64 3))]),qm 24 26,qz 27 24 0,qz 28 24 1,qm 7 27,qm 8 28]
def awM :=[qm 29 2,qn 30 .eql 29 0,qm 31 30,qg 31 true (qm 32 1),qg 31 true (qo 33 (.rl (.seq false) [(.t 32),(.c (.str [116,105,99,107,115,32,50,32,99,111,108,111,117,114,32,49,32,119,101,108,108,115,32,49,10,109,111,100,101,108,32,97,32,108,101,102,116,10,109,111,100,101,108,32,98,32,115,116,114,117,99,107,32,54,10,115,97,108,101,32,48,32,116,105,99,107,32,50,32,119,101,108,108,32,48,32,119,111,114,107,32,52,48,48,48,46,46,52,48,48,48,32,109,111,110,101,121,32,49,50,48,48,48,46,46,49,50,48,48,48,10]))])),qp 34 31 33,qm 35 34,qg 35 true (qm 36 4),qg 35 true (qn 37 .eql 36 0),qp 38 35 37,qm 39 38,qg 39 true (qm 40 3),qg 39 true (qo 41 (.me (.b2s) [(.t 40)])),qg 39 true (qo 42 (.rl (.seq false) [(.t 41),(.c (.str [0,1,255,254,97,0,128]))])),qp 43 39 42,qm 44 43,qg 44 true (qm 45 6),qg 44 true (qn 46 .eql 45 0),qp 47 44 46,qm 48 47,qg 48 true (qw 49 5 4 5),qg 48 true (qo 50 (.lK [zI,zI,zI,zI] [(0,1,(.c (.int .i64 6))),(1,1,(.c (.int .i64 500))),(2,1,(.c (.int .i64 390))),(3,1,(.c (.int .i64 410)))])),qg 48 true (qo 51 (.eqv true [some .i64,some .i64,some .i64,some .i64] false (.t 49) (.t 50))),qp 52 48 51,qm 53 52,qg 53 true (qm 54 8),qg 53 true (qn 55 .eql 54 0),qp 56 53 55,qm 57 56,qg 57 true (qm 58 7),qg 57 true (qo 59 (.uH 3 1 [zI,zI,zI] [(0,1,(.c (.int .i64 9))),(1,1,(.c (.int .i64 10))),(2,1,(.c (.int .i64 12)))])),qg 57 true (qc 60 AL [58,59]),qp 61 57 60,qm 0 61]
def KT:bP:=Fp [(5,[0]),(4,[1,2,3,4,5,6,7,8]),(3,[1,2,3,4,5,6]),(2,[1,2,3,4]),(1,[1,2]),(0,[])] [] [] [5] [5] [] []
def Ec:Abs.Fn:=⟨0,[.t 0],
 (.seq (.ai [] awH) (.seq (.ai [1,2] awI) (.seq (.ai [1,2,3,4] awJ) (.seq (.ai [1,2,3,4,5,6] awK) (.seq (.ai [1,2,3,4,5,6,7,8] awL) (.seq (.ai [0] awM) .ret))))))⟩
def awN :=[qx 3 1,qo 4 (.eJ [] [zI,zI,zI,zI]),qi 5 0]
def awO :=[qm 10 0,qc 11 gJ [10],qm 6 11]
def awP :=[qm 12 6,qn 13 .neq 12 0]
def awQ :=[qo 14 (.lK [zI,zI,zI,zI] []),qm 15 6,qs 4 4 4 14,qm 5 15]
def awR :=[qm 17 0,qo 18 (.call true (.c (.fn jQ [] [])) [(.t 17)]),qm 16 18,qz 19 16 0,qz 20 16 1,qm 7 19,qm 8 20]
def awS :=[qm 21 7,qo 22 (.mA (.t 21)),qf 23 0 22,qf 24 9 23,ql 25 1 24,qo 26 (.yF vb [] [(.t 3)]),qc 27 dt [25,26],qm 9 27]
def awT :=[qm 29 9,qn 30 .lss 29 0,qm 28 30]
def awU :=[qo 31 (.lK [zI,zI,zI,zI] []),qs 4 4 4 31,qi 5 5]
def awV :=[qm 33 7,qo 34 (.mA (.t 33)),qf 35 0 34,qf 36 9 35,ql 37 1 36,qm 38 9,qj 39 4 37 38,qf 40 2 39,ql 41 1 40,qm 32 41]
def awW :=[qo 42 (.lK [zI,zI,zI,zI] []),qs 4 4 4 42,qi 5 7]
def aq0 :=[qm 43 7,qo 44 (.mA (.t 43)),qf 45 19 44,ql 46 1 45,qm 47 9,qj 48 4 46 47,qa 49 4 48,qs 4 4 4 49,qi 5 0]
def Jx:bP:=Fp [(10,[4,5]),(7,[4,5]),(9,[4,5]),(8,[4,7,9,32]),(6,[4,7,9,28]),(5,[4,7,9]),(4,[3,4,7]),(3,[4,5]),(2,[0,3,4,6,13]),(1,[0,3,4,6]),(0,[0,3,4])] [] [] [4] [4] [] [4001]
def Cu:Abs.Fn:=⟨2,[.v 4 true 4,.t 5],
 (.seq (.ai [0,3,4] awN) (.seq (.seq (.ai [0,3,4,6] awO) (.seq (.ai [0,3,4,6,13] awP) (.ite (.t 13) (.seq (.ai [4,5] awQ) .ret) .cI))) (.seq (.ai [3,4,7] awR) (.seq (.ai [4,7,9] awS) (.seq (.bD 0 (.seq (.ai [4,7,9,28] awT) (.ite (.t 28) (.seq (.ai [4,5] awU) .ret) (.seq (.ai [4,7,9,32] awV) (.ite (.t 32) (.seq (.ai [4,5] awW) .ret) .cI))))) (.seq (.ai [4,5] aq0) .ret))))))⟩
def aku :=[qo 2 (.pB 1)]
def akv :=[qm 3 0,qo 4 (.app 1 16 (.c .aG) (.t 3)),qm 2 4]
def MB:bP:=NA [(1,[2]),(0,[0])] [] [] [2,4]
def wP:Abs.Fn:=⟨1,[.t 2],
 (.seq (.ai [0] aku) (.seq (.ai [2] akv) .ret))⟩
attribute [simp] aku akv
def akw :=[qb 2 false]
def akx :=[qi 3 0]
def aky :=[qm 4 3,qm 5 0,qe 6 5,qk 7 .lss 4 6]
def akz :=[qm 10 0,qm 11 3,qj 12 1 10 11,ql 13 1 12,qo 14 (.rl (.z8) [(.t 13)]),qn 15 .gtr 14 4000]
def akA :=[qb 2 false]
def akB :=[qm 8 3,qn 9 .add 8 1,qm 3 9]
def rE:Abs.cX :=
 (.seq (.seq (.ai [0,3,7] aky) (.ite (.t 7) .cI (.exit 0))) (.seq (.bD 1 (.seq (.ai [0,3,15] akz) (.ite (.t 15) (.seq (.ai [2] akA) .ret) .cI))) (.ai [0,3] akB)))
def akC :=[qm 16 0,qe 17 16,qn 18 .leq 17 100,qm 2 18]
def K0:bP:=IG [(6,[2]),(3,[0,3]),(5,[2]),(4,[0,3,15]),(2,[0,3,7]),(1,[0,3]),(0,[0])] [(0,[0,3])]
def vt:Abs.Fn:=⟨1,[.t 2],
 (.seq (.ai [0] akw) (.seq (.seq (.ai [0,3] akx) (.bD 0 (.loop [0,3] false rE))) (.seq (.ai [2] akC) .ret)))⟩
attribute [simp] akw akx aky akz akA akB akC
def awX :=[qo 4 (.mv (.c .aG)),qi 5 0]
def awY :=[qm 13 0,qc 14 gJ [13],qm 6 14]
def awZ :=[qm 15 6,qn 16 .neq 15 0]
def aw0 :=[qm 17 6,qo 4 (.mv (.c .aG)),qm 5 17]
def aw1 :=[qm 18 1,qm 19 0,qe 20 19,qn 21 .sub 20 1,qo 22 (.call false (.c (.fn cF [] [])) [(.t 18),(.c zI),(.t 21)]),qu 23 22]
def aw2 :=[qo 4 (.mv (.c .aG)),qi 5 2]
def aw3 :=[qm 25 0,qo 26 (.call true (.c (.fn jQ [] [])) [(.t 25)]),qm 24 26,qz 27 24 0,qz 28 24 1,qm 7 27,qm 8 28]
def aw4 :=[qm 30 0,qo 31 (.call true (.c (.fn pM [] [])) [(.t 30)]),qm 32 1,qm 33 1,qn 34 .add 33 1,qc 35 fP [31,32,34],qo 36 (.call true (.c (.fn jQ [] [])) [(.t 35)]),qm 29 36,qz 37 29 0,qz 38 29 1,qm 9 37,qm 10 38]
def aw5 :=[qo 11 (.pB 1)]
def aw6 :=[qm 39 1,qn 40 .add 39 1,qm 12 40]
def arG :=[qm 41 12,qm 42 0,qe 43 42,qk 44 .lss 41 43]
def arH :=[qM 47 8,qM 48 12,qJ 49 1 47 48,qL 50 1 49,qM 51 10,qM 52 12,qN 53 .sub 52 1,qJ 54 1 51 53,qL 55 1 54,qk 56 .neq 50 55]
def arI :=[qm 57 11,qm 58 12,qo 59 (.uH 1 1 [zI] [(0,1,(.t 58))]),qy 60 1 8 57 59,qm 11 60]
def arJ :=[qm 45 12,qn 46 .add 45 1,qm 12 46]
def BL:Abs.cX :=
 (.seq (.seq (.ai [0,8,10,11,12,44] arG) (.ite (.t 44) .cI (.exit 0))) (.seq (.bD 1 (.seq (.ai [0,8,10,11,12,56] arH) (.ite (.t 56) (.ai [0,8,10,11,12] arI) .cI))) (.ai [0,8,10,11,12] arJ)))
def arK :=[qm 61 11,qm 4 61,qi 5 0]
def FN:bP:=Fp [(14,[4,5]),(11,[0,8,10,11,12]),(13,[0,8,10,11,12]),(12,[0,8,10,11,12,56]),(10,[0,8,10,11,12,44]),(9,[0,8,10,11,12]),(8,[0,1,8,10,11]),(7,[0,1,8,10]),(6,[0,1,8]),(5,[4,5]),(4,[0,1,23]),(3,[4,5]),(2,[0,1,6,16]),(1,[0,1,6]),(0,[0,1])] [(0,[0,8,10,11,12])] [] [11] [] [] [6001,7001,7006]
def yq:Abs.Fn:=⟨2,[.t 4,.t 5],
 (.seq (.ai [0,1] awX) (.seq (.seq (.ai [0,1,6] awY) (.seq (.ai [0,1,6,16] awZ) (.ite (.t 16) (.seq (.ai [4,5] aw0) .ret) .cI))) (.seq (.seq (.ai [0,1,23] aw1) (.ite (.t 23) (.seq (.ai [4,5] aw2) .ret) .cI)) (.seq (.ai [0,1,8] aw3) (.seq (.ai [0,1,8,10] aw4) (.seq (.ai [0,1,8,10,11] aw5) (.seq (.seq (.ai [0,8,10,11,12] aw6) (.bD 0 (.loop [0,8,10,11,12] false BL))) (.seq (.ai [4,5] arK) .ret))))))))⟩
def aw7 :=[qb 4 false]
def aw8 :=[qm 6 0,qe 7 6,qm 8 1,qe 9 8,qk 10 .neq 7 9]
def aw9 :=[qb 4 false]
def axa :=[qi 5 0]
def axb :=[qm 11 5,qm 12 0,qe 13 12,qk 14 .lss 11 13]
def axc :=[qM 17 0,qM 18 5,qJ 19 1 17 18,qL 20 1 19,qM 21 1,qM 22 5,qJ 23 1 21 22,qL 24 1 23,qk 25 .neq 20 24]
def axd :=[qb 4 false]
def axe :=[qm 15 5,qn 16 .add 15 1,qm 5 16]
def IK:Abs.cX :=
 (.seq (.seq (.ai [0,1,5,14] axb) (.ite (.t 14) .cI (.exit 0))) (.seq (.bD 1 (.seq (.ai [0,1,5,25] axc) (.ite (.t 25) (.seq (.ai [4] axd) .ret) .cI))) (.ai [0,1,5] axe)))
def axf :=[qb 4 true]
def MA:bP:=IG [(8,[4]),(5,[0,1,5]),(7,[4]),(6,[0,1,5,25]),(4,[0,1,5,14]),(3,[0,1,5]),(2,[4]),(1,[0,1,10]),(0,[0,1])] [(0,[0,1,5])]
def Ga:Abs.Fn:=⟨2,[.t 4],
 (.seq (.ai [0,1] aw7) (.seq (.seq (.ai [0,1,10] aw8) (.ite (.t 10) (.seq (.ai [4] aw9) .ret) .cI)) (.seq (.seq (.ai [0,1,5] axa) (.bD 0 (.loop [0,1,5] false IK))) (.seq (.ai [4] axf) .ret))))⟩
def axg :=[qo 2 (.mv (.c (.str []))),qi 3 0]
def axh :=[qm 14 0,qc 15 gJ [14],qm 4 15]
def axi :=[qm 16 4,qn 17 .neq 16 0]
def axj :=[qm 18 4,qo 2 (.mv (.c (.str []))),qm 3 18]
def axk :=[qm 20 0,qo 21 (.call true (.c (.fn jQ [] [])) [(.t 20)]),qm 19 21,qz 22 19 0,qz 23 19 1,qm 5 22,qm 6 23]
def axl :=[qo 7 (.mp (.lK 166 5) [])]
def axm :=[qo 24 (.yF sS [] [(.t 7)]),qm 8 24]
def axn :=[qo 9 (.mv (.c (.fn eE [] [])))]
def axo :=[qM 25 8,qM 26 9,qM 27 5,qO 28 (.mA (.t 27)),qF 29 0 28,qF 30 10 29,qL 31 1 30,qE 32 31,qO 33 (.call false (.t 26) [(.t 32)]),qM 34 9,qM 35 5,qC 36 gA [35],qO 37 (.Oj .i64 (.t 36)),qO 38 (.call false (.t 34) [(.t 37)]),qM 39 9,qM 40 5,qO 41 (.mA (.t 40)),qF 42 0 41,qF 43 0 42,qF 44 8 43,qL 45 1 44,qE 46 45,qO 47 (.call false (.t 39) [(.t 46)]),qO 48 (.uH 6 1 [(.str []),(.str []),(.str []),(.str []),(.str []),(.str [])] [(0,1,(.c (.str [116,105,99,107,115]))),(1,1,(.t 33)),(2,1,(.c (.str [99,111,108,111,117,114]))),(3,1,(.t 38)),(4,1,(.c (.str [119,101,108,108,115]))),(5,1,(.t 47))]),qo 49 (.call false (.t 25) [(.t 48)])]
def axp :=[qm 50 5,qo 51 (.mA (.t 50)),qf 52 0 51,qf 53 9 52,ql 54 1 53,qe 55 54,qi 56 0]
def ar5 :=[qk 57 .lss 56 55]
def ar6 :=[qj 58 4 54 56,qa 59 4 58,qo 11 (.eJ [] [(.str []),.aG,(.bool false),zI]),qs 11 4 11 59]
def ar7 :=[qf 60 2 11,qv 61 11 1 60]
def ar8 :=[qm 62 8,qf 63 0 11,qf 64 0 63,qv 65 11 1 64,qo 66 (.uH 3 1 [(.str []),(.str []),(.str [])] [(0,1,(.c (.str [109,111,100,101,108]))),(1,1,(.t 65)),(2,1,(.c (.str [108,101,102,116])))]),qo 67 (.call false (.t 62) [(.t 66)])]
def ar9 :=[qM 68 8,qF 69 0 11,qF 70 0 69,qV 71 11 1 70,qM 72 9,qF 73 3 11,qV 74 11 1 73,qO 75 (.call false (.t 72) [(.t 74)]),qO 76 (.uH 4 1 [(.str []),(.str []),(.str []),(.str [])] [(0,1,(.c (.str [109,111,100,101,108]))),(1,1,(.t 71)),(2,1,(.c (.str [115,116,114,117,99,107]))),(3,1,(.t 75))]),qo 77 (.call false (.t 68) [(.t 76)])]
def asa :=[qn 78 .add 56 1,qm 56 78]
def Cv:Abs.cX :=
 (.seq (.ai [5,7,8,9,54,55,56,57] ar5) (.seq (.ite (.t 57) .cI (.exit 0)) (.seq (.bD 1 (.seq (.ai [5,7,8,9,11,54,55,56] ar6) (.seq (.ai [5,7,8,9,11,54,55,56,61] ar7) (.ite (.t 61) (.ai [5,7,8,9,54,55,56] ar8) (.ai [5,7,8,9,54,55,56] ar9))))) (.ai [5,7,8,9,54,55,56] asa))))
def asb :=[qm 79 5,qo 80 (.mA (.t 79)),qf 81 0 80,qf 82 17 81,ql 83 1 82,qe 84 83,qi 85 0]
def asc :=[qk 86 .lss 85 84]
def asd :=[qm 87 85,qj 88 6 83 85,qa 89 6 88,qo 13 (.eJ [] [zI,zI,zI,zI,zI,zI]),qm 12 87,qs 13 6 13 89]
def ase :=[qM 90 8,qM 91 9,qM 92 12,qO 93 (.call false (.t 91) [(.t 92)]),qM 94 9,qF 95 0 13,qV 96 13 1 95,qO 97 (.call false (.t 94) [(.t 96)]),qM 98 9,qF 99 1 13,qV 100 13 1 99,qO 101 (.call false (.t 98) [(.t 100)]),qF 102 2 13,qW 103 13 2 102,qC 104 ni [103],qF 105 4 13,qW 106 13 2 105,qC 107 ni [106],qO 108 (.uH 10 1 [(.str []),(.str []),(.str []),(.str []),(.str []),(.str []),(.str []),(.str []),(.str []),(.str [])] [(0,1,(.c (.str [115,97,108,101]))),(1,1,(.t 93)),(2,1,(.c (.str [116,105,99,107]))),(3,1,(.t 97)),(4,1,(.c (.str [119,101,108,108]))),(5,1,(.t 101)),(6,1,(.c (.str [119,111,114,107]))),(7,1,(.t 104)),(8,1,(.c (.str [109,111,110,101,121]))),(9,1,(.t 107))]),qo 109 (.call false (.t 90) [(.t 108)])]
def asf :=[qn 110 .add 85 1,qm 85 110]
def Cw:Abs.cX :=
 (.seq (.ai [7,8,9,83,84,85,86] asc) (.seq (.ite (.t 86) .cI (.exit 2)) (.seq (.bD 3 (.seq (.ai [7,8,9,12,13,83,84,85] asd) (.ai [7,8,9,83,84,85] ase))) (.ai [7,8,9,83,84,85] asf))))
def ash :=[qc 111 eL [7],qm 2 111,qi 3 0]
def GZ:bP:=Fp [(21,[2,3]),(20,[7,8,9,83,84,85]),(19,[7,8,9,83,84,85]),(18,[7,8,9,12,13,83,84,85]),(17,[7,8,9,83,84,85,86]),(16,[7,8,9,83,84,85]),(15,[5,7,8,9,54,55,56]),(13,[5,7,8,9,54,55,56]),(14,[5,7,8,9,54,55,56]),(12,[5,7,8,9,11,54,55,56,61]),(11,[5,7,8,9,11,54,55,56]),(10,[5,7,8,9,54,55,56,57]),(9,[5,7,8,9,54,55,56]),(8,[5,7,8,9]),(7,[5,7,8,9]),(6,[5,7,8]),(5,[5,7]),(4,[5]),(3,[2,3]),(2,[0,4,17]),(1,[0,4]),(0,[0])] [(2,[7,8,9,83,84,85]),(0,[5,7,8,9,54,55,56])] [] [7,11,13] [11,13] [] [4001,2005000]
def zN:Abs.Fn:=⟨1,[.t 2,.t 3],
 (.seq (.ai [0] axg) (.seq (.seq (.ai [0,4] axh) (.seq (.ai [0,4,17] axi) (.ite (.t 17) (.seq (.ai [2,3] axj) .ret) .cI))) (.seq (.ai [5] axk) (.seq (.ai [5,7] axl) (.seq (.ai [5,7,8] axm) (.seq (.ai [5,7,8,9] axn) (.seq (.ai [5,7,8,9] axo) (.seq (.seq (.ai [5,7,8,9,54,55,56] axp) (.bD 0 (.loop [5,7,8,9,54,55,56] false Cv))) (.seq (.seq (.ai [7,8,9,83,84,85] asb) (.bD 2 (.loop [7,8,9,83,84,85] false Cw))) (.seq (.ai [2,3] ash) .ret))))))))))⟩
def akD :=[qo 2 (.eJ [] [zI,zI,zI,zI,.aG,zI,zI,zI,.aG,.aG,.aG,.aG,.aG,zI,zI,zI,.aG,.aG]),qo 3 (.mv (.c .aG)),qi 4 0]
def akE :=[qm 8 0,qc 9 gJ [8],qm 5 9]
def akF :=[qm 10 5,qn 11 .neq 10 0]
def akG :=[qo 12 (.lK [zI,zI,zI,zI,.aG,zI,zI,zI,.aG,.aG,.aG,.aG,.aG,zI,zI,zI,.aG,.aG] []),qm 13 5,qs 2 18 2 12,qo 3 (.mv (.c .aG)),qm 4 13]
def akH :=[qm 15 0,qo 16 (.call true (.c (.fn jQ [] [])) [(.t 15)]),qm 14 16,qz 17 14 0,qz 18 14 1,qm 6 17,qm 7 18]
def akI :=[qm 19 6,qo 20 (.mA (.t 19)),qf 21 0 20,qa 22 18 21,qm 23 7,qs 2 18 2 22,qm 3 23,qi 4 0]
def KU:bP:=Fp [(5,[2,3,4]),(4,[2,6,7]),(3,[2,3,4]),(2,[0,2,5,11]),(1,[0,2,5]),(0,[0,2])] [] [] [2] [2] [] [4001]
def vn:Abs.Fn:=⟨1,[.v 2 true 18,.t 3,.t 4],
 (.seq (.ai [0,2] akD) (.seq (.seq (.ai [0,2,5] akE) (.seq (.ai [0,2,5,11] akF) (.ite (.t 11) (.seq (.ai [2,3,4] akG) .ret) .cI))) (.seq (.ai [2,6,7] akH) (.seq (.ai [2,3,4] akI) .ret))))⟩
attribute [simp] akD akE akF akG akH akI
def akJ :=[qo 2 (.mv (.c (.str []))),qo 3 (.mv (.c (.str []))),qo 4 (.mv (.c .aG)),qb 5 false]
def akK :=[qo 18 (.Oa 1 1 [(.str [])] [(0,1,(.c (.str [])))]),qm 6 18]
def akL :=[qi 7 0]
def akM :=[qi 8 0]
def akN :=[qm 19 8,qm 20 0,qo 21 (.rl (.z8) [(.t 20)]),qk 22 .lss 19 21]
def akO :=[qm 25 0,qm 26 8,qo 27 (.rl (.D4) [(.t 25),(.t 26)]),qo 28 (.bin .eql (.t 27) (.c (.int .u8 32)))]
def akP :=[qm 29 6,qm 30 6,qe 31 30,qn 32 .sub 31 1,qm 33 0,qm 34 7,qm 35 8,qo 36 (.rl (.Lj true true) [(.t 33),(.t 34),(.t 35)]),qj 37 1 29 32,qt 1 37 36]
def akQ :=[qm 38 6,qo 39 (.uH 1 1 [(.str [])] [(0,1,(.c (.str [])))]),qy 40 1 16 38 39,qm 6 40]
def akR :=[qm 41 8,qn 42 .add 41 1,qm 7 42]
def akS :=[qm 23 8,qn 24 .add 23 1,qm 8 24]
def pT:Abs.cX :=
 (.seq (.seq (.ai [0,6,7,8,22] akN) (.ite (.t 22) .cI (.exit 0))) (.seq (.bD 1 (.seq (.ai [0,6,7,8,28] akO) (.ite (.t 28) (.seq (.ai [0,6,8] akP) (.seq (.ai [0,6,8] akQ) (.ai [0,6,7,8] akR))) .cI))) (.ai [0,6,7,8] akS)))
def ac3 :=[qm 43 6,qm 44 6,qe 45 44,qn 46 .sub 45 1,qm 47 0,qm 48 7,qo 49 (.rl (.Lj true false) [(.t 47),(.t 48)]),qj 50 1 43 46,qt 1 50 49]
def ac4 :=[qM 51 6,qO 52 (.fh 1 (.t 51) (.c zI)),qL 53 1 52,qM 54 6,qO 55 (.Md 1 (.t 54) (some (.c (.int .i64 1))) none none),qM 9 53,qm 10 55,qo 11 (.mv (.c (.str [])))]
def ac5 :=[qm 56 9,qo 57 (.rl (.seq false) [(.t 56),(.c (.str [109,111,100,101,108]))]),qm 58 57,qg 58 false (qm 59 9),qg 58 false (qo 60 (.rl (.seq false) [(.t 59),(.c (.str [108,111,103]))])),qP 61 58 60]
def ac6 :=[qm 62 10,qe 63 62,qn 64 .eql 63 0]
def ac7 :=[qo 2 (.mv (.c (.str []))),qo 3 (.mv (.c (.str []))),qo 4 (.mv (.c .aG)),qb 5 false]
def ac8 :=[qM 65 10,qO 66 (.fh 1 (.t 65) (.c zI)),qL 67 1 66,qM 68 10,qO 69 (.Md 1 (.t 68) (some (.c (.int .i64 1))) none none),qM 11 67,qm 10 69]
def ac9 :=[qo 12 (.pB 1)]
def ada :=[qi 13 0]
def adb :=[qm 70 13,qm 71 10,qe 72 71,qk 73 .lss 70 72]
def ade :=[qm 77 10,qm 78 13,qj 79 1 77 78,ql 80 1 79,qc 81 su [80],qm 76 81,qz 82 76 0,qz 83 76 1,qm 14 82,qm 15 83]
def adf :=[qm 84 15,qu 85 84]
def adg :=[qo 2 (.mv (.c (.str []))),qo 3 (.mv (.c (.str []))),qo 4 (.mv (.c .aG)),qb 5 false]
def adh :=[qm 86 12,qm 87 14,qo 88 (.uH 1 1 [zI] [(0,1,(.t 87))]),qy 89 1 8 86 88,qm 12 89]
def adi :=[qm 74 13,qn 75 .add 74 1,qm 13 75]
def pU:Abs.cX :=
 (.seq (.seq (.ai [9,10,11,12,13,73] adb) (.ite (.t 73) .cI (.exit 2))) (.seq (.bD 3 (.seq (.ai [9,10,11,12,13,14,15] ade) (.seq (.seq (.ai [9,10,11,12,13,14,85] adf) (.ite (.t 85) (.seq (.ai [2,3,4,5] adg) .ret) .cI)) (.ai [9,10,11,12,13] adh)))) (.ai [9,10,11,12,13] adi)))
def adj :=[qm 90 12,qe 91 90,qm 16 91]
def adk :=[qb 17 false]
def adl :=[qm 92 9]
def adm :=[qo 94 (.rl (.seq false) [(.t 92),(.c (.str [102,105,101,108,100]))]),qm 93 94]
def adn :=[qo 95 (.rl (.seq false) [(.t 92),(.c (.str [114,101,97,100]))]),qm 93 95]
def ado :=[qo 96 (.rl (.seq false) [(.t 92),(.c (.str [115,101,108,108]))]),qm 93 96]
def adp :=[qm 97 16,qn 98 .eql 97 4,qm 17 98]
def adq :=[qo 100 (.rl (.seq false) [(.t 92),(.c (.str [98,101,100]))]),qm 99 100]
def ads :=[qo 101 (.rl (.seq false) [(.t 92),(.c (.str [119,101,108,108]))]),qm 99 101]
def adt :=[qo 102 (.rl (.seq false) [(.t 92),(.c (.str [107,101,101,112]))]),qm 99 102]
def adu :=[qm 103 16,qn 104 .eql 103 3,qm 17 104]
def adv :=[qo 106 (.rl (.seq false) [(.t 92),(.c (.str [114,117,108,101]))]),qm 105 106]
def adw :=[qm 107 16,qn 108 .eql 107 10,qm 17 108]
def adx :=[qo 110 (.rl (.seq false) [(.t 92),(.c (.str [116,97,98,108,101]))]),qm 109 110]
def ady :=[qm 111 16,qn 112 .rem 111 5,qn 113 .eql 112 0,qm 17 113]
def adz :=[qo 115 (.rl (.seq false) [(.t 92),(.c (.str [113,117,97,107,101]))]),qm 114 115]
def adA :=[qm 116 16,qn 117 .rem 116 4,qn 118 .eql 117 0,qm 17 118]
def adB :=[qo 120 (.rl (.seq false) [(.t 92),(.c (.str [108,111,103]))]),qm 119 120]
def adC :=[qm 121 16,qn 122 .geq 121 3,qm 123 122,qg 123 true (qm 124 16),qg 123 true (qn 125 .rem 124 2),qg 123 true (qn 126 .eql 125 1),qp 127 123 126,qm 17 127]
def adD :=[qo 129 (.rl (.seq false) [(.t 92),(.c (.str [117,110,105,116]))]),qm 128 129]
def adE :=[qm 130 16,qn 131 .rem 130 2,qn 132 .eql 131 1,qm 17 132]
def adF :=[qo 134 (.rl (.seq false) [(.t 92),(.c (.str [109,111,100,101,108]))]),qm 133 134]
def adG :=[qo 135 (.rl (.seq false) [(.t 92),(.c (.str [116,105,99,107]))]),qm 133 135]
def adH :=[qb 17 true]
def adI :=[qm 136 9,qm 137 11,qm 138 12,qm 139 17,qm 2 136,qm 3 137,qm 4 138,qm 5 139]
def KZ:bP:=NA [(48,[2,3,4,5]),(30,[9,11,12,17]),(34,[9,11,12,17]),(36,[9,11,12,17]),(38,[9,11,12,17]),(40,[9,11,12,17]),(42,[9,11,12,17]),(44,[9,11,12,17]),(47,[9,11,12,17]),(46,[9,11,12,17,133]),(45,[9,11,12,17,92,133]),(43,[9,11,12,16,17,92,128]),(41,[9,11,12,16,17,92,119]),(39,[9,11,12,16,17,92,114]),(37,[9,11,12,16,17,92,109]),(35,[9,11,12,16,17,92,105]),(33,[9,11,12,16,17,92,99]),(32,[9,11,12,16,17,92,99]),(31,[9,11,12,16,17,92,99]),(29,[9,11,12,16,17,92,93]),(28,[9,11,12,16,17,92,93]),(27,[9,11,12,16,17,92,93]),(26,[9,11,12,16,17,92]),(25,[9,11,12,16,17]),(24,[9,11,12,16]),(19,[9,10,11,12,13]),(23,[9,10,11,12,13]),(22,[2,3,4,5]),(21,[9,10,11,12,13,14,85]),(20,[9,10,11,12,13,14,15]),(18,[9,10,11,12,13,73]),(17,[9,10,11,12,13]),(16,[9,10,11,12]),(15,[9,10,11]),(14,[2,3,4,5]),(13,[9,10,64]),(12,[9,10,11,61]),(11,[9,10,11]),(10,[6]),(5,[0,6,7,8]),(9,[0,6,7,8]),(8,[0,6,8]),(7,[0,6,8]),(6,[0,6,7,8,28]),(4,[0,6,7,8,22]),(3,[0,6,7,8]),(2,[0,6,7]),(1,[0,6]),(0,[0])] [(2,[9,10,11,12,13]),(0,[0,6,7,8])] [] [12,18]
def vq:Abs.Fn:=⟨1,[.t 2,.t 3,.t 4,.t 5],
 (.seq (.ai [0] akJ) (.seq (.ai [0,6] akK) (.seq (.ai [0,6,7] akL) (.seq (.seq (.ai [0,6,7,8] akM) (.bD 0 (.loop [0,6,7,8] false pT))) (.seq (.ai [6] ac3) (.seq (.ai [9,10,11] ac4) (.seq (.seq (.ai [9,10,11,61] ac5) (.ite (.t 61) (.seq (.seq (.ai [9,10,64] ac6) (.ite (.t 64) (.seq (.ai [2,3,4,5] ac7) .ret) .cI)) (.ai [9,10,11] ac8)) .cI)) (.seq (.ai [9,10,11,12] ac9) (.seq (.seq (.ai [9,10,11,12,13] ada) (.bD 2 (.loop [9,10,11,12,13] false pU))) (.seq (.ai [9,11,12,16] adj) (.seq (.ai [9,11,12,16,17] adk) (.seq (.seq (.ai [9,11,12,16,17,92] adl) (.bD 4 (.seq (.seq (.ai [9,11,12,16,17,92,93] adm) (.ite (.t 93) .cI (.seq (.ai [9,11,12,16,17,92,93] adn) (.ite (.t 93) .cI (.ai [9,11,12,16,17,92,93] ado))))) (.ite (.t 93) (.ai [9,11,12,17] adp) (.seq (.seq (.ai [9,11,12,16,17,92,99] adq) (.ite (.t 99) .cI (.seq (.ai [9,11,12,16,17,92,99] ads) (.ite (.t 99) .cI (.ai [9,11,12,16,17,92,99] adt))))) (.ite (.t 99) (.ai [9,11,12,17] adu) (.seq (.ai [9,11,12,16,17,92,105] adv) (.ite (.t 105) (.ai [9,11,12,17] adw) (.seq (.ai [9,11,12,16,17,92,109] adx) (.ite (.t 109) (.ai [9,11,12,17] ady) (.seq (.ai [9,11,12,16,17,92,114] adz) (.ite (.t 114) (.ai [9,11,12,17] adA) (.seq (.ai [9,11,12,16,17,92,119] adB) (.ite (.t 119) (.ai [9,11,12,17] adC) (.seq (.ai [9,11,12,16,17,92,128] adD) (.ite (.t 128) (.ai [9,11,12,17] adE) (.seq (.seq (.ai [9,11,12,17,92,133] adF) (.ite (.t 133) .cI (.ai [9,11,12,17,133] adG))) (.ite (.t 133) (.ai [9,11,12,17] adH) .cI)))))))))))))))))) (.seq (.ai [2,3,4,5] adI) .ret)))))))))))))⟩
attribute [simp] akJ akK akL akM akN akO akP akQ akR akS ac3 ac4 ac5 ac6 ac7 ac8 ac9 ada adb ade adf adg adh adi adj adk adl adm adn ado adp adq ads adt adu adv adw adx ady adz adA adB adC adD adE adF adG adH adI
def akT :=[qx 3 0,qx 4 1,qx 5 2,qi 6 0,qi 7 0]
def akU :=[qa 9 4 3,qo 10 (.yF cQ [(.t 9)] []),qo 11 (.yF pG [] [(.t 3),(.t 4)]),qo 12 (.yF nC [] [(.t 3),(.t 5)]),qo 13 (.uH 3 1 [.iS,.iS,.iS] [(0,1,(.t 10)),(1,1,(.t 11)),(2,1,(.t 12))]),qc 14 nD [13],qm 8 14]
def akV :=[qm 15 8,qn 16 .neq 15 0]
def akW :=[qm 17 8,qi 6 0,qm 7 17]
def akX :=[qA 18 4 3,qA 19 6 5,qC 20 j3 [18,19],qA 21 2 4,qo 22 (.call false (.t 20) [(.t 21)]),qm 6 22,qi 7 0]
def N0:bP:=iL [(4,[6,7]),(3,[6,7]),(2,[3,4,5,8,16]),(1,[3,4,5,8]),(0,[3,4,5])]
def yn:Abs.Fn:=⟨3,[.t 6,.t 7],
 (.seq (.ai [3,4,5] akT) (.seq (.seq (.ai [3,4,5,8] akU) (.seq (.ai [3,4,5,8,16] akV) (.ite (.t 16) (.seq (.ai [6,7] akW) .ret) .cI))) (.seq (.ai [6,7] akX) .ret)))⟩
attribute [simp] akT akU akV akW akX
def akY :=[qx 4 0,qo 8 (.pB 1),qo 9 (.pB 3),qo 10 (.K5 [] [zI])]
def akZ :=[qa 22 9 4,qm 23 1,qm 24 2,qc 25 ua [22,23,24],qm 11 25]
def ak0 :=[qm 26 11,qn 27 .neq 26 0]
def ak1 :=[qm 28 11,qo 8 (.pB 1),qo 9 (.pB 3),qt 1 10 28]
def ak2 :=[qm 29 3,qe 30 29,qn 31 .gtr 30 40]
def ak3 :=[qo 8 (.pB 1),qo 9 (.pB 3),⟨none,none,false,.st [] 1 (.t 10) (.c (.int .i64 3))⟩]
def ak4 :=[qm 32 3,qe 33 32,qi 34 0]
def ak5 :=[qk 35 .lss 34 33]
def ak6 :=[qj 36 5 32 34,qa 37 5 36,qo 13 (.eJ [] [zI,(.int .u8 0),zI,zI,zI]),qs 13 5 13 37]
def ak7 :=[qa 38 9 4,qw 39 13 5 13,qm 40 2,qe 41 40,qc 42 lX [38,39,41],qm 14 42]
def adT :=[qm 43 14,qn 44 .neq 43 0]
def adU :=[qm 45 14,qo 8 (.pB 1),qo 9 (.pB 3),qt 1 10 45]
def adV :=[qn 46 .add 34 1,qm 34 46]
def oS:Abs.cX :=
 (.seq (.ai [1,2,3,4,8,9,10,32,33,34,35] ak5) (.seq (.ite (.t 35) .cI (.exit 0)) (.seq (.bD 1 (.seq (.ai [1,2,3,4,8,9,10,13,32,33,34] ak6) (.seq (.ai [1,2,3,4,8,9,10,14,32,33,34] ak7) (.seq (.ai [1,2,3,4,8,9,10,14,32,33,34,44] adT) (.ite (.t 44) (.seq (.ai [8,9,10] adU) .ret) .cI))))) (.ai [1,2,3,4,8,9,10,32,33,34] adV))))
def adW :=[qa 47 9 4,qm 48 1,qm 49 2]
def adX :=[qm 15 50]
def adY :=[qm 51 1,qe 52 51,qi 53 0]
def adZ :=[qk 54 .lss 53 52]
def ad0 :=[qm 55 53,qj 56 2 51 53,qa 57 2 56,qo 17 (.eJ [] [(.str []),.aG]),qm 16 55,qs 17 2 17 57]
def ad1 :=[qm 58 3,qe 59 58,qm 18 59]
def ad2 :=[qm 60 3,qe 61 60,qi 62 0]
def ad3 :=[qk 63 .lss 62 61]
def ad4 :=[qm 64 62,qj 65 5 60 62,qa 66 5 65,qo 20 (.eJ [] [zI,(.int .u8 0),zI,zI,zI]),qm 19 64,qs 20 5 20 66]
def ad5 :=[qF 67 3 20,qW 68 20 2 67,qA 69 9 4,qW 70 17 2 17,qO 71 (.lK [zI,zI,zI,zI,.aG,zI,zI,zI,.aG,(.str []),.aG] [(0,9,(.t 69)),(9,2,(.t 70))]),qM 72 15,qM 73 16,qJ 74 2 72 73,qA 75 2 74,qW 76 20 5 20,qC 77 kS [71,75,76],qc 78 nr [68,77],qm 21 78]
def ad6 :=[qm 79 21,qn 80 .neq 79 0,qm 81 80,qg 81 true (qm 82 18),qg 81 true (qm 83 3),qg 81 true (qe 84 83),qg 81 true (qk 85 .eql 82 84),qp 86 81 85]
def ad7 :=[qm 87 19,qm 18 87]
def ad8 :=[qm 88 9,qm 89 16,qm 90 19,qm 91 21,qo 92 (.lK [zI,zI,zI] [(0,1,(.t 89)),(1,1,(.t 90)),(2,1,(.t 91))]),qo 93 (.uH 1 3 [zI,zI,zI] [(0,3,(.t 92))]),qy 94 3 24 88 93,qm 9 94]
def ad9 :=[qn 95 .add 62 1,qm 62 95]
def oT:Abs.cX :=
 (.seq (.ai [3,4,8,9,10,15,16,17,18,51,52,53,60,61,62,63] ad3) (.seq (.ite (.t 63) .cI (.exit 4)) (.seq (.bD 5 (.seq (.ai [3,4,8,9,10,15,16,17,18,19,20,51,52,53,60,61,62] ad4) (.seq (.ai [3,4,8,9,10,15,16,17,18,19,21,51,52,53,60,61,62] ad5) (.seq (.ai [3,4,8,9,10,15,16,17,18,19,21,51,52,53,60,61,62,86] ad6) (.ite (.t 86) (.seq (.ai [3,4,8,9,10,15,16,17,18,19,21,51,52,53,60,61,62] ad7) (.ai [3,4,8,9,10,15,16,17,18,51,52,53,60,61,62] ad8)) .cI))))) (.ai [3,4,8,9,10,15,16,17,18,51,52,53,60,61,62] ad9))))
def aea :=[qm 96 18,qm 97 3,qe 98 97,qk 99 .eql 96 98]
def aeb :=[qm 100 8,qm 101 16,qo 102 (.uH 1 1 [zI] [(0,1,(.t 101))]),qy 103 1 8 100 102,qm 8 103]
def aec :=[qn 104 .add 53 1,qm 53 104]
def oU:Abs.cX :=
 (.seq (.ai [3,4,8,9,10,15,51,52,53,54] adZ) (.seq (.ite (.t 54) .cI (.exit 2)) (.seq (.bD 3 (.seq (.ai [3,4,8,9,10,15,16,17,51,52,53] ad0) (.seq (.ai [3,4,8,9,10,15,16,17,18,51,52,53] ad1) (.seq (.seq (.ai [3,4,8,9,10,15,16,17,18,51,52,53,60,61,62] ad2) (.bD 4 (.loop [3,4,8,9,10,15,16,17,18,51,52,53,60,61,62] false oT))) (.seq (.ai [3,4,8,9,10,15,16,51,52,53,99] aea) (.ite (.t 99) (.ai [3,4,8,9,10,15,51,52,53] aeb) .cI)))))) (.ai [3,4,8,9,10,15,51,52,53] aec))))
def aed :=[qm 105 8,qm 106 9,qm 8 105,qm 9 106,⟨none,none,false,.st [] 1 (.t 10) (.c zI)⟩]
def sN:Abs.cX :=
 (.seq (.iT [1,3,4,8,9,10,15] adW ⟨some 50,none,false,.call false (.c (.fn tg [] [])) [(.t 47),(.t 48),(.t 49)]⟩ adX) (.seq (.seq (.ai [3,4,8,9,10,15,51,52,53] adY) (.bD 2 (.loop [3,4,8,9,10,15,51,52,53] false oU))) (.seq (.ai [8,9,10] aed) .ret)))
def JC:bP:=⟨[(30,[8,9,10]),(29,[3,4,8,9,10,15,51,52,53]),(28,[3,4,8,9,10,15,51,52,53]),(27,[3,4,8,9,10,15,16,51,52,53,99]),(26,[3,4,8,9,10,15,16,17,18,51,52,53,60,61,62]),(25,[3,4,8,9,10,15,16,17,18,51,52,53,60,61,62]),(24,[3,4,8,9,10,15,16,17,18,19,21,51,52,53,60,61,62]),(23,[3,4,8,9,10,15,16,17,18,19,21,51,52,53,60,61,62,86]),(22,[3,4,8,9,10,15,16,17,18,19,21,51,52,53,60,61,62]),(21,[3,4,8,9,10,15,16,17,18,19,20,51,52,53,60,61,62]),(20,[3,4,8,9,10,15,16,17,18,51,52,53,60,61,62,63]),(19,[3,4,8,9,10,15,16,17,18,51,52,53,60,61,62]),(18,[3,4,8,9,10,15,16,17,18,51,52,53]),(17,[3,4,8,9,10,15,16,17,51,52,53]),(16,[3,4,8,9,10,15,51,52,53,54]),(15,[3,4,8,9,10,15,51,52,53]),(14,[1,3,4,8,9,10,15]),(13,[1,2,3,4,8,9,10]),(12,[1,2,3,4,8,9,10,32,33,34]),(11,[8,9,10]),(10,[1,2,3,4,8,9,10,14,32,33,34,44]),(9,[1,2,3,4,8,9,10,14,32,33,34]),(8,[1,2,3,4,8,9,10,13,32,33,34]),(7,[1,2,3,4,8,9,10,32,33,34,35]),(6,[1,2,3,4,8,9,10,32,33,34]),(5,[8,9,10]),(4,[1,2,3,4,8,9,10,31]),(3,[8,9,10]),(2,[1,2,3,4,8,9,10,11,27]),(1,[1,2,3,4,8,9,10,11]),(0,[1,2,3,4,8,9,10])],[(4,[3,4,8,9,10,15,16,17,18,51,52,53,60,61,62]),(2,[3,4,8,9,10,15,51,52,53]),(0,[1,2,3,4,8,9,10,32,33,34])],[0],[8,9,10,13,17,20],[13,17,20],[],[],[(0,[0,1000002])],[],[],[(14,some 3)]⟩
def oh:Abs.Fn:=⟨4,[.t 8,.t 9,.c 10 false 1],
 (.seq (.seq (.cG [0,1000002]) (.ai [1,2,3,4,8,9,10] akY)) (.seq (.seq (.ai [1,2,3,4,8,9,10,11] akZ) (.seq (.ai [1,2,3,4,8,9,10,11,27] ak0) (.ite (.t 27) (.seq (.ai [8,9,10] ak1) .ret) .cI))) (.seq (.seq (.ai [1,2,3,4,8,9,10,31] ak2) (.ite (.t 31) (.seq (.ai [8,9,10] ak3) .ret) .cI)) (.seq (.seq (.ai [1,2,3,4,8,9,10,32,33,34] ak4) (.bD 0 (.loop [1,2,3,4,8,9,10,32,33,34] true oS))) (.Wu (.c (.fn fI [] [])) [(.t 10)] sN)))))⟩
attribute [simp] akY akZ ak0 ak1 ak2 ak3 ak4 ak5 ak6 ak7 adT adU adV adW adX adY adZ ad0 ad1 ad2 ad3 ad4 ad5 ad6 ad7 ad8 ad9 aea aeb aec aed
def ak8 :=[qo 6 (.mv (.c (.int .u8 0))),qo 7 (.mv (.c (.int .u8 0))),qi 8 0]
def ak9 :=[qm 17 0,qe 18 17,qn 19 .gtr 18 20,qm 16 19]
def ala :=[qo 6 (.mv (.c (.int .u8 0))),qo 7 (.mv (.c (.int .u8 0))),qi 8 3]
def alb :=[qm 21 0,qo 22 (.call false (.c (.fn dE [] [])) [(.t 21),(.c (.fn eN [] []))]),qu 23 22,qm 20 23]
def ald :=[qo 6 (.mv (.c (.int .u8 0))),qo 7 (.mv (.c (.int .u8 0))),qi 8 1]
def ale :=[qm 25 1,qe 26 25,qn 27 .gtr 26 200,qm 24 27]
def alf :=[qo 6 (.mv (.c (.int .u8 0))),qo 7 (.mv (.c (.int .u8 0))),qi 8 3]
def alg :=[qm 29 1,qo 30 (.call false (.c (.fn dj [] [])) [(.t 29),(.c (.fn ef [] []))]),qu 31 30,qm 28 31]
def alh :=[qo 6 (.mv (.c (.int .u8 0))),qo 7 (.mv (.c (.int .u8 0))),qi 8 1]
def ali :=[qm 33 2,qo 34 (.call false (.c (.fn cn [] [])) [(.t 33),(.c zI),(.c (.int .i64 1000000))]),qu 35 34,qm 32 35]
def aew :=[qo 6 (.mv (.c (.int .u8 0))),qo 7 (.mv (.c (.int .u8 0))),qi 8 2]
def aex :=[qm 36 0,qe 37 36,qi 38 0]
def aey :=[qk 39 .lss 38 37]
def aez :=[qj 40 10 36 38,qa 41 10 40,qo 10 (.eJ [] [zI,zI,zI,zI,zI,zI,zI,zI,zI,(.int .u8 0)]),qs 10 10 10 41]
def aeA :=[qi 11 0,qi 12 0]
def aeB :=[qw 42 10 10 10,qo 43 (.yF cr [(.t 42)] []),qm 13 43]
def aeC :=[qm 44 1,qe 45 44,qi 46 0]
def aeD :=[qk 47 .lss 46 45]
def aeE :=[qj 48 2 44 46,qa 49 2 48,qo 15 (.eJ [] [zI,.aG]),qs 15 2 15 49]
def aeF :=[qf 50 0 15,qv 51 15 1 50,qm 52 2,qk 53 .gtr 51 52,qm 54 53,qg 54 false (qf 55 0 15),qg 54 false (qv 56 15 1 55),qg 54 false (qm 57 2),qg 54 false (qf 58 7 10),qg 54 false (qv 59 10 1 58),qg 54 false (qk 60 .sub 57 59),qg 54 false (qk 61 .leq 56 60),qP 62 54 61]
def aeG :=[qf 63 1 15,qv 64 15 1 63,qm 65 13,qc 66 bT [64,65]]
def aeH :=[qm 67 11,qn 68 .add 67 1,qm 11 68]
def aeI :=[qf 69 1 15,qv 70 15 1 69,qm 71 13,qc 72 eM [70,71]]
def aeJ :=[qm 73 12,qn 74 .add 73 1,qm 12 74]
def aeK :=[qn 75 .add 46 1,qm 46 75]
def ft:Abs.cX :=
 (.seq (.ai [1,2,6,7,10,11,12,13,36,37,38,44,45,46,47] aeD) (.seq (.ite (.t 47) .cI (.exit 3)) (.seq (.bD 4 (.seq (.ai [1,2,6,7,10,11,12,13,15,36,37,38,44,45,46] aeE) (.seq (.seq (.ai [1,2,6,7,10,11,12,13,15,36,37,38,44,45,46,62] aeF) (.ite (.t 62) (.exit 4) .cI)) (.seq (.seq (.ai [1,2,6,7,10,11,12,13,15,36,37,38,44,45,46,66] aeG) (.ite (.t 66) (.ai [1,2,6,7,10,11,12,13,15,36,37,38,44,45,46] aeH) .cI)) (.seq (.ai [1,2,6,7,10,11,12,13,36,37,38,44,45,46,72] aeI) (.ite (.t 72) (.ai [1,2,6,7,10,11,12,13,36,37,38,44,45,46] aeJ) .cI)))))) (.ai [1,2,6,7,10,11,12,13,36,37,38,44,45,46] aeK))))
def aeL :=[qm 76 11,qf 77 8 10,qv 78 10 1 77,qk 79 .geq 76 78]
def aeM :=[qm 80 6,qf 81 9 10,qv 82 10 1 81,qo 83 (.mx (.t 80) (.t 82)),qm 6 83]
def aeN :=[qm 84 12,qf 85 8 10,qv 86 10 1 85,qk 87 .geq 84 86]
def aeO :=[qm 88 7,qf 89 9 10,qv 90 10 1 89,qo 91 (.mx (.t 88) (.t 90)),qm 7 91]
def aeP :=[qn 92 .add 38 1,qm 38 92]
def dC:Abs.cX :=
 (.seq (.ai [1,2,6,7,36,37,38,39] aey) (.seq (.ite (.t 39) .cI (.exit 1)) (.seq (.bD 2 (.seq (.ai [1,2,6,7,10,36,37,38] aez) (.seq (.ai [1,2,6,7,10,11,12,36,37,38] aeA) (.seq (.ai [1,2,6,7,10,11,12,13,36,37,38] aeB) (.seq (.seq (.ai [1,2,6,7,10,11,12,13,36,37,38,44,45,46] aeC) (.bD 3 (.loop [1,2,6,7,10,11,12,13,36,37,38,44,45,46] false ft))) (.seq (.seq (.ai [1,2,6,7,10,12,36,37,38,79] aeL) (.ite (.t 79) (.ai [1,2,6,7,10,12,36,37,38] aeM) .cI)) (.seq (.ai [1,2,6,7,10,36,37,38,87] aeN) (.ite (.t 87) (.ai [1,2,6,7,36,37,38] aeO) .cI)))))))) (.ai [1,2,6,7,36,37,38] aeP))))
def aeQ :=[qm 93 6,qm 94 7,qm 6 93,qm 7 94,qi 8 0]
def JG:bP:=Fp [(30,[6,7,8]),(29,[1,2,6,7,36,37,38]),(28,[1,2,6,7,36,37,38]),(27,[1,2,6,7,10,36,37,38,87]),(26,[1,2,6,7,10,12,36,37,38]),(25,[1,2,6,7,10,12,36,37,38,79]),(24,[1,2,6,7,10,11,12,13,36,37,38,44,45,46]),(23,[1,2,6,7,10,11,12,13,36,37,38,44,45,46]),(22,[1,2,6,7,10,11,12,13,36,37,38,44,45,46,72]),(21,[1,2,6,7,10,11,12,13,15,36,37,38,44,45,46]),(20,[1,2,6,7,10,11,12,13,15,36,37,38,44,45,46,66]),(19,[1,2,6,7,10,11,12,13,15,36,37,38,44,45,46,62]),(18,[1,2,6,7,10,11,12,13,15,36,37,38,44,45,46]),(17,[1,2,6,7,10,11,12,13,36,37,38,44,45,46,47]),(16,[1,2,6,7,10,11,12,13,36,37,38,44,45,46]),(15,[1,2,6,7,10,11,12,13,36,37,38]),(14,[1,2,6,7,10,11,12,36,37,38]),(13,[1,2,6,7,10,36,37,38]),(12,[1,2,6,7,36,37,38,39]),(11,[1,2,6,7,36,37,38]),(2,[6,7,8]),(4,[6,7,8]),(6,[6,7,8]),(8,[6,7,8]),(10,[6,7,8]),(9,[0,1,2,6,7,32]),(7,[0,1,2,6,7,28]),(5,[0,1,2,6,7,24]),(3,[0,1,2,6,7,20]),(1,[0,1,2,6,7,16]),(0,[0,1,2,6,7])] [(3,[1,2,6,7,10,11,12,13,36,37,38,44,45,46]),(1,[1,2,6,7,36,37,38])] [] [10,15] [10,15] [] []
def lQ:Abs.Fn:=⟨3,[.t 6,.t 7,.t 8],
 (.seq (.ai [0,1,2,6,7] ak8) (.seq (.bD 0 (.seq (.ai [0,1,2,6,7,16] ak9) (.ite (.t 16) (.seq (.ai [6,7,8] ala) .ret) (.seq (.ai [0,1,2,6,7,20] alb) (.ite (.t 20) (.seq (.ai [6,7,8] ald) .ret) (.seq (.ai [0,1,2,6,7,24] ale) (.ite (.t 24) (.seq (.ai [6,7,8] alf) .ret) (.seq (.ai [0,1,2,6,7,28] alg) (.ite (.t 28) (.seq (.ai [6,7,8] alh) .ret) (.seq (.ai [0,1,2,6,7,32] ali) (.ite (.t 32) (.seq (.ai [6,7,8] aew) .ret) .cI))))))))))) (.seq (.seq (.ai [1,2,6,7,36,37,38] aex) (.bD 1 (.loop [1,2,6,7,36,37,38] false dC))) (.seq (.ai [6,7,8] aeQ) .ret))))⟩
attribute [simp] ak8 ak9 ala alb ald ale alf alg alh ali aew aex aey aez aeA aeB aeC aeD aeE aeF aeG aeH aeI aeJ aeK aeL aeM aeN aeO aeP aeQ
def alj :=[qx 3 0,qx 4 1,qo 6 (.eJ [] [.aG,.aG]),qo 7 (.K5 [] [zI])]
def alk :=[qa 10 9 3,qa 11 2 4,qc 12 sT [10,11],qm 9 12,qz 13 9 0,qz 14 9 1,qo 8 (.eJ [] [zI,zI,zI,zI,.aG,zI,zI,zI,.aG,(.str []),.aG]),qs 8 11 8 13,qt 1 7 14]
def alm :=[ql 15 1 7,qn 16 .eql 15 0]
def aln :=[qa 17 9 3,qm 18 2,qc 19 mL [17,18],qt 1 7 19]
def alo :=[ql 20 1 7,qn 21 .neq 20 0]
def alp :=[qO 22 (.lK [.aG,.aG] []),qL 23 1 7,qS 6 2 6 22,qt 1 7 23]
def alq :=[qw 24 8 11 8,qm 25 2]
def alr :=[qs 6 2 6 26,⟨none,none,false,.st [] 1 (.t 7) (.c zI)⟩]
def xx:Abs.cX :=
 (.seq (.iT [6,7] alq ⟨some 26,none,false,.call false (.c (.fn iE [] [])) [(.t 24),(.t 25)]⟩ alr) .ret)
def N3:bP:=⟨[(7,[6,7]),(6,[2,6,7,8]),(5,[6,7]),(4,[2,6,7,8,21]),(3,[2,6,7,8]),(2,[2,3,6,7,8,16]),(1,[2,3,6,7,8]),(0,[2,3,4,6,7])],[],[],[6,7,8],[6,8],[],[],[(0,[0])],[],[],[(7,some 2)]⟩
def sZ:Abs.Fn:=⟨3,[.v 6 true 2,.c 7 false 1],
 (.seq (.seq (.cG [0]) (.ai [2,3,4,6,7] alj)) (.seq (.ai [2,3,6,7,8] alk) (.seq (.seq (.ai [2,3,6,7,8,16] alm) (.ite (.t 16) (.ai [2,6,7,8] aln) .cI)) (.seq (.seq (.ai [2,6,7,8,21] alo) (.ite (.t 21) (.seq (.ai [6,7] alp) .ret) .cI)) (.Wu (.c (.fn fI [] [])) [(.t 7)] xx)))))⟩
attribute [simp] alj alk alm aln alo alp alq alr
def als :=[qx 5 2,qo 6 (.eJ [] [zI,zI,zI,zI,zI,zI,zI,zI,zI,zI]),qi 7 0]
def alu :=[qm 9 0,qc 10 iR [9],qu 11 10,qm 8 11]
def alv :=[qo 12 (.lK [zI,zI,zI,zI,zI,zI,zI,zI,zI,zI] []),qs 6 10 6 12,qi 7 1]
def alw :=[qm 14 0,qm 15 1,qc 16 nv [14,15],qu 17 16,qm 13 17]
def alx :=[qo 18 (.lK [zI,zI,zI,zI,zI,zI,zI,zI,zI,zI] []),qs 6 10 6 18,qi 7 2]
def aly :=[qa 20 4 5,qc 21 gY [20],qu 22 21,qm 19 22]
def alz :=[qo 23 (.lK [zI,zI,zI,zI,zI,zI,zI,zI,zI,zI] []),qs 6 10 6 23,qi 7 1]
def alA :=[qM 24 0,qM 25 1,qC 26 ov [24,25],qA 27 4 5,qc 28 ow [26,27],qs 6 10 6 28,qi 7 0]
def K4:bP:=Fp [(7,[6,7]),(2,[6,7]),(4,[6,7]),(6,[6,7]),(5,[0,1,5,6,19]),(3,[0,1,5,6,13]),(1,[0,1,5,6,8]),(0,[0,1,5,6])] [] [] [6] [6] [] []
def sk:Abs.Fn:=⟨3,[.v 6 true 10,.t 7],
 (.seq (.ai [0,1,5,6] als) (.seq (.bD 0 (.seq (.ai [0,1,5,6,8] alu) (.ite (.t 8) (.seq (.ai [6,7] alv) .ret) (.seq (.ai [0,1,5,6,13] alw) (.ite (.t 13) (.seq (.ai [6,7] alx) .ret) (.seq (.ai [0,1,5,6,19] aly) (.ite (.t 19) (.seq (.ai [6,7] alz) .ret) .cI))))))) (.seq (.ai [6,7] alA) .ret)))⟩
attribute [simp] als alu alv alw alx aly alz alA
def alB :=[qx 2 0,qo 3 (.Hj (.t 1)),qo 4 (.eJ [] [zI,zI,zI,zI]),qi 5 0,qi 6 0]
def alC :=[qa 8 2 2,qc 9 jw [8],qu 10 9,qm 11 10,qg 11 false (qw 12 3 4 3),qg 11 false (qo 13 (.uH 1 4 [zI,zI,zI,zI] [(0,4,(.t 12))])),qg 11 false (qc 14 sn [13]),qg 11 false (qu 15 14),qP 16 11 15,qm 7 16]
def alD :=[qo 17 (.lK [zI,zI,zI,zI] []),qs 4 4 4 17,qi 5 0,qi 6 1]
def alE :=[qF 19 0 3,qV 20 3 1 19,qA 21 2 2,qC 22 jk [21],qk 23 .gtr 20 22,qm 18 23]
def alF :=[qo 24 (.lK [zI,zI,zI,zI] []),qs 4 4 4 24,qi 5 0,qi 6 2]
def alG :=[qa 25 2 2,qf 26 0 3,qv 27 3 1 26,qc 28 lW [25,27],qm 5 28]
def alH :=[qf 29 1 3,qv 30 3 1 29,qm 31 5,qk 32 .lss 30 31]
def alI :=[qo 33 (.lK [zI,zI,zI,zI] []),qs 4 4 4 33,qi 5 0,qi 6 9]
def alJ :=[qf 34 1 3,qv 35 3 1 34,qm 36 5,qk 37 .sub 35 36,qf 38 1 3,qs 3 1 38 37]
def alK :=[qw 39 3 4 3,qm 40 5,qs 4 4 4 39,qm 5 40,qi 6 0]
def JA:bP:=Fp [(9,[4,5,6]),(8,[3,4,5]),(7,[4,5,6]),(6,[3,4,5,32]),(5,[3,4,5]),(2,[4,5,6]),(4,[4,5,6]),(3,[2,3,4,18]),(1,[2,3,4,7]),(0,[2,3,4])] [] [] [3,4] [3,4] [] []
def tM:Abs.Fn:=⟨2,[.v 4 true 4,.t 5,.t 6],
 (.seq (.ai [2,3,4] alB) (.seq (.bD 0 (.seq (.ai [2,3,4,7] alC) (.ite (.t 7) (.seq (.ai [4,5,6] alD) .ret) (.seq (.ai [2,3,4,18] alE) (.ite (.t 18) (.seq (.ai [4,5,6] alF) .ret) .cI))))) (.seq (.ai [3,4,5] alG) (.seq (.seq (.ai [3,4,5,32] alH) (.ite (.t 32) (.seq (.ai [4,5,6] alI) .ret) .cI)) (.seq (.ai [3,4,5] alJ) (.seq (.ai [4,5,6] alK) .ret))))))⟩
attribute [simp] alB alC alD alE alF alG alH alI alJ alK
def axq :=[qo 2 (.mv (.c .aG)),qi 3 0]
def axr :=[qm 5 0,qc 6 gJ [5],qm 4 6]
def axs :=[qm 7 4,qn 8 .neq 7 0]
def axt :=[qm 9 4,qo 2 (.mv (.c .aG)),qm 3 9]
def axu :=[qm 10 0,qc 11 tY [10],qm 2 11,qi 3 0]
def Ix:bP:=iL [(4,[2,3]),(3,[2,3]),(2,[0,4,8]),(1,[0,4]),(0,[0])]
def Be:Abs.Fn:=⟨1,[.t 2,.t 3],
 (.seq (.ai [0] axq) (.seq (.seq (.ai [0,4] axr) (.seq (.ai [0,4,8] axs) (.ite (.t 8) (.seq (.ai [2,3] axt) .ret) .cI))) (.seq (.ai [2,3] axu) .ret)))⟩
def axv :=[qo 0 (.pB 1)]
def axw :=[qo 1 (.Oa 13 1 [(.str []),(.str []),(.str []),(.str []),(.str []),(.str []),(.str []),(.str []),(.str []),(.str []),(.str []),(.str []),(.str [])] [(0,1,(.c (.str [102,105,101,108,100,32,50,32,49,32,49,32,52]))),(1,1,(.c (.str [116,97,98,108,101,32,49,48,48,32,49,48,49,32,52,49,57,32,50,54,55,54,32,49,53,48,32,49,53,48,32,52,55,54,32,54,51,50,32,50,55,52,54,32,51,48,48,32,50,48,48,32,49,53,53,53,32,56,53,50,32,50,55,57,51,32,54,48,48]))),(2,1,(.c (.str [98,101,100,32,49,48,48,48,32,48,32,56,48,48]))),(3,1,(.c (.str [119,101,108,108,32,48,32,53,48,48,32,53]))),(4,1,(.c (.str [109,111,100,101,108,32,97,32,56,48,48,48,32,56,48,48,48,32,53,48,48,32,52,48,48,32,57,48,48,32,52,48,48,32,48,32,49,48]))),(5,1,(.c (.str [109,111,100,101,108,32,98,32,56,48,48,48,32,56,48,48,48,32,53,48,48,32,52,48,48,32,57,48,48,32,53,48,48,32,48,32,49,48]))),(6,1,(.c (.str [108,111,103,32,116,49,32,50,32,51,57,48,32,52,49,48,32,49,32,49]))),(7,1,(.c (.str [114,117,108,101,32,48,32,48,32,48,32,57,32,57,32,57,32,50,48,32,53,32,49,32,49]))),(8,1,(.c (.str [113,117,97,107,101,32,49,32,49,32,49,32,50,53]))),(9,1,(.c (.str [116,105,99,107,32,45,49,48,48]))),(10,1,(.c (.str [116,105,99,107,32,53,48]))),(11,1,(.c (.str [117,110,105,116,32,48,32,49,48,48,32,52,48,48]))),(12,1,(.c (.str [115,101,108,108,32,48,32,48,32,48,32,51])))]),qm 0 1]
def N2:bP:=NA [(1,[0]),(0,[])] [] [] [0,1]
def H8:Abs.Fn:=⟨0,[.t 0],
 (.seq (.ai [] axv) (.seq (.ai [0] axw) .ret))⟩
def alL :=[qb 4 false]
def alM :=[qm 5 0,qo 6 (.rl (.z8) [(.t 5)]),qm 7 1,qo 8 (.rl (.z8) [(.t 7)]),qk 9 .geq 6 8,qm 10 9,qg 10 true (qm 11 0),qg 10 true (qm 12 1),qg 10 true (qo 13 (.rl (.z8) [(.t 12)])),qg 10 true (qo 14 (.rl (.Lj false true) [(.t 11),(.t 13)])),qg 10 true (qm 15 1),qg 10 true (qo 16 (.rl (.seq false) [(.t 14),(.t 15)])),qp 17 10 16,qm 4 17]
def Jw:bP:=iL [(1,[4]),(0,[0,1])]
def tK:Abs.Fn:=⟨2,[.t 4],
 (.seq (.ai [0,1] alL) (.seq (.ai [4] alM) .ret))⟩
attribute [simp] alL alM
def alN :=[qi 2 0]
def alO :=[qm 3 0,qe 4 3,qn 5 .gtr 4 100,qm 6 5,qg 6 false (qm 7 0),qg 6 false (qo 8 (.call false (.c (.fn eD [] [])) [(.t 7),(.c (.fn iA [] []))])),qP 9 6 8]
def alP :=[qi 2 3]
def alQ :=[qi 2 0]
def Iy:bP:=iL [(3,[2]),(2,[2]),(1,[9]),(0,[0])]
def sC:Abs.Fn:=⟨1,[.t 2],
 (.seq (.ai [0] alN) (.seq (.seq (.ai [9] alO) (.ite (.t 9) (.seq (.ai [2] alP) .ret) .cI)) (.seq (.ai [2] alQ) .ret)))⟩
attribute [simp] alN alO alP alQ
def alR :=[qo 2 (.mv (.c .xH)),qo 3 (.mv (.c .aG))]
def alS :=[qo 8 (.lK [zI,zI,zI] [(0,1,(.c (.int .i64 1000))),(1,1,(.c (.int .i64 500))),(2,1,(.c zI))]),qo 9 (.lK [zI,zI,zI,zI,.aG,zI,zI,zI,.aG,.aG,.aG,.aG,.aG,zI,zI,zI,.aG,.aG] [(13,3,(.t 8))]),qo 10 (.lK [zI,zI,zI,zI,.aG,zI,zI,zI,.aG,.aG,.aG,.aG,.aG,zI,zI,zI,.aG,.aG,(.bool false),.aG,zI] [(0,18,(.t 9))]),qo 11 (.bxn [(9,4),(11,10),(12,2),(16,2),(17,6),(19,4)] (.t 10)),qm 4 11]
def alT :=[qo 5 (.pB 1)]
def alU :=[qm 12 0,qe 13 12,qi 14 0]
def alV :=[qk 15 .lss 14 13]
def alW :=[qm 16 14,qj 17 1 12 14,ql 18 1 17,qm 6 16,qm 7 18]
def alX :=[qm 19 5,qm 20 4,qm 21 6,qm 22 7,qc 23 aM [20,21,22],qo 24 (.uH 1 1 [zI] [(0,1,(.t 23))]),qy 25 1 8 19 24,qm 5 25]
def alY :=[qn 26 .add 14 1,qm 14 26]
def rC:Abs.cX :=
 (.seq (.ai [4,5,12,13,14,15] alV) (.seq (.ite (.t 15) .cI (.exit 0)) (.seq (.bD 1 (.seq (.ai [4,5,6,7,12,13,14] alW) (.ai [4,5,12,13,14] alX))) (.ai [4,5,12,13,14] alY))))
def alZ :=[qm 27 4,qm 28 5,qm 2 27,qm 3 28]
def KW:bP:=Fp [(8,[2,3]),(7,[4,5,12,13,14]),(6,[4,5,12,13,14]),(5,[4,5,6,7,12,13,14]),(4,[4,5,12,13,14,15]),(3,[4,5,12,13,14]),(2,[0,4,5]),(1,[0,4]),(0,[0])] [(0,[4,5,12,13,14])] [] [5,11] [] [(1003,[(9,4),(11,10),(12,2),(16,2),(17,6),(19,4)])] []
def vo:Abs.Fn:=⟨1,[.t 2,.t 3],
 (.seq (.ai [0] alR) (.seq (.ai [0,4] alS) (.seq (.ai [0,4,5] alT) (.seq (.seq (.ai [4,5,12,13,14] alU) (.bD 0 (.loop [4,5,12,13,14] false rC))) (.seq (.ai [2,3] alZ) .ret)))))⟩
attribute [simp] alR alS alT alU alV alW alX alY alZ
def axx :=[qi 4 0]
def axy :=[qm 6 0,qe 7 6,qi 8 0]
def axz :=[qk 9 .lss 8 7]
def axA :=[qm 10 8,qm 5 10]
def axB :=[qm 11 1,qm 12 0,qm 13 5,qj 14 4 12 13,qa 15 4 14,qo 16 (.call false (.t 11) [(.t 15)])]
def axC :=[qm 17 5,qm 4 17]
def axD :=[qn 18 .add 8 1,qm 8 18]
def si:Abs.cX :=
 (.seq (.ai [0,1,7,8,9] axz) (.seq (.ite (.t 9) .cI (.exit 0)) (.seq (.bD 1 (.seq (.ai [0,1,5,7,8] axA) (.seq (.ai [0,1,5,7,8,16] axB) (.ite (.t 16) (.seq (.ai [4] axC) .ret) .cI)))) (.ai [0,1,7,8] axD))))
def axE :=[qi 4 (-1)]
def tE:bP:=IG [(7,[4]),(6,[0,1,7,8]),(5,[4]),(4,[0,1,5,7,8,16]),(3,[0,1,5,7,8]),(2,[0,1,7,8,9]),(1,[0,1,7,8]),(0,[0,1])] [(0,[0,1,7,8])]
def nc:Abs.Fn:=⟨2,[.t 4],
 (.seq (.ai [0,1] axx) (.seq (.seq (.ai [0,1,7,8] axy) (.bD 0 (.loop [0,1,7,8] false si))) (.seq (.ai [4] axE) .ret)))⟩
def axF :=[qx 2 0,qb 3 false]
def axG :=[qf 4 0 2,qf 5 0 4,ql 6 1 5,ql 7 1 1,qo 8 (.rl (.seq false) [(.t 6),(.t 7)]),qm 3 8]
def GY:bP:=iL [(1,[3]),(0,[1,2])]
def zM:Abs.Fn:=⟨2,[.t 3],
 (.seq (.ai [1,2] axF) (.seq (.ai [3] axG) .ret))⟩
def al0 :=[qb 6 false]
def al1 :=[qm 7 1,qm 8 0,qk 9 .leq 7 8,qm 10 9,qg 10 true (qm 11 0),qg 10 true (qm 12 2),qg 10 true (qk 13 .leq 11 12),qp 14 10 13,qm 6 14]
def G4:bP:=iL [(1,[6]),(0,[0,1,2])]
def rD:Abs.Fn:=⟨3,[.t 6],
 (.seq (.ai [0,1,2] al0) (.seq (.ai [6] al1) .ret))⟩
attribute [simp] al0 al1
def axH :=[qo 2 (.mv (.c .aG))]
def axI :=[qm 3 0,qo 4 (.Vn false false (.t 3))]
def axJ :=[qo 2 (.mv (.c .aG))]
def axK :=[qo 5 (.Oa 0 1 [] []),qm 6 0,qy 7 1 16 5 6,qm 2 7]
def BG:bP:=NA [(3,[2]),(2,[2]),(1,[0,4]),(0,[0])] [] [] [5]
def uK:Abs.Fn:=⟨1,[.t 2],
 (.seq (.ai [0] axH) (.seq (.seq (.ai [0,4] axI) (.ite (.t 4) (.seq (.ai [2] axJ) .ret) .cI)) (.seq (.ai [2] axK) .ret)))⟩
def axL :=[qm 3 0,qo 4 (.call false (.c (.fn oz [] [])) [(.t 3),(.c (.str [32]))]),qo 5 (.rl (.U9) [(.t 4),(.c (.str [10]))]),qc 6 db [1,5]]
def EJ:bP:=NA [(0,[])] [] [] [1]
def xw:Abs.Fn:=⟨2,[],
 (.ai [] axL)⟩
def al2 :=[qo 2 (.mv (.c (.int .u8 0)))]
def al3 :=[qM 7 0,qO 8 (.mA (.t 7)),qF 9 0 8,qF 10 11 9,qL 11 1 10,qM 12 0,qO 13 (.mA (.t 12)),qF 14 0 13,qF 15 12 14,qL 16 1 15,qM 17 0,qO 18 (.mA (.t 17)),qF 19 0 18,qF 20 10 19,qL 21 1 20,qE 22 21,qC 23 fF [11,16,22],qM 6 23,qZ 24 6 0,qZ 25 6 1,qZ 26 6 2,qM 3 24,qM 4 25,qm 5 26]
def al4 :=[qm 27 3,qm 2 27]
def Bz:bP:=iL [(2,[2]),(1,[3]),(0,[0])]
def mc:Abs.Fn:=⟨1,[.t 2],
 (.seq (.ai [0] al2) (.seq (.ai [3] al3) (.seq (.ai [2] al4) .ret)))⟩
attribute [simp] al2 al3 al4
def axM :=[qx 1 0,qo 2 (.mv (.c (.str [])))]
def axN :=[qF 3 0 1,qL 4 1 3,qC 5 eE [4],qO 6 (.rl (.U9) [(.t 5),(.c (.str [46,46]))]),qF 7 1 1,qL 8 1 7,qC 9 eE [8],qo 10 (.rl (.U9) [(.t 6),(.t 9)]),qm 2 10]
def Ca:bP:=iL [(1,[2]),(0,[1])]
def vH:Abs.Fn:=⟨1,[.t 2],
 (.seq (.ai [1] axM) (.seq (.ai [2] axN) .ret))⟩
def al5 :=[qi 2 0,qb 3 false]
def al6 :=[qm 8 0,qo 9 (.rl (.z8) [(.t 8)]),qn 10 .gtr 9 0,qm 11 10,qg 11 true (qm 12 0),qg 11 true (qo 13 (.rl (.D4) [(.t 12),(.c zI)])),qg 11 true (qo 14 (.bin .eql (.t 13) (.c (.int .u8 45)))),qp 15 11 14,qm 4 15]
def al7 :=[qm 16 0,qm 5 16]
def al8 :=[qm 17 4]
def al9 :=[qm 18 0,qo 19 (.rl (.Lj true false) [(.t 18),(.c (.int .i64 1))]),qm 5 19]
def ama :=[qm 20 5,qo 21 (.rl (.z8) [(.t 20)]),qn 22 .eql 21 0,qm 23 22,qg 23 false (qm 24 5),qg 23 false (qo 25 (.rl (.z8) [(.t 24)])),qg 23 false (qn 26 .gtr 25 9),qP 27 23 26,qm 28 27,qg 28 false (qm 29 5),qg 28 false (qo 30 (.rl (.D4) [(.t 29),(.c zI)])),qg 28 false (qo 31 (.bin .eql (.t 30) (.c (.int .u8 48)))),qg 28 false (qm 32 31),qg 32 true (qm 33 5),qg 32 true (qo 34 (.rl (.z8) [(.t 33)])),qg 32 true (qn 35 .gtr 34 1),qg 32 true (qm 36 35),qg 36 false (qm 37 4),qg 32 true (qP 38 36 37),qg 28 false (qp 39 32 38),qP 40 28 39]
def amb :=[qi 2 0,qb 3 false]
def amc :=[qi 6 0]
def amd :=[qi 7 0]
def ame :=[qm 41 7,qm 42 5,qo 43 (.rl (.z8) [(.t 42)]),qk 44 .lss 41 43]
def agt :=[qm 47 5,qm 48 7,qo 49 (.rl (.D4) [(.t 47),(.t 48)]),qo 50 (.bin .lss (.t 49) (.c (.int .u8 48))),qm 51 50,qg 51 false (qm 52 5),qg 51 false (qm 53 7),qg 51 false (qo 54 (.rl (.D4) [(.t 52),(.t 53)])),qg 51 false (qo 55 (.bin .gtr (.t 54) (.c (.int .u8 57)))),qP 56 51 55]
def agu :=[qi 2 0,qb 3 false]
def agv :=[qm 57 6,qo 58 (.bin .mul (.c (.int .i64 10)) (.t 57)),qm 59 5,qm 60 7,qo 61 (.rl (.D4) [(.t 59),(.t 60)]),qo 62 (.bin .sub (.t 61) (.c (.int .u8 48))),qo 63 (.Oj .i64 (.t 62)),qk 64 .add 58 63,qm 6 64]
def agw :=[qm 45 7,qn 46 .add 45 1,qm 7 46]
def pV:Abs.cX :=
 (.seq (.seq (.ai [4,5,6,7,44] ame) (.ite (.t 44) .cI (.exit 0))) (.seq (.bD 1 (.seq (.seq (.ai [4,5,6,7,56] agt) (.ite (.t 56) (.seq (.ai [2,3] agu) .ret) .cI)) (.ai [4,5,6,7] agv))) (.ai [4,5,6,7] agw)))
def agx :=[qm 65 4]
def agy :=[qm 66 6,qo 67 (.un .neg (.t 66)),qm 2 67,qb 3 true]
def agz :=[qm 68 6,qm 2 68,qb 3 true]
def K1:bP:=IG [(16,[2,3]),(15,[2,3]),(14,[6,65]),(10,[4,5,6,7]),(13,[4,5,6,7]),(12,[2,3]),(11,[4,5,6,7,56]),(9,[4,5,6,7,44]),(8,[4,5,6,7]),(7,[4,5,6]),(6,[2,3]),(5,[4,5,40]),(4,[4,5]),(3,[0,4,5,17]),(2,[0,4,5]),(1,[0,4]),(0,[0])] [(0,[4,5,6,7])]
def vu:Abs.Fn:=⟨1,[.t 2,.t 3],
 (.seq (.ai [0] al5) (.seq (.ai [0,4] al6) (.seq (.ai [0,4,5] al7) (.seq (.seq (.ai [0,4,5,17] al8) (.ite (.t 17) (.ai [4,5] al9) .cI)) (.seq (.seq (.ai [4,5,40] ama) (.ite (.t 40) (.seq (.ai [2,3] amb) .ret) .cI)) (.seq (.ai [4,5,6] amc) (.seq (.seq (.ai [4,5,6,7] amd) (.bD 0 (.loop [4,5,6,7] false pV))) (.seq (.seq (.ai [6,65] agx) (.ite (.t 65) (.seq (.ai [2,3] agy) .ret) .cI)) (.seq (.ai [2,3] agz) .ret)))))))))⟩
attribute [simp] al5 al6 al7 al8 al9 ama amb amc amd ame agt agu agv agw agx agy agz
def amf :=[qi 2 0]
def amg :=[qm 6 0,qe 7 6,qi 8 0]
def amh :=[qk 9 .lss 8 7]
def ami :=[qj 10 1 6 8,ql 11 1 10,qm 4 11]
def amj :=[qm 12 4,qo 13 (.call false (.t 12) []),qm 5 13]
def amk :=[qm 14 5,qn 15 .neq 14 0]
def aml :=[qm 16 5,qm 2 16]
def amm :=[qn 17 .add 8 1,qm 8 17]
def rz:Abs.cX :=
 (.seq (.ai [6,7,8,9] amh) (.seq (.ite (.t 9) .cI (.exit 0)) (.seq (.bD 1 (.seq (.ai [4,6,7,8] ami) (.seq (.ai [5,6,7,8] amj) (.seq (.ai [5,6,7,8,15] amk) (.ite (.t 15) (.seq (.ai [2] aml) .ret) .cI))))) (.ai [6,7,8] amm))))
def amn :=[qi 2 0]
def KR:bP:=IG [(8,[2]),(7,[6,7,8]),(6,[2]),(5,[5,6,7,8,15]),(4,[5,6,7,8]),(3,[4,6,7,8]),(2,[6,7,8,9]),(1,[6,7,8]),(0,[0])] [(0,[6,7,8])]
def vl:Abs.Fn:=⟨1,[.t 2],
 (.seq (.ai [0] amf) (.seq (.seq (.ai [6,7,8] amg) (.bD 0 (.loop [6,7,8] false rz))) (.seq (.ai [2] amn) .ret)))⟩
attribute [simp] amf amg amh ami amj amk aml amm amn
def amo :=[qx 1 0,qi 2 0]
def amp :=[qa 3 4 1,qc 4 kP [3],qu 5 4]
def amq :=[qi 2 1]
def amr :=[qi 2 0]
def DH:bP:=iL [(3,[2]),(2,[2]),(1,[5]),(0,[1])]
def nN:Abs.Fn:=⟨1,[.t 2],
 (.seq (.ai [1] amo) (.seq (.seq (.ai [5] amp) (.ite (.t 5) (.seq (.ai [2] amq) .ret) .cI)) (.seq (.ai [2] amr) .ret)))⟩
attribute [simp] amo amp amq amr
def ams :=[qi 2 0]
def amu :=[qa 3 4 0,qa 4 2 1,qc 5 iN [3,4],qm 2 5]
def KP:bP:=iL [(1,[2]),(0,[0,1])]
def vj:Abs.Fn:=⟨2,[.t 2],
 (.seq (.ai [0,1] ams) (.seq (.ai [2] amu) .ret))⟩
attribute [simp] ams amu
def amv :=[qx 2 0,qx 3 1,qi 4 0]
def amw :=[qf 6 0 3,ql 7 1 6,qc 8 pH [7],qu 9 8,qm 5 9]
def amx :=[qi 4 5]
def amy :=[qF 11 1 3,qL 12 1 11,qE 13 12,qF 14 3 2,qL 15 1 14,qA 16 4 2,qC 17 dr [16],qK 18 .mul 15 17,qk 19 .neq 13 18,qm 20 19,qg 20 false (qf 21 1 3),qg 20 false (ql 22 1 21),qg 20 false (qo 23 (.call false (.c (.fn pw [] [])) [(.t 22),(.c (.fn gz [] []))])),qg 20 false (qu 24 23),qP 25 20 24,qm 10 25]
def amz :=[qi 4 1]
def amA :=[qi 4 0]
def DG:bP:=iL [(5,[4]),(2,[4]),(4,[4]),(3,[10]),(1,[2,3,5]),(0,[2,3])]
def nM:Abs.Fn:=⟨2,[.t 4],
 (.seq (.ai [2,3] amv) (.seq (.bD 0 (.seq (.ai [2,3,5] amw) (.ite (.t 5) (.seq (.ai [4] amx) .ret) (.seq (.ai [10] amy) (.ite (.t 10) (.seq (.ai [4] amz) .ret) .cI))))) (.seq (.ai [4] amA) .ret)))⟩
attribute [simp] amv amw amx amy amz amA
def amB :=[qi 2 0]
def amC :=[qa 3 4 0,qa 4 6 1,qc 5 gw [3,4],qm 2 5]
def KQ:bP:=iL [(1,[2]),(0,[0,1])]
def vk:Abs.Fn:=⟨2,[.t 2],
 (.seq (.ai [0,1] amB) (.seq (.ai [2] amC) .ret))⟩
attribute [simp] amB amC
def amD :=[qx 2 0,qx 3 1,qi 4 0]
def amE :=[qf 6 0 3,ql 7 1 6,qc 8 pH [7],qu 9 8,qm 5 9]
def amF :=[qi 4 5]
def amG :=[qa 11 4 2,qf 12 1 3,ql 13 1 12,qf 14 2 3,ql 15 1 14,qf 16 3 3,ql 17 1 16,qc 18 lT [11,13,15,17],qu 19 18,qm 20 19,qg 20 false (qf 21 4 3),qg 20 false (qa 22 2 21),qg 20 false (qc 23 lU [22]),qg 20 false (qu 24 23),qP 25 20 24,qm 10 25]
def amH :=[qi 4 1]
def amI :=[qi 4 0]
def Bu:bP:=iL [(5,[4]),(2,[4]),(4,[4]),(3,[10]),(1,[2,3,5]),(0,[2,3])]
def l8:Abs.Fn:=⟨2,[.t 4],
 (.seq (.ai [2,3] amD) (.seq (.bD 0 (.seq (.ai [2,3,5] amE) (.ite (.t 5) (.seq (.ai [4] amF) .ret) (.seq (.ai [10] amG) (.ite (.t 10) (.seq (.ai [4] amH) .ret) .cI))))) (.seq (.ai [4] amI) .ret)))⟩
attribute [simp] amD amE amF amG amH amI
def amJ :=[qx 2 0,qx 3 1,qo 4 (.mv (.c .iS))]
def amK :=[qa 5 4 2,qf 6 1 3,ql 7 1 6,qf 8 2 3,ql 9 1 8,qf 10 3 3,ql 11 1 10,qo 12 (.lK [zI,zI,zI,zI,zI,.aG,.aG] [(0,4,(.t 5)),(4,1,(.t 7)),(5,1,(.t 9)),(6,1,(.t 11))]),qo 13 (.yF lH [(.t 12)] []),qm 4 13]
def B9:bP:=iL [(1,[4]),(0,[2,3])]
def mS:Abs.Fn:=⟨2,[.t 4],
 (.seq (.ai [2,3] amJ) (.seq (.ai [4] amK) .ret))⟩
attribute [simp] amJ amK
def amL :=[qx 3 0,qi 6 0]
def amM :=[qa 8 9 3,qc 9 jz [8],qu 10 9,qm 7 10]
def amN :=[qi 6 1]
def amO :=[qm 12 1,qe 13 12,qo 14 (.call false (.c (.fn cp [] [])) [(.t 13),(.c (.int .i64 1)),(.c (.int .i64 40))]),qu 15 14,qm 11 15]
def amP :=[qi 6 3]
def amQ :=[qf 17 0 3,qa 18 4 17,qm 19 1,qc 20 iM [18,19],qn 21 .neq 20 0,qm 22 21,qg 22 false (qm 23 1),qg 22 false (qo 24 (.yF oq [] [(.t 3)])),qg 22 false (qc 25 iD [23,24]),qg 22 false (qu 26 25),qP 27 22 26,qm 16 27]
def amR :=[qi 6 1]
def amS :=[qa 28 9 3,qm 29 2,qc 30 mL [28,29],qm 6 30]
def MD:bP:=iL [(7,[6]),(2,[6]),(4,[6]),(6,[6]),(5,[2,3,16]),(3,[1,2,3,11]),(1,[1,2,3,7]),(0,[1,2,3])]
def wQ:Abs.Fn:=⟨3,[.t 6],
 (.seq (.ai [1,2,3] amL) (.seq (.bD 0 (.seq (.ai [1,2,3,7] amM) (.ite (.t 7) (.seq (.ai [6] amN) .ret) (.seq (.ai [1,2,3,11] amO) (.ite (.t 11) (.seq (.ai [6] amP) .ret) (.seq (.ai [2,3,16] amQ) (.ite (.t 16) (.seq (.ai [6] amR) .ret) .cI))))))) (.seq (.ai [6] amS) .ret)))⟩
attribute [simp] amL amM amN amO amP amQ amR amS
def amT :=[qx 3 0,qx 4 1,qi 6 0]
def amU :=[qf 9 1 4,ql 10 1 9,qo 11 (.Oj .i64 (.t 10)),qo 12 (.call false (.c (.fn cp [] [])) [(.t 11),(.c (.int .i64 1)),(.c (.int .i64 4))]),qu 13 12,qm 14 13,qg 14 false (qf 15 3 4),qg 14 false (qf 16 0 15),qg 14 false (ql 17 1 16),qg 14 false (qn 18 .lss 17 (-10000000000)),qP 19 14 18,qm 20 19,qg 20 false (qf 21 3 4),qg 20 false (qf 22 0 21),qg 20 false (ql 23 1 22),qg 20 false (qf 24 3 4),qg 20 false (qf 25 1 24),qg 20 false (ql 26 1 25),qg 20 false (qk 27 .gtr 23 26),qP 28 20 27,qm 29 28,qg 29 false (qf 30 3 4),qg 29 false (qf 31 1 30),qg 29 false (ql 32 1 31),qg 29 false (qn 33 .gtr 32 10000000000),qP 34 29 33]
def amV :=[qi 6 1]
def amW :=[qF 35 8 3,qL 36 1 35,qE 37 36,qO 7 (.mv (.c (.int .i64 1))),qm 8 37]
def amX :=[qf 38 1 4,ql 39 1 38,qo 40 (.bin .eql (.t 39) (.c (.int .u8 1)))]
def amY :=[qa 41 9 3,qc 42 dp [41],qi 7 0,qm 8 42]
def amZ :=[qf 43 0 4,ql 44 1 43,qm 45 7,qm 46 2,qc 47 cp [44,45,46],qu 48 47,qm 49 48,qg 49 false (qf 50 2 4),qg 49 false (ql 51 1 50),qg 49 false (qm 52 8),qg 49 false (qn 53 .sub 52 1),qg 49 false (qo 54 (.call false (.c (.fn cp [] [])) [(.t 51),(.c zI),(.t 53)])),qg 49 false (qu 55 54),qP 56 49 55]
def am0 :=[qi 6 2]
def am1 :=[qi 6 0]
def ER:bP:=iL [(8,[6]),(7,[6]),(6,[56]),(5,[2,4,7,8]),(4,[2,3,4,7,8,40]),(3,[2,3,4,7,8]),(2,[6]),(1,[2,3,4,34]),(0,[2,3,4])]
def oP:Abs.Fn:=⟨3,[.t 6],
 (.seq (.ai [2,3,4] amT) (.seq (.seq (.ai [2,3,4,34] amU) (.ite (.t 34) (.seq (.ai [6] amV) .ret) .cI)) (.seq (.ai [2,3,4,7,8] amW) (.seq (.seq (.ai [2,3,4,7,8,40] amX) (.ite (.t 40) (.ai [2,4,7,8] amY) .cI)) (.seq (.seq (.ai [56] amZ) (.ite (.t 56) (.seq (.ai [6] am0) .ret) .cI)) (.seq (.ai [6] am1) .ret))))))⟩
attribute [simp] amT amU amV amW amX amY amZ am0 am1
def am2 :=[qo 5 (.PD)]
def am3 :=[qo 7 (.isi false (.t 5))]
def am4 :=[qm 2 5]
def am5 :=[qo 8 (.tas 262 (some (.agg [])) (.t 5)),qz 9 8 1,qz 10 8 0]
def am6 :=[qo 3 (.eJ [] []),qs 3 0 3 10]
def am7 :=[qm 11 0,qo 12 (.mA (.t 11)),⟨none,none,false,.st [] 1 (.t 12) (.c (.int .i64 9))⟩]
def am8 :=[qm 4 5]
def am9 :=[qm 6 4]
def ana:List Abs.Op:=[]
def K2:bP:=⟨[(4,[]),(7,[]),(6,[0]),(2,[]),(1,[4]),(5,[0,5,9,10]),(3,[0,5,7]),(0,[0,5])],[],[],[0,3],[3],[],[],[],[],[],[(2,some 1)]⟩
def pF:Abs.Fn:=⟨1,[],
 (.seq (.ai [0,5] am2) (.bD 0 (.seq (.ai [0,5,7] am3) (.ite (.t 7) (.ai [] am4) (.seq (.ai [0,5,9,10] am5) (.ite (.t 9) (.seq (.ai [0] am6) (.ai [] am7)) (.seq (.ai [4] am8) (.iT [] am9 ⟨none,none,false,.PC (.t 6)⟩ ana))))))))⟩
attribute [simp] am2 am3 am4 am5 am6 am7 am8 am9 ana
def tF0:List (Nat×bP×Abs.Fn):=[(jj,By,ma),(vO,N1,yp),(pI,KT,Ec),(xB,Jx,Cu),(o9,MB,wP),(sr,K0,vt),(tX,FN,yq),(AL,MA,Ga),(vc,GZ,zN),(nE,KU,vn),(so,KZ,vq),(vN,N0,yn),(lY,JC,oh),(fF,JG,lQ),(tf,N3,sZ),(pJ,K4,sk),(ri,JA,tM),(wk,Ix,Be),(vP,N2,H8),(lV,Jw,tK),(gJ,Iy,sC),(jQ,KW,vo),(dt,tE,nc),(vb,GY,zM),(cF,G4,rD),(pM,BG,uK),(sS,EJ,xw),(gA,Bz,mc),(ni,Ca,vH),(su,K1,vu),(nD,KR,vl),(cQ,DH,nN),(pG,KP,vj),(iN,DG,nM),(nC,KQ,vk),(gw,Bu,l8),(j3,B9,mS),(ua,MD,wQ),(lX,ER,oP),(fI,K2,pF)]
theorem kF0:(tF0.map fun p=>chk p)=tF0.map fun p=>some p.2.2:=by kernel_rfl
end Go.Proofs.YtfgljaglidhjiaaGreatDoor
