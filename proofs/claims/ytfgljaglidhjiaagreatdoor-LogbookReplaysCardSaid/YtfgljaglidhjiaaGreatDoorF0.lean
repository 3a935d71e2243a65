import Derived.Test.YtfgljaglidhjiaaGreatDoorIds
set_option linter.all false
set_option maxRecDepth 100000
namespace Go.Proofs.YtfgljaglidhjiaaGreatDoor
open Go Go.Abs
def ajU :=[qb 4 false]
def ajV :=[qm 21 0,qc 22 xf [21],qu 23 22,qm 24 23,qg 24 false (qm 25 0),qg 24 false (qc 26 tD [25]),qg 24 false (qu 27 26),qP 28 24 27]
def ajW :=[qc 29 rq [],qm 4 29]
def ajX :=[qm 31 0,qc 32 oz [31],qc 33 oN [32],qm 30 33,qz 34 30 0,qz 35 30 1,qz 36 30 2,qo 5 (.eK [] [zI,zI,zI,zI,.aH,zI,zI,zI,.aH,.aH,.aH,.aH,.aH,zI,zI,zI,.aH,.aH]),qs 5 18 5 34,qm 6 35,qm 7 36]
def ajY :=[qm 38 0,qc 39 oz [38],qc 40 nA [39],qm 37 40,qz 41 37 0,qz 42 37 1,qm 8 41,qm 9 42]
def ajZ :=[qm 44 8,qc 45 oz [44],qc 46 oN [45],qm 43 46,qz 47 43 0,qz 48 43 1,qz 49 43 2,qo 10 (.eK [] [zI,zI,zI,zI,.aH,zI,zI,zI,.aH,.aH,.aH,.aH,.aH,zI,zI,zI,.aH,.aH]),qs 10 18 10 47,qm 11 48,qm 12 49]
def aj0 :=[qm 50 1,qo 51 (.Tx .i64 (.t 50)),qm 52 0,qe 53 52,qn 54 .add 53 1,qk 55 .rem 51 54,qm 13 55]
def aj1 :=[qm 57 0,qm 58 13,qo 59 (.UB 1 (.t 57) none (some (.t 58)) none),qc 60 oz [59],qc 61 oN [60],qm 56 61,qz 62 56 0,qz 63 56 1,qz 64 56 2,qo 14 (.eK [] [zI,zI,zI,zI,.aH,zI,zI,zI,.aH,.aH,.aH,.aH,.aH,zI,zI,zI,.aH,.aH]),qs 14 18 14 62,qm 15 63,qm 16 64]
def aj2 :=[qm 65 7,qn 66 .neq 65 0,qm 67 66,qg 67 false (qm 68 9),qg 67 false (qn 69 .neq 68 0),qP 70 67 69,qm 71 70,qg 71 false (qm 72 12),qg 71 false (qn 73 .neq 72 0),qP 74 71 73,qm 75 74,qg 75 false (qm 76 16),qg 75 false (qn 77 .neq 76 0),qP 78 75 77,qm 79 78,qg 79 false (qm 80 6),qg 79 false (qe 81 80),qg 79 false (qm 82 0),qg 79 false (qe 83 82),qg 79 false (qk 84 .neq 81 83),qP 85 79 84,qm 86 85,qg 86 false (qm 87 11),qg 86 false (qe 88 87),qg 86 false (qm 89 8),qg 86 false (qe 90 89),qg 86 false (qk 91 .neq 88 90),qP 92 86 91,qm 93 92,qg 93 false (qm 94 15),qg 93 false (qe 95 94),qg 93 false (qm 96 13),qg 93 false (qk 97 .neq 95 96),qP 98 93 97,qm 99 98,qg 99 false (qf 100 9 5),qg 99 false (qv 101 5 1 100),qg 99 false (qe 102 101),qg 99 false (qf 103 9 10),qg 99 false (qv 104 10 1 103),qg 99 false (qe 105 104),qg 99 false (qk 106 .neq 102 105),qP 107 99 106,qm 108 107,qg 108 false (qf 109 10 5),qg 108 false (qv 110 5 1 109),qg 108 false (qe 111 110),qg 108 false (qf 112 10 10),qg 108 false (qv 113 10 1 112),qg 108 false (qe 114 113),qg 108 false (qk 115 .neq 111 114),qP 116 108 115,qm 117 116,qg 117 false (qf 118 17 5),qg 117 false (qv 119 5 1 118),qg 117 false (qf 120 17 10),qg 117 false (qv 121 10 1 120),qg 117 false (qc 122 tB [119,121]),qg 117 false (qu 123 122),qP 124 117 123,qm 125 124,qg 125 false (qf 126 0 5),qg 125 false (qw 127 5 9 126),qg 125 false (qf 128 0 10),qg 125 false (qw 129 10 9 128),qg 125 false (qc 130 vg [127,129]),qg 125 false (qu 131 130),qP 132 125 131]
def aj3 :=[qb 4 false]
def VJ :=[qi 17 0]
def VK :=[qm 133 17,qm 134 11,qe 135 134,qk 136 .lss 133 135]
def VL :=[qm 139 11,qm 140 17,qj 141 1 139 140,ql 142 1 141,qn 143 .neq 142 0]
def VM :=[qb 4 false]
def VN :=[qm 137 17,qn 138 .add 137 1,qm 17 138]
def iF:Abs.cZ :=
 (.seq (.seq (.ak [5,6,10,11,13,15,17,136] VK) (.ite (.t 136) .cU (.exit 0))) (.seq (.bB 1 (.seq (.ak [5,6,10,11,13,15,17,143] VL) (.ite (.t 143) (.seq (.ak [4] VM) .ret) .cU))) (.ak [5,6,10,11,13,15,17] VN)))
def VO :=[qi 18 0]
def VP :=[qm 144 18,qm 145 13,qk 146 .lss 144 145]
def VQ :=[qM 149 15,qM 150 18,qJ 151 1 149 150,qL 152 1 151,qM 153 6,qM 154 18,qJ 155 1 153 154,qL 156 1 155,qk 157 .neq 152 156]
def VR :=[qb 4 false]
def VS :=[qm 147 18,qn 148 .add 147 1,qm 18 148]
def iG:Abs.cZ :=
 (.seq (.seq (.ak [5,6,10,13,15,18,146] VP) (.ite (.t 146) .cU (.exit 2))) (.seq (.bB 3 (.seq (.ak [5,6,10,13,15,18,157] VQ) (.ite (.t 157) (.seq (.ak [4] VR) .ret) .cU))) (.ak [5,6,10,13,15,18] VS)))
def VT :=[qi 19 0]
def VU :=[qm 158 19,qf 159 9 5,qv 160 5 1 159,qe 161 160,qk 162 .lss 158 161]
def VV :=[qF 165 9 5,qV 166 5 1 165,qM 167 19,qJ 168 4 166 167,qF 169 2 168,qL 170 1 169,qF 171 9 10,qV 172 10 1 171,qM 173 19,qJ 174 4 172 173,qF 175 2 174,qL 176 1 175,qO 177 (.eqv false [none] true (.t 170) (.t 176)),qM 178 177,qg 178 false (qF 179 9 5),qg 178 false (qV 180 5 1 179),qg 178 false (qM 181 19),qg 178 false (qJ 182 4 180 181),qg 178 false (qF 183 0 182),qg 178 false (qF 184 0 183),qg 178 false (qL 185 1 184),qg 178 false (qF 186 9 10),qg 178 false (qV 187 10 1 186),qg 178 false (qM 188 19),qg 178 false (qJ 189 4 187 188),qg 178 false (qF 190 0 189),qg 178 false (qF 191 0 190),qg 178 false (qL 192 1 191),qg 178 false (qO 193 (.BA (.seq true) [(.t 185),(.t 192)])),qO 194 (.pick (.t 178) (.c (.bool true)) (.t 193)),qM 195 194,qg 195 false (qF 196 9 5),qg 195 false (qV 197 5 1 196),qg 195 false (qM 198 19),qg 195 false (qJ 199 4 197 198),qg 195 false (qF 200 0 199),qg 195 false (qF 201 1 200),qg 195 false (qL 202 1 201),qg 195 false (qF 203 9 10),qg 195 false (qV 204 10 1 203),qg 195 false (qM 205 19),qg 195 false (qJ 206 4 204 205),qg 195 false (qF 207 0 206),qg 195 false (qF 208 1 207),qg 195 false (qL 209 1 208),qg 195 false (qc 210 pT [202,209]),qg 195 false (qu 211 210),qP 212 195 211]
def VW :=[qb 4 false]
def VX :=[qm 163 19,qn 164 .add 163 1,qm 19 164]
def iH:Abs.cZ :=
 (.seq (.seq (.ak [5,10,19,162] VU) (.ite (.t 162) .cU (.exit 4))) (.seq (.bB 5 (.seq (.ak [5,10,19,212] VV) (.ite (.t 212) (.seq (.ak [4] VW) .ret) .cU))) (.ak [5,10,19] VX)))
def VY :=[qi 20 0]
def VZ :=[qm 213 20,qf 214 10 5,qv 215 5 1 214,qe 216 215,qk 217 .lss 213 216]
def V0 :=[qF 220 10 5,qV 221 5 1 220,qM 222 20,qJ 223 1 221 222,qL 224 1 223,qF 225 10 10,qV 226 10 1 225,qM 227 20,qJ 228 1 226 227,qL 229 1 228,qc 230 pT [224,229],qu 231 230]
def V1 :=[qb 4 false]
def V2 :=[qm 218 20,qn 219 .add 218 1,qm 20 219]
def iI:Abs.cZ :=
 (.seq (.seq (.ak [5,10,20,217] VZ) (.ite (.t 217) .cU (.exit 6))) (.seq (.bB 7 (.seq (.ak [5,10,20,231] V0) (.ite (.t 231) (.seq (.ak [4] V1) .ret) .cU))) (.ak [5,10,20] V2)))
def V3 :=[qc 232 rq [],qm 4 232]
def BY:bP:=Hx [(30,[4]),(27,[5,10,20]),(29,[4]),(28,[5,10,20,231]),(26,[5,10,20,217]),(25,[5,10,20]),(22,[5,10,19]),(24,[4]),(23,[5,10,19,212]),(21,[5,10,19,162]),(20,[5,10,19]),(17,[5,6,10,13,15,18]),(19,[4]),(18,[5,6,10,13,15,18,157]),(16,[5,6,10,13,15,18,146]),(15,[5,6,10,13,15,18]),(12,[5,6,10,11,13,15,17]),(14,[4]),(13,[5,6,10,11,13,15,17,143]),(11,[5,6,10,11,13,15,17,136]),(10,[5,6,10,11,13,15,17]),(9,[4]),(8,[5,6,10,11,13,15,132]),(7,[0,5,6,7,8,9,10,11,12,13,15,16]),(6,[0,5,6,7,8,9,10,11,12,13]),(5,[0,1,5,6,7,8,9,10,11,12]),(4,[0,1,5,6,7,8,9]),(3,[0,1,5,6,7]),(2,[4]),(1,[0,1,28]),(0,[0,1])] [(6,[5,10,20]),(4,[5,10,19]),(2,[5,6,10,13,15,18]),(0,[5,6,10,11,13,15,17])] [] [5,10,14] [5,10,14] [] []
def iE:Abs.Fn:=⟨2,[.t 4],
 (.seq (.ak [0,1] ajU) (.seq (.seq (.ak [0,1,28] ajV) (.ite (.t 28) (.seq (.ak [4] ajW) .ret) .cU)) (.seq (.ak [0,1,5,6,7] ajX) (.seq (.ak [0,1,5,6,7,8,9] ajY) (.seq (.ak [0,1,5,6,7,8,9,10,11,12] ajZ) (.seq (.ak [0,5,6,7,8,9,10,11,12,13] aj0) (.seq (.ak [0,5,6,7,8,9,10,11,12,13,15,16] aj1) (.seq (.seq (.ak [5,6,10,11,13,15,132] aj2) (.ite (.t 132) (.seq (.ak [4] aj3) .ret) .cU)) (.seq (.seq (.ak [5,6,10,11,13,15,17] VJ) (.bB 0 (.loop [5,6,10,11,13,15,17] false iF))) (.seq (.seq (.ak [5,6,10,13,15,18] VO) (.bB 2 (.loop [5,6,10,13,15,18] false iG))) (.seq (.seq (.ak [5,10,19] VT) (.bB 4 (.loop [5,10,19] false iH))) (.seq (.seq (.ak [5,10,20] VY) (.bB 6 (.loop [5,10,20] false iI))) (.seq (.ak [4] V3) .ret)))))))))))))⟩
@[simp] theorem e10:type_of% (show ajU=_∧ajV=_∧ajW=_∧ajX=_∧ajY=_∧ajZ=_∧aj0=_∧aj1=_∧aj2=_∧aj3=_∧VJ=_∧VK=_∧VL=_∧VM=_∧VN=_∧VO=_∧VP=_∧VQ=_∧VR=_∧VS=_∧VT=_∧VU=_∧VV=_∧VW=_∧VX=_∧VY=_∧VZ=_∧V0=_∧V1=_∧V2=_∧V3=_ from by simp only[zI,ajU,ajV,ajW,ajX,ajY,ajZ,aj0,aj1,aj2,aj3,VJ,VK,VL,VM,VN,VO,VP,VQ,VR,VS,VT,VU,VV,VW,VX,VY,VZ,V0,V1,V2,V3,qo,qO,qm,qM,qi,qb,qf,qF,ql,qL,qv,qV,qw,qe,qj,qJ,qk,qn,qu,qP,qs,qz,qc,qg,aj,aw];exact⟨rfl,rfl,rfl,rfl,rfl,rfl,rfl,rfl,rfl,rfl,rfl,rfl,rfl,rfl,rfl,rfl,rfl,rfl,rfl,rfl,rfl,rfl,rfl,rfl,rfl,rfl,rfl,rfl,rfl,rfl,rfl⟩):=⟨rfl,rfl,rfl,rfl,rfl,rfl,rfl,rfl,rfl,rfl,rfl,rfl,rfl,rfl,rfl,rfl,rfl,rfl,rfl,rfl,rfl,rfl,rfl,rfl,rfl,rfl,rfl,rfl,rfl,rfl,rfl⟩
theorem rM:type_of% iF.eq_1:=ah iF.eq_1
theorem rN:type_of% iG.eq_1:=ah iG.eq_1
theorem rO:type_of% iH.eq_1:=ah iH.eq_1
theorem rP:type_of% iI.eq_1:=ah iI.eq_1
theorem Cm:type_of% iE.eq_1:=ah iE.eq_1
def aj4 :=[qb 2 false]
def aj5 :=[qi 3 0,qi 4 0,qi 5 0]
def aj6 :=[qi 6 0]
def aj7 :=[qm 7 6,qm 8 0,qe 9 8,qk 10 .lss 7 9]
def aj8 :=[qm 13 3,qm 14 0,qm 15 6,qj 16 1 14 15,ql 17 1 16,qo 18 (.BA (.Jv) [(.t 17)]),qk 19 .add 13 18,qm 3 19]
def aj9 :=[qm 20 0,qm 21 6,qj 22 1 20 21,ql 23 1 22,qo 24 (.call false (.c (.fn nz [] [])) [(.t 23),(.c (.str [109,111,100,101,108]))])]
def aka :=[qm 25 4,qn 26 .add 25 1,qm 4 26]
def akb :=[qm 27 0,qm 28 6,qj 29 1 27 28,ql 30 1 29,qo 31 (.call false (.c (.fn nz [] [])) [(.t 30),(.c (.str [116,105,99,107]))])]
def akc :=[qm 32 5,qn 33 .add 32 1,qm 5 33]
def akd :=[qm 11 6,qn 12 .add 11 1,qm 6 12]
def tG:Abs.cZ :=
 (.seq (.seq (.ak [0,3,4,5,6,10] aj7) (.ite (.t 10) .cU (.exit 0))) (.seq (.bB 1 (.seq (.ak [0,3,4,5,6] aj8) (.seq (.seq (.ak [0,3,4,5,6,24] aj9) (.ite (.t 24) (.ak [0,3,4,5,6] aka) .cU)) (.seq (.ak [0,3,4,5,6,31] akb) (.ite (.t 31) (.ak [0,3,4,5,6] akc) .cU))))) (.ak [0,3,4,5,6] akd)))
def Yq :=[qm 34 4,qn 35 .leq 34 4,qm 36 35,qg 36 true (qm 37 5),qg 36 true (qn 38 .leq 37 8),qp 39 36 38,qm 40 39,qg 40 true (qm 41 3),qg 40 true (qn 42 .leq 41 5000),qp 43 40 42,qm 44 43,qg 44 true (qm 45 0),qg 44 true (qe 46 45),qg 44 true (qn 47 .leq 46 40),qg 44 true (qm 48 47),qg 48 false (qm 49 3),qg 48 false (qn 50 .leq 49 400),qg 48 false (qm 51 50),qg 51 true (qm 52 0),qg 51 true (qe 53 52),qg 51 true (qn 54 .leq 53 103),qg 48 false (qp 55 51 54),qg 44 true (qP 56 48 55),qp 57 44 56,qm 2 57]
def Te:bP:=K1 [(10,[2]),(4,[0,3,4,5,6]),(9,[0,3,4,5,6]),(8,[0,3,4,5,6,31]),(7,[0,3,4,5,6]),(6,[0,3,4,5,6,24]),(5,[0,3,4,5,6]),(3,[0,3,4,5,6,10]),(2,[0,3,4,5,6]),(1,[0,3,4,5]),(0,[0])] [(0,[0,3,4,5,6])]
def wW:Abs.Fn:=⟨1,[.t 2],
 (.seq (.ak [0] aj4) (.seq (.ak [0,3,4,5] aj5) (.seq (.seq (.ak [0,3,4,5,6] aj6) (.bB 0 (.loop [0,3,4,5,6] false tG))) (.seq (.ak [2] Yq) .ret))))⟩
@[simp] theorem e16:type_of% (show aj4=_∧aj5=_∧aj6=_∧aj7=_∧aj8=_∧aj9=_∧aka=_∧akb=_∧akc=_∧akd=_∧Yq=_ from by simp only[zI,aj4,aj5,aj6,aj7,aj8,aj9,aka,akb,akc,akd,Yq,qo,qm,qi,qb,ql,qe,qj,qk,qn,qp,qP,qg];exact⟨rfl,rfl,rfl,rfl,rfl,rfl,rfl,rfl,rfl,rfl,rfl⟩):=⟨rfl,rfl,rfl,rfl,rfl,rfl,rfl,rfl,rfl,rfl,rfl⟩
theorem CS:type_of% tG.eq_1:=ah tG.eq_1
theorem TH:type_of% wW.eq_1:=ah wW.eq_1
def az6 :=[qb 0 false]
def az7 :=[qc 10 xg [],qc 11 wx [10],qm 9 11,qz 12 9 0,qz 13 9 1,qm 1 12,qm 2 13]
def az8 :=[qo 15 (.wc 1 1 [(.str [])] [(0,1,(.c (.str [97])))]),qc 16 xC [15],qm 14 16,qz 17 14 0,qz 18 14 1,qm 3 17,qm 4 18]
def az9 :=[qc 20 xg [],qo 21 (.call false (.c (.fn y8 [] [])) [(.t 20),(.c (.str [98]))]),qm 19 21,qz 22 19 0,qz 23 19 1,qo 5 (.eK [] [zI,zI,zI,zI]),qs 5 4 5 22,qm 6 23]
def aAa :=[qc 25 xg [],qo 26 (.call false (.c (.fn vh [] [])) [(.t 25),(.c (.int .i64 3))]),qm 24 26,qz 27 24 0,qz 28 24 1,qm 7 27,qm 8 28]
def aAb :=[qm 29 2,qn 30 .eql 29 0,qm 31 30,qg 31 true (qm 32 1),qg 31 true (qo 33 (.BA (.seq false) [(.t 32),(.c (.str [116,105,99,107,115,32,50,32,99,111,108,111,117,114,32,49,32,119,101,108,108,115,32,49,10,109,111,100,101,108,32,97,32,108,101,102,116,10,109,111,100,101,108,32,98,32,115,116,114,117,99,107,32,54,10,115,97,108,101,32,48,32,116,105,99,107,32,50,32,119,101,108,108,32,48,32,119,111,114,107,32,52,48,48,48,46,46,52,48,48,48,32,109,111,110,101,121,32,49,50,48,48,48,46,46,49,50,48,48,48,10]))])),qp 34 31 33,qm 35 34,qg 35 true (qm 36 4),qg 35 true (qn 37 .eql 36 0),qp 38 35 37,qm 39 38,qg 39 true (qm 40 3),qg 39 true (qo 41 (.me (.b2s) [(.t 40)])),qg 39 true (qo 42 (.BA (.seq false) [(.t 41),(.c (.str [0,1,255,254,97,0,128]))])),qp 43 39 42,qm 44 43,qg 44 true (qm 45 6),qg 44 true (qn 46 .eql 45 0),qp 47 44 46,qm 48 47,qg 48 true (qw 49 5 4 5),qg 48 true (qo 50 (.mJ [zI,zI,zI,zI] [(0,1,(.c (.int .i64 6))),(1,1,(.c (.int .i64 500))),(2,1,(.c (.int .i64 390))),(3,1,(.c (.int .i64 410)))])),qg 48 true (qo 51 (.eqv true [some .i64,some .i64,some .i64,some .i64] false (.t 49) (.t 50))),qp 52 48 51,qm 53 52,qg 53 true (qm 54 8),qg 53 true (qn 55 .eql 54 0),qp 56 53 55,qm 57 56,qg 57 true (qm 58 7),qg 57 true (qo 59 (.wc 3 1 [zI,zI,zI] [(0,1,(.c (.int .i64 9))),(1,1,(.c (.int .i64 10))),(2,1,(.c (.int .i64 12)))])),qg 57 true (qc 60 pT [58,59]),qp 61 57 60,qm 0 61]
def Ob:bP:=Hx [(5,[0]),(4,[1,2,3,4,5,6,7,8]),(3,[1,2,3,4,5,6]),(2,[1,2,3,4]),(1,[1,2]),(0,[])] [] [] [5] [5] [] []
def GA:Abs.Fn:=⟨0,[.t 0],
 (.seq (.ak [] az6) (.seq (.ak [1,2] az7) (.seq (.ak [1,2,3,4] az8) (.seq (.ak [1,2,3,4,5,6] az9) (.seq (.ak [1,2,3,4,5,6,7,8] aAa) (.seq (.ak [0] aAb) .ret))))))⟩
def aAc :=[qx 3 1,qo 4 (.eK [] [zI,zI,zI,zI]),qi 5 0]
def aAd :=[qm 10 0,qc 11 fH [10],qm 6 11]
def aAe :=[qm 12 6,qn 13 .neq 12 0]
def aAf :=[qo 14 (.mJ [zI,zI,zI,zI] []),qm 15 6,qs 4 4 4 14,qm 5 15]
def aAg :=[qm 17 0,qo 18 (.call true (.c (.fn iy [] [])) [(.t 17)]),qm 16 18,qz 19 16 0,qz 20 16 1,qm 7 19,qm 8 20]
def aAh :=[qm 21 7,qo 22 (.nN (.t 21)),qf 23 0 22,qf 24 9 23,ql 25 1 24,qo 26 (.zR wv [] [(.t 3)]),qc 27 dw [25,26],qm 9 27]
def aAi :=[qm 29 9,qn 30 .lss 29 0,qm 28 30]
def aAj :=[qo 31 (.mJ [zI,zI,zI,zI] []),qs 4 4 4 31,qi 5 5]
def aAk :=[qm 33 7,qo 34 (.nN (.t 33)),qf 35 0 34,qf 36 9 35,ql 37 1 36,qm 38 9,qj 39 4 37 38,qf 40 2 39,ql 41 1 40,qm 32 41]
def aAl :=[qo 42 (.mJ [zI,zI,zI,zI] []),qs 4 4 4 42,qi 5 7]
def auy :=[qm 43 7,qo 44 (.nN (.t 43)),qf 45 19 44,ql 46 1 45,qm 47 9,qj 48 4 46 47,qa 49 4 48,qs 4 4 4 49,qi 5 0]
def MJ:bP:=Hx [(10,[4,5]),(7,[4,5]),(9,[4,5]),(8,[4,7,9,32]),(6,[4,7,9,28]),(5,[4,7,9]),(4,[3,4,7]),(3,[4,5]),(2,[0,3,4,6,13]),(1,[0,3,4,6]),(0,[0,3,4])] [] [] [4] [4] [] [4001]
def Eu:Abs.Fn:=⟨2,[.v 4 true 4,.t 5],
 (.seq (.ak [0,3,4] aAc) (.seq (.seq (.ak [0,3,4,6] aAd) (.seq (.ak [0,3,4,6,13] aAe) (.ite (.t 13) (.seq (.ak [4,5] aAf) .ret) .cU))) (.seq (.ak [3,4,7] aAg) (.seq (.ak [4,7,9] aAh) (.seq (.bB 0 (.seq (.ak [4,7,9,28] aAi) (.ite (.t 28) (.seq (.ak [4,5] aAj) .ret) (.seq (.ak [4,7,9,32] aAk) (.ite (.t 32) (.seq (.ak [4,5] aAl) .ret) .cU))))) (.seq (.ak [4,5] auy) .ret))))))⟩
def ake :=[qo 2 (.rk 1)]
def akf :=[qm 3 0,qo 4 (.app 1 16 (.c .aH) (.t 3)),qm 2 4]
def P5:bP:=Tl [(1,[2]),(0,[0])] [] [] [2,4]
def uY:Abs.Fn:=⟨1,[.t 2],
 (.seq (.ak [0] ake) (.seq (.ak [2] akf) .ret))⟩
@[simp] theorem e19:type_of% (show ake=_∧akf=_ from by simp only[zI,ake,akf,qo,qm];exact⟨rfl,rfl⟩):=⟨rfl,rfl⟩
theorem Qp:type_of% uY.eq_1:=ah uY.eq_1
def akg :=[qb 2 false]
def akh :=[qi 3 0]
def aki :=[qm 4 3,qm 5 0,qe 6 5,qk 7 .lss 4 6]
def akj :=[qm 10 0,qm 11 3,qj 12 1 10 11,ql 13 1 12,qo 14 (.BA (.Jv) [(.t 13)]),qn 15 .gtr 14 4000]
def akk :=[qb 2 false]
def akl :=[qm 8 3,qn 9 .add 8 1,qm 3 9]
def sA:Abs.cZ :=
 (.seq (.seq (.ak [0,3,7] aki) (.ite (.t 7) .cU (.exit 0))) (.seq (.bB 1 (.seq (.ak [0,3,15] akj) (.ite (.t 15) (.seq (.ak [2] akk) .ret) .cU))) (.ak [0,3] akl)))
def akm :=[qm 16 0,qe 17 16,qn 18 .leq 17 100,qm 2 18]
def Oi:bP:=K1 [(6,[2]),(3,[0,3]),(5,[2]),(4,[0,3,15]),(2,[0,3,7]),(1,[0,3]),(0,[0])] [(0,[0,3])]
def tt:Abs.Fn:=⟨1,[.t 2],
 (.seq (.ak [0] akg) (.seq (.seq (.ak [0,3] akh) (.bB 0 (.loop [0,3] false sA))) (.seq (.ak [2] akm) .ret)))⟩
@[simp] theorem e20:type_of% (show akg=_∧akh=_∧aki=_∧akj=_∧akk=_∧akl=_∧akm=_ from by simp only[zI,akg,akh,aki,akj,akk,akl,akm,qo,qm,qi,qb,ql,qe,qj,qk,qn];exact⟨rfl,rfl,rfl,rfl,rfl,rfl,rfl⟩):=⟨rfl,rfl,rfl,rfl,rfl,rfl,rfl⟩
theorem Bi:type_of% sA.eq_1:=ah sA.eq_1
theorem OC:type_of% tt.eq_1:=ah tt.eq_1
def aAm :=[qo 4 (.mv (.c .aH)),qi 5 0]
def aAn :=[qm 13 0,qc 14 fH [13],qm 6 14]
def aAo :=[qm 15 6,qn 16 .neq 15 0]
def aAp :=[qm 17 6,qo 4 (.mv (.c .aH)),qm 5 17]
def aAq :=[qm 18 1,qm 19 0,qe 20 19,qn 21 .sub 20 1,qo 22 (.call false (.c (.fn cG [] [])) [(.t 18),(.c zI),(.t 21)]),qu 23 22]
def aAr :=[qo 4 (.mv (.c .aH)),qi 5 2]
def aAs :=[qm 25 0,qo 26 (.call true (.c (.fn iy [] [])) [(.t 25)]),qm 24 26,qz 27 24 0,qz 28 24 1,qm 7 27,qm 8 28]
def aAt :=[qm 30 0,qo 31 (.call true (.c (.fn rB [] [])) [(.t 30)]),qm 32 1,qm 33 1,qn 34 .add 33 1,qc 35 fP [31,32,34],qo 36 (.call true (.c (.fn iy [] [])) [(.t 35)]),qm 29 36,qz 37 29 0,qz 38 29 1,qm 9 37,qm 10 38]
def aAu :=[qo 11 (.rk 1)]
def aAv :=[qm 39 1,qn 40 .add 39 1,qm 12 40]
def avb :=[qm 41 12,qm 42 0,qe 43 42,qk 44 .lss 41 43]
def avc :=[qM 47 8,qM 48 12,qJ 49 1 47 48,qL 50 1 49,qM 51 10,qM 52 12,qN 53 .sub 52 1,qJ 54 1 51 53,qL 55 1 54,qk 56 .neq 50 55]
def avd :=[qm 57 11,qm 58 12,qo 59 (.wc 1 1 [zI] [(0,1,(.t 58))]),qy 60 1 8 57 59,qm 11 60]
def ave :=[qm 45 12,qn 46 .add 45 1,qm 12 46]
def DC:Abs.cZ :=
 (.seq (.seq (.ak [0,8,10,11,12,44] avb) (.ite (.t 44) .cU (.exit 0))) (.seq (.bB 1 (.seq (.ak [0,8,10,11,12,56] avc) (.ite (.t 56) (.ak [0,8,10,11,12] avd) .cU))) (.ak [0,8,10,11,12] ave)))
def avf :=[qm 61 11,qm 4 61,qi 5 0]
def Iy:bP:=Hx [(14,[4,5]),(11,[0,8,10,11,12]),(13,[0,8,10,11,12]),(12,[0,8,10,11,12,56]),(10,[0,8,10,11,12,44]),(9,[0,8,10,11,12]),(8,[0,1,8,10,11]),(7,[0,1,8,10]),(6,[0,1,8]),(5,[4,5]),(4,[0,1,23]),(3,[4,5]),(2,[0,1,6,16]),(1,[0,1,6]),(0,[0,1])] [(0,[0,8,10,11,12])] [] [11] [] [] [6001,7001,7006]
def zF:Abs.Fn:=⟨2,[.t 4,.t 5],
 (.seq (.ak [0,1] aAm) (.seq (.seq (.ak [0,1,6] aAn) (.seq (.ak [0,1,6,16] aAo) (.ite (.t 16) (.seq (.ak [4,5] aAp) .ret) .cU))) (.seq (.seq (.ak [0,1,23] aAq) (.ite (.t 23) (.seq (.ak [4,5] aAr) .ret) .cU)) (.seq (.ak [0,1,8] aAs) (.seq (.ak [0,1,8,10] aAt) (.seq (.ak [0,1,8,10,11] aAu) (.seq (.seq (.ak [0,8,10,11,12] aAv) (.bB 0 (.loop [0,8,10,11,12] false DC))) (.seq (.ak [4,5] avf) .ret))))))))⟩
def akn :=[qb 4 false]
def ako :=[qm 6 0,qe 7 6,qm 8 1,qe 9 8,qk 10 .neq 7 9]
def akp :=[qb 4 false]
def akq :=[qi 5 0]
def akr :=[qm 11 5,qm 12 0,qe 13 12,qk 14 .lss 11 13]
def aks :=[qM 17 0,qM 18 5,qJ 19 1 17 18,qL 20 1 19,qM 21 1,qM 22 5,qJ 23 1 21 22,qL 24 1 23,qk 25 .neq 20 24]
def akt :=[qb 4 false]
def aku :=[qm 15 5,qn 16 .add 15 1,qm 5 16]
def tI:Abs.cZ :=
 (.seq (.seq (.ak [0,1,5,14] akr) (.ite (.t 14) .cU (.exit 0))) (.seq (.bB 1 (.seq (.ak [0,1,5,25] aks) (.ite (.t 25) (.seq (.ak [4] akt) .ret) .cU))) (.ak [0,1,5] aku)))
def akv :=[qb 4 true]
def P4:bP:=K1 [(8,[4]),(5,[0,1,5]),(7,[4]),(6,[0,1,5,25]),(4,[0,1,5,14]),(3,[0,1,5]),(2,[4]),(1,[0,1,10]),(0,[0,1])] [(0,[0,1,5])]
def uX:Abs.Fn:=⟨2,[.t 4],
 (.seq (.ak [0,1] akn) (.seq (.seq (.ak [0,1,10] ako) (.ite (.t 10) (.seq (.ak [4] akp) .ret) .cU)) (.seq (.seq (.ak [0,1,5] akq) (.bB 0 (.loop [0,1,5] false tI))) (.seq (.ak [4] akv) .ret))))⟩
@[simp] theorem e23:type_of% (show akn=_∧ako=_∧akp=_∧akq=_∧akr=_∧aks=_∧akt=_∧aku=_∧akv=_ from by simp only[zI,akn,ako,akp,akq,akr,aks,akt,aku,akv,qm,qM,qi,qb,qL,qe,qJ,qk,qn];exact⟨rfl,rfl,rfl,rfl,rfl,rfl,rfl,rfl,rfl⟩):=⟨rfl,rfl,rfl,rfl,rfl,rfl,rfl,rfl,rfl⟩
theorem CU:type_of% tI.eq_1:=ah tI.eq_1
theorem Qo:type_of% uX.eq_1:=ah uX.eq_1
def aAw :=[qo 2 (.mv (.c (.str []))),qi 3 0]
def aAx :=[qm 14 0,qc 15 fH [14],qm 4 15]
def aAy :=[qm 16 4,qn 17 .neq 16 0]
def aAz :=[qm 18 4,qo 2 (.mv (.c (.str []))),qm 3 18]
def aAA :=[qm 20 0,qo 21 (.call true (.c (.fn iy [] [])) [(.t 20)]),qm 19 21,qz 22 19 0,qz 23 19 1,qm 5 22,qm 6 23]
def aAB :=[qo 7 (.mp (.mJ 166 5) [])]
def aAC :=[qo 24 (.zR tT [] [(.t 7)]),qm 8 24]
def aAD :=[qo 9 (.mv (.c (.fn eD [] [])))]
def aAE :=[qM 25 8,qM 26 9,qM 27 5,qO 28 (.nN (.t 27)),qF 29 0 28,qF 30 10 29,qL 31 1 30,qE 32 31,qO 33 (.call false (.t 26) [(.t 32)]),qM 34 9,qM 35 5,qC 36 gq [35],qO 37 (.Tx .i64 (.t 36)),qO 38 (.call false (.t 34) [(.t 37)]),qM 39 9,qM 40 5,qO 41 (.nN (.t 40)),qF 42 0 41,qF 43 0 42,qF 44 8 43,qL 45 1 44,qE 46 45,qO 47 (.call false (.t 39) [(.t 46)]),qO 48 (.wc 6 1 [(.str []),(.str []),(.str []),(.str []),(.str []),(.str [])] [(0,1,(.c (.str [116,105,99,107,115]))),(1,1,(.t 33)),(2,1,(.c (.str [99,111,108,111,117,114]))),(3,1,(.t 38)),(4,1,(.c (.str [119,101,108,108,115]))),(5,1,(.t 47))]),qo 49 (.call false (.t 25) [(.t 48)])]
def aAF :=[qm 50 5,qo 51 (.nN (.t 50)),qf 52 0 51,qf 53 9 52,ql 54 1 53,qe 55 54,qi 56 0]
def avA :=[qk 57 .lss 56 55]
def avB :=[qj 58 4 54 56,qa 59 4 58,qo 11 (.eK [] [(.str []),.aH,(.bool false),zI]),qs 11 4 11 59]
def avC :=[qf 60 2 11,qv 61 11 1 60]
def avD :=[qm 62 8,qf 63 0 11,qf 64 0 63,qv 65 11 1 64,qo 66 (.wc 3 1 [(.str []),(.str []),(.str [])] [(0,1,(.c (.str [109,111,100,101,108]))),(1,1,(.t 65)),(2,1,(.c (.str [108,101,102,116])))]),qo 67 (.call false (.t 62) [(.t 66)])]
def avE :=[qM 68 8,qF 69 0 11,qF 70 0 69,qV 71 11 1 70,qM 72 9,qF 73 3 11,qV 74 11 1 73,qO 75 (.call false (.t 72) [(.t 74)]),qO 76 (.wc 4 1 [(.str []),(.str []),(.str []),(.str [])] [(0,1,(.c (.str [109,111,100,101,108]))),(1,1,(.t 71)),(2,1,(.c (.str [115,116,114,117,99,107]))),(3,1,(.t 75))]),qo 77 (.call false (.t 68) [(.t 76)])]
def avF :=[qn 78 .add 56 1,qm 56 78]
def Ew:Abs.cZ :=
 (.seq (.ak [5,7,8,9,54,55,56,57] avA) (.seq (.ite (.t 57) .cU (.exit 0)) (.seq (.bB 1 (.seq (.ak [5,7,8,9,11,54,55,56] avB) (.seq (.ak [5,7,8,9,11,54,55,56,61] avC) (.ite (.t 61) (.ak [5,7,8,9,54,55,56] avD) (.ak [5,7,8,9,54,55,56] avE))))) (.ak [5,7,8,9,54,55,56] avF))))
def avG :=[qm 79 5,qo 80 (.nN (.t 79)),qf 81 0 80,qf 82 17 81,ql 83 1 82,qe 84 83,qi 85 0]
def avH :=[qk 86 .lss 85 84]
def avI :=[qm 87 85,qj 88 6 83 85,qa 89 6 88,qo 13 (.eK [] [zI,zI,zI,zI,zI,zI]),qm 12 87,qs 13 6 13 89]
def avJ :=[qM 90 8,qM 91 9,qM 92 12,qO 93 (.call false (.t 91) [(.t 92)]),qM 94 9,qF 95 0 13,qV 96 13 1 95,qO 97 (.call false (.t 94) [(.t 96)]),qM 98 9,qF 99 1 13,qV 100 13 1 99,qO 101 (.call false (.t 98) [(.t 100)]),qF 102 2 13,qW 103 13 2 102,qC 104 oA [103],qF 105 4 13,qW 106 13 2 105,qC 107 oA [106],qO 108 (.wc 10 1 [(.str []),(.str []),(.str []),(.str []),(.str []),(.str []),(.str []),(.str []),(.str []),(.str [])] [(0,1,(.c (.str [115,97,108,101]))),(1,1,(.t 93)),(2,1,(.c (.str [116,105,99,107]))),(3,1,(.t 97)),(4,1,(.c (.str [119,101,108,108]))),(5,1,(.t 101)),(6,1,(.c (.str [119,111,114,107]))),(7,1,(.t 104)),(8,1,(.c (.str [109,111,110,101,121]))),(9,1,(.t 107))]),qo 109 (.call false (.t 90) [(.t 108)])]
def avK :=[qn 110 .add 85 1,qm 85 110]
def Ex:Abs.cZ :=
 (.seq (.ak [7,8,9,83,84,85,86] avH) (.seq (.ite (.t 86) .cU (.exit 2)) (.seq (.bB 3 (.seq (.ak [7,8,9,12,13,83,84,85] avI) (.ak [7,8,9,83,84,85] avJ))) (.ak [7,8,9,83,84,85] avK))))
def avL :=[qc 111 eM [7],qm 2 111,qi 3 0]
def JS:bP:=Hx [(21,[2,3]),(20,[7,8,9,83,84,85]),(19,[7,8,9,83,84,85]),(18,[7,8,9,12,13,83,84,85]),(17,[7,8,9,83,84,85,86]),(16,[7,8,9,83,84,85]),(15,[5,7,8,9,54,55,56]),(13,[5,7,8,9,54,55,56]),(14,[5,7,8,9,54,55,56]),(12,[5,7,8,9,11,54,55,56,61]),(11,[5,7,8,9,11,54,55,56]),(10,[5,7,8,9,54,55,56,57]),(9,[5,7,8,9,54,55,56]),(8,[5,7,8,9]),(7,[5,7,8,9]),(6,[5,7,8]),(5,[5,7]),(4,[5]),(3,[2,3]),(2,[0,4,17]),(1,[0,4]),(0,[0])] [(2,[7,8,9,83,84,85]),(0,[5,7,8,9,54,55,56])] [] [7,11,13] [11,13] [] [4001,2005000]
def Bn:Abs.Fn:=⟨1,[.t 2,.t 3],
 (.seq (.ak [0] aAw) (.seq (.seq (.ak [0,4] aAx) (.seq (.ak [0,4,17] aAy) (.ite (.t 17) (.seq (.ak [2,3] aAz) .ret) .cU))) (.seq (.ak [5] aAA) (.seq (.ak [5,7] aAB) (.seq (.ak [5,7,8] aAC) (.seq (.ak [5,7,8,9] aAD) (.seq (.ak [5,7,8,9] aAE) (.seq (.seq (.ak [5,7,8,9,54,55,56] aAF) (.bB 0 (.loop [5,7,8,9,54,55,56] false Ew))) (.seq (.seq (.ak [7,8,9,83,84,85] avG) (.bB 2 (.loop [7,8,9,83,84,85] false Ex))) (.seq (.ak [2,3] avL) .ret))))))))))⟩
def akw :=[qo 2 (.eK [] [zI,zI,zI,zI,.aH,zI,zI,zI,.aH,.aH,.aH,.aH,.aH,zI,zI,zI,.aH,.aH]),qo 3 (.mv (.c .aH)),qi 4 0]
def akx :=[qm 8 0,qc 9 fH [8],qm 5 9]
def aky :=[qm 10 5,qn 11 .neq 10 0]
def akz :=[qo 12 (.mJ [zI,zI,zI,zI,.aH,zI,zI,zI,.aH,.aH,.aH,.aH,.aH,zI,zI,zI,.aH,.aH] []),qm 13 5,qs 2 18 2 12,qo 3 (.mv (.c .aH)),qm 4 13]
def akA :=[qm 15 0,qo 16 (.call true (.c (.fn iy [] [])) [(.t 15)]),qm 14 16,qz 17 14 0,qz 18 14 1,qm 6 17,qm 7 18]
def akB :=[qm 19 6,qo 20 (.nN (.t 19)),qf 21 0 20,qa 22 18 21,qm 23 7,qs 2 18 2 22,qm 3 23,qi 4 0]
def Od:bP:=Hx [(5,[2,3,4]),(4,[2,6,7]),(3,[2,3,4]),(2,[0,2,5,11]),(1,[0,2,5]),(0,[0,2])] [] [] [2] [2] [] [4001]
def tf:Abs.Fn:=⟨1,[.v 2 true 18,.t 3,.t 4],
 (.seq (.ak [0,2] akw) (.seq (.seq (.ak [0,2,5] akx) (.seq (.ak [0,2,5,11] aky) (.ite (.t 11) (.seq (.ak [2,3,4] akz) .ret) .cU))) (.seq (.ak [2,6,7] akA) (.seq (.ak [2,3,4] akB) .ret))))⟩
@[simp] theorem e27:type_of% (show akw=_∧akx=_∧aky=_∧akz=_∧akA=_∧akB=_ from by simp only[zI,akw,akx,aky,akz,akA,akB,qo,qm,qi,qf,qa,qn,qs,qz,qc,aj,aw];exact⟨rfl,rfl,rfl,rfl,rfl,rfl⟩):=⟨rfl,rfl,rfl,rfl,rfl,rfl⟩
theorem Oz:type_of% tf.eq_1:=ah tf.eq_1
def akC :=[qx 3 0,qx 4 1,qx 5 2,qi 6 0,qi 7 0]
def akD :=[qa 9 4 3,qo 10 (.zR cS [(.t 9)] []),qo 11 (.zR rn [] [(.t 3),(.t 4)]),qo 12 (.zR oL [] [(.t 3),(.t 5)]),qo 13 (.wc 3 1 [.jj,.jj,.jj] [(0,1,(.t 10)),(1,1,(.t 11)),(2,1,(.t 12))]),qc 14 oM [13],qm 8 14]
def akE :=[qm 15 8,qn 16 .neq 15 0]
def akF :=[qm 17 8,qi 6 0,qm 7 17]
def akG :=[qA 18 4 3,qA 19 6 5,qC 20 kL [18,19],qA 21 2 4,qo 22 (.call false (.t 20) [(.t 21)]),qm 6 22,qi 7 0]
def Td:bP:=jc [(4,[6,7]),(3,[6,7]),(2,[3,4,5,8,16]),(1,[3,4,5,8]),(0,[3,4,5])]
def wV:Abs.Fn:=⟨3,[.t 6,.t 7],
 (.seq (.ak [3,4,5] akC) (.seq (.seq (.ak [3,4,5,8] akD) (.seq (.ak [3,4,5,8,16] akE) (.ite (.t 16) (.seq (.ak [6,7] akF) .ret) .cU))) (.seq (.ak [6,7] akG) .ret)))⟩
@[simp] theorem e30:type_of% (show akC=_∧akD=_∧akE=_∧akF=_∧akG=_ from by simp only[zI,akC,akD,akE,akF,akG,qo,qm,qi,qa,qA,qx,qn,qc,qC,aj,aw];exact⟨rfl,rfl,rfl,rfl,rfl⟩):=⟨rfl,rfl,rfl,rfl,rfl⟩
theorem TG:type_of% wV.eq_1:=ah wV.eq_1
def akH :=[qx 4 0,qo 8 (.rk 1),qo 9 (.rk 3),qo 10 (.On [] [zI])]
def akI :=[qa 22 9 4,qm 23 1,qm 24 2,qc 25 vk [22,23,24],qm 11 25]
def akJ :=[qm 26 11,qn 27 .neq 26 0]
def akK :=[qm 28 11,qo 8 (.rk 1),qo 9 (.rk 3),qt 1 10 28]
def akL :=[qm 29 3,qe 30 29,qn 31 .gtr 30 40]
def akM :=[qo 8 (.rk 1),qo 9 (.rk 3),⟨none,none,false,.st [] 1 (.t 10) (.c (.int .i64 3))⟩]
def akN :=[qm 32 3,qe 33 32,qi 34 0]
def akO :=[qk 35 .lss 34 33]
def akP :=[qj 36 5 32 34,qa 37 5 36,qo 13 (.eK [] [zI,(.int .u8 0),zI,zI,zI]),qs 13 5 13 37]
def akQ :=[qa 38 9 4,qw 39 13 5 13,qm 40 2,qe 41 40,qc 42 nC [38,39,41],qm 14 42]
def acs :=[qm 43 14,qn 44 .neq 43 0]
def acu :=[qm 45 14,qo 8 (.rk 1),qo 9 (.rk 3),qt 1 10 45]
def acv :=[qn 46 .add 34 1,qm 34 46]
def pN:Abs.cZ :=
 (.seq (.ak [1,2,3,4,8,9,10,32,33,34,35] akO) (.seq (.ite (.t 35) .cU (.exit 0)) (.seq (.bB 1 (.seq (.ak [1,2,3,4,8,9,10,13,32,33,34] akP) (.seq (.ak [1,2,3,4,8,9,10,14,32,33,34] akQ) (.seq (.ak [1,2,3,4,8,9,10,14,32,33,34,44] acs) (.ite (.t 44) (.seq (.ak [8,9,10] acu) .ret) .cU))))) (.ak [1,2,3,4,8,9,10,32,33,34] acv))))
def acw :=[qa 47 9 4,qm 48 1,qm 49 2]
def acx :=[qm 15 50]
def acy :=[qm 51 1,qe 52 51,qi 53 0]
def acz :=[qk 54 .lss 53 52]
def acA :=[qm 55 53,qj 56 2 51 53,qa 57 2 56,qo 17 (.eK [] [(.str []),.aH]),qm 16 55,qs 17 2 17 57]
def acB :=[qm 58 3,qe 59 58,qm 18 59]
def acC :=[qm 60 3,qe 61 60,qi 62 0]
def acD :=[qk 63 .lss 62 61]
def acE :=[qm 64 62,qj 65 5 60 62,qa 66 5 65,qo 20 (.eK [] [zI,(.int .u8 0),zI,zI,zI]),qm 19 64,qs 20 5 20 66]
def acF :=[qF 67 3 20,qW 68 20 2 67,qA 69 9 4,qW 70 17 2 17,qO 71 (.mJ [zI,zI,zI,zI,.aH,zI,zI,zI,.aH,(.str []),.aH] [(0,9,(.t 69)),(9,2,(.t 70))]),qM 72 15,qM 73 16,qJ 74 2 72 73,qA 75 2 74,qW 76 20 5 20,qC 77 l8 [71,75,76],qc 78 oE [68,77],qm 21 78]
def acG :=[qm 79 21,qn 80 .neq 79 0,qm 81 80,qg 81 true (qm 82 18),qg 81 true (qm 83 3),qg 81 true (qe 84 83),qg 81 true (qk 85 .eql 82 84),qp 86 81 85]
def acH :=[qm 87 19,qm 18 87]
def acI :=[qm 88 9,qm 89 16,qm 90 19,qm 91 21,qo 92 (.mJ [zI,zI,zI] [(0,1,(.t 89)),(1,1,(.t 90)),(2,1,(.t 91))]),qo 93 (.wc 1 3 [zI,zI,zI] [(0,3,(.t 92))]),qy 94 3 24 88 93,qm 9 94]
def acJ :=[qn 95 .add 62 1,qm 62 95]
def pO:Abs.cZ :=
 (.seq (.ak [3,4,8,9,10,15,16,17,18,51,52,53,60,61,62,63] acD) (.seq (.ite (.t 63) .cU (.exit 4)) (.seq (.bB 5 (.seq (.ak [3,4,8,9,10,15,16,17,18,19,20,51,52,53,60,61,62] acE) (.seq (.ak [3,4,8,9,10,15,16,17,18,19,21,51,52,53,60,61,62] acF) (.seq (.ak [3,4,8,9,10,15,16,17,18,19,21,51,52,53,60,61,62,86] acG) (.ite (.t 86) (.seq (.ak [3,4,8,9,10,15,16,17,18,19,21,51,52,53,60,61,62] acH) (.ak [3,4,8,9,10,15,16,17,18,51,52,53,60,61,62] acI)) .cU))))) (.ak [3,4,8,9,10,15,16,17,18,51,52,53,60,61,62] acJ))))
def acK :=[qm 96 18,qm 97 3,qe 98 97,qk 99 .eql 96 98]
def acL :=[qm 100 8,qm 101 16,qo 102 (.wc 1 1 [zI] [(0,1,(.t 101))]),qy 103 1 8 100 102,qm 8 103]
def acM :=[qn 104 .add 53 1,qm 53 104]
def pP:Abs.cZ :=
 (.seq (.ak [3,4,8,9,10,15,51,52,53,54] acz) (.seq (.ite (.t 54) .cU (.exit 2)) (.seq (.bB 3 (.seq (.ak [3,4,8,9,10,15,16,17,51,52,53] acA) (.seq (.ak [3,4,8,9,10,15,16,17,18,51,52,53] acB) (.seq (.seq (.ak [3,4,8,9,10,15,16,17,18,51,52,53,60,61,62] acC) (.bB 4 (.loop [3,4,8,9,10,15,16,17,18,51,52,53,60,61,62] false pO))) (.seq (.ak [3,4,8,9,10,15,16,51,52,53,99] acK) (.ite (.t 99) (.ak [3,4,8,9,10,15,51,52,53] acL) .cU)))))) (.ak [3,4,8,9,10,15,51,52,53] acM))))
def acN :=[qm 105 8,qm 106 9,qm 8 105,qm 9 106,⟨none,none,false,.st [] 1 (.t 10) (.c zI)⟩]
def tO:Abs.cZ :=
 (.seq (.jk [1,3,4,8,9,10,15] acw ⟨some 50,none,false,.call false (.c (.fn um [] [])) [(.t 47),(.t 48),(.t 49)]⟩ acx) (.seq (.seq (.ak [3,4,8,9,10,15,51,52,53] acy) (.bB 2 (.loop [3,4,8,9,10,15,51,52,53] false pP))) (.seq (.ak [8,9,10] acN) .ret)))
def MO:bP:=⟨[(30,[8,9,10]),(29,[3,4,8,9,10,15,51,52,53]),(28,[3,4,8,9,10,15,51,52,53]),(27,[3,4,8,9,10,15,16,51,52,53,99]),(26,[3,4,8,9,10,15,16,17,18,51,52,53,60,61,62]),(25,[3,4,8,9,10,15,16,17,18,51,52,53,60,61,62]),(24,[3,4,8,9,10,15,16,17,18,19,21,51,52,53,60,61,62]),(23,[3,4,8,9,10,15,16,17,18,19,21,51,52,53,60,61,62,86]),(22,[3,4,8,9,10,15,16,17,18,19,21,51,52,53,60,61,62]),(21,[3,4,8,9,10,15,16,17,18,19,20,51,52,53,60,61,62]),(20,[3,4,8,9,10,15,16,17,18,51,52,53,60,61,62,63]),(19,[3,4,8,9,10,15,16,17,18,51,52,53,60,61,62]),(18,[3,4,8,9,10,15,16,17,18,51,52,53]),(17,[3,4,8,9,10,15,16,17,51,52,53]),(16,[3,4,8,9,10,15,51,52,53,54]),(15,[3,4,8,9,10,15,51,52,53]),(14,[1,3,4,8,9,10,15]),(13,[1,2,3,4,8,9,10]),(12,[1,2,3,4,8,9,10,32,33,34]),(11,[8,9,10]),(10,[1,2,3,4,8,9,10,14,32,33,34,44]),(9,[1,2,3,4,8,9,10,14,32,33,34]),(8,[1,2,3,4,8,9,10,13,32,33,34]),(7,[1,2,3,4,8,9,10,32,33,34,35]),(6,[1,2,3,4,8,9,10,32,33,34]),(5,[8,9,10]),(4,[1,2,3,4,8,9,10,31]),(3,[8,9,10]),(2,[1,2,3,4,8,9,10,11,27]),(1,[1,2,3,4,8,9,10,11]),(0,[1,2,3,4,8,9,10])],[(4,[3,4,8,9,10,15,16,17,18,51,52,53,60,61,62]),(2,[3,4,8,9,10,15,51,52,53]),(0,[1,2,3,4,8,9,10,32,33,34])],[0],[8,9,10,13,17,20],[13,17,20],[],[],[(0,[0,1000002])],[],[],[(14,some 3)]⟩
def rY:Abs.Fn:=⟨4,[.t 8,.t 9,.c 10 false 1],
 (.seq (.seq (.cI [0,1000002]) (.ak [1,2,3,4,8,9,10] akH)) (.seq (.seq (.ak [1,2,3,4,8,9,10,11] akI) (.seq (.ak [1,2,3,4,8,9,10,11,27] akJ) (.ite (.t 27) (.seq (.ak [8,9,10] akK) .ret) .cU))) (.seq (.seq (.ak [1,2,3,4,8,9,10,31] akL) (.ite (.t 31) (.seq (.ak [8,9,10] akM) .ret) .cU)) (.seq (.seq (.ak [1,2,3,4,8,9,10,32,33,34] akN) (.bB 0 (.loop [1,2,3,4,8,9,10,32,33,34] true pN))) (.dfr (.c (.fn fI [] [])) [(.t 10)] tO)))))⟩
@[simp] theorem e31:type_of% (show akH=_∧akI=_∧akJ=_∧akK=_∧akL=_∧akM=_∧akN=_∧akO=_∧akP=_∧akQ=_∧acs=_∧acu=_∧acv=_∧acw=_∧acx=_∧acy=_∧acz=_∧acA=_∧acB=_∧acC=_∧acD=_∧acE=_∧acF=_∧acG=_∧acH=_∧acI=_∧acJ=_∧acK=_∧acL=_∧acM=_∧acN=_ from by simp only[zI,akH,akI,akJ,akK,akL,akM,akN,akO,akP,akQ,acs,acu,acv,acw,acx,acy,acz,acA,acB,acC,acD,acE,acF,acG,acH,acI,acJ,acK,acL,acM,acN,qo,qO,qm,qM,qi,qF,qa,qA,qw,qW,qx,qe,qj,qJ,qk,qn,qp,qs,qt,qc,qC,qy,qg,aj,aw];exact⟨rfl,rfl,rfl,rfl,rfl,rfl,rfl,rfl,rfl,rfl,rfl,rfl,rfl,rfl,rfl,rfl,rfl,rfl,rfl,rfl,rfl,rfl,rfl,rfl,rfl,rfl,rfl,rfl,rfl,rfl,rfl⟩):=⟨rfl,rfl,rfl,rfl,rfl,rfl,rfl,rfl,rfl,rfl,rfl,rfl,rfl,rfl,rfl,rfl,rfl,rfl,rfl,rfl,rfl,rfl,rfl,rfl,rfl,rfl,rfl,rfl,rfl,rfl,rfl⟩
theorem yQ:type_of% pN.eq_1:=ah pN.eq_1
theorem yR:type_of% pO.eq_1:=ah pO.eq_1
theorem yS:type_of% pP.eq_1:=ah pP.eq_1
theorem yP:type_of% tO.eq_1:=ah tO.eq_1
theorem yO:type_of% rY.eq_1:=ah rY.eq_1
def akR :=[qo 6 (.mv (.c (.int .u8 0))),qo 7 (.mv (.c (.int .u8 0))),qi 8 0]
def akS :=[qm 17 0,qe 18 17,qn 19 .gtr 18 20,qm 16 19]
def akT :=[qo 6 (.mv (.c (.int .u8 0))),qo 7 (.mv (.c (.int .u8 0))),qi 8 3]
def akU :=[qm 21 0,qo 22 (.call false (.c (.fn dE [] [])) [(.t 21),(.c (.fn eP [] []))]),qu 23 22,qm 20 23]
def akV :=[qo 6 (.mv (.c (.int .u8 0))),qo 7 (.mv (.c (.int .u8 0))),qi 8 1]
def akW :=[qm 25 1,qe 26 25,qn 27 .gtr 26 200,qm 24 27]
def akX :=[qo 6 (.mv (.c (.int .u8 0))),qo 7 (.mv (.c (.int .u8 0))),qi 8 3]
def akY :=[qm 29 1,qo 30 (.call false (.c (.fn dj [] [])) [(.t 29),(.c (.fn ed [] []))]),qu 31 30,qm 28 31]
def akZ :=[qo 6 (.mv (.c (.int .u8 0))),qo 7 (.mv (.c (.int .u8 0))),qi 8 1]
def ak0 :=[qm 33 2,qo 34 (.call false (.c (.fn cq [] [])) [(.t 33),(.c zI),(.c (.int .i64 1000000))]),qu 35 34,qm 32 35]
def ac6 :=[qo 6 (.mv (.c (.int .u8 0))),qo 7 (.mv (.c (.int .u8 0))),qi 8 2]
def ac7 :=[qm 36 0,qe 37 36,qi 38 0]
def ac8 :=[qk 39 .lss 38 37]
def ac9 :=[qj 40 10 36 38,qa 41 10 40,qo 10 (.eK [] [zI,zI,zI,zI,zI,zI,zI,zI,zI,(.int .u8 0)]),qs 10 10 10 41]
def ada :=[qi 11 0,qi 12 0]
def adb :=[qw 42 10 10 10,qo 43 (.zR ef [(.t 42)] []),qm 13 43]
def ade :=[qm 44 1,qe 45 44,qi 46 0]
def adf :=[qk 47 .lss 46 45]
def adg :=[qj 48 2 44 46,qa 49 2 48,qo 15 (.eK [] [zI,.aH]),qs 15 2 15 49]
def adh :=[qf 50 0 15,qv 51 15 1 50,qm 52 2,qk 53 .gtr 51 52,qm 54 53,qg 54 false (qf 55 0 15),qg 54 false (qv 56 15 1 55),qg 54 false (qm 57 2),qg 54 false (qf 58 7 10),qg 54 false (qv 59 10 1 58),qg 54 false (qk 60 .sub 57 59),qg 54 false (qk 61 .leq 56 60),qP 62 54 61]
def adi :=[qf 63 1 15,qv 64 15 1 63,qm 65 13,qc 66 cz [64,65]]
def adj :=[qm 67 11,qn 68 .add 67 1,qm 11 68]
def adk :=[qf 69 1 15,qv 70 15 1 69,qm 71 13,qc 72 eN [70,71]]
def adl :=[qm 73 12,qn 74 .add 73 1,qm 12 74]
def adm :=[qn 75 .add 46 1,qm 46 75]
def pR:Abs.cZ :=
 (.seq (.ak [1,2,6,7,10,11,12,13,36,37,38,44,45,46,47] adf) (.seq (.ite (.t 47) .cU (.exit 3)) (.seq (.bB 4 (.seq (.ak [1,2,6,7,10,11,12,13,15,36,37,38,44,45,46] adg) (.seq (.seq (.ak [1,2,6,7,10,11,12,13,15,36,37,38,44,45,46,62] adh) (.ite (.t 62) (.exit 4) .cU)) (.seq (.seq (.ak [1,2,6,7,10,11,12,13,15,36,37,38,44,45,46,66] adi) (.ite (.t 66) (.ak [1,2,6,7,10,11,12,13,15,36,37,38,44,45,46] adj) .cU)) (.seq (.ak [1,2,6,7,10,11,12,13,36,37,38,44,45,46,72] adk) (.ite (.t 72) (.ak [1,2,6,7,10,11,12,13,36,37,38,44,45,46] adl) .cU)))))) (.ak [1,2,6,7,10,11,12,13,36,37,38,44,45,46] adm))))
def adn :=[qm 76 11,qf 77 8 10,qv 78 10 1 77,qk 79 .geq 76 78]
def ado :=[qm 80 6,qf 81 9 10,qv 82 10 1 81,qo 83 (.mx (.t 80) (.t 82)),qm 6 83]
def adp :=[qm 84 12,qf 85 8 10,qv 86 10 1 85,qk 87 .geq 84 86]
def adq :=[qm 88 7,qf 89 9 10,qv 90 10 1 89,qo 91 (.mx (.t 88) (.t 90)),qm 7 91]
def ads :=[qn 92 .add 38 1,qm 38 92]
def pS:Abs.cZ :=
 (.seq (.ak [1,2,6,7,36,37,38,39] ac8) (.seq (.ite (.t 39) .cU (.exit 1)) (.seq (.bB 2 (.seq (.ak [1,2,6,7,10,36,37,38] ac9) (.seq (.ak [1,2,6,7,10,11,12,36,37,38] ada) (.seq (.ak [1,2,6,7,10,11,12,13,36,37,38] adb) (.seq (.seq (.ak [1,2,6,7,10,11,12,13,36,37,38,44,45,46] ade) (.bB 3 (.loop [1,2,6,7,10,11,12,13,36,37,38,44,45,46] false pR))) (.seq (.seq (.ak [1,2,6,7,10,12,36,37,38,79] adn) (.ite (.t 79) (.ak [1,2,6,7,10,12,36,37,38] ado) .cU)) (.seq (.ak [1,2,6,7,10,36,37,38,87] adp) (.ite (.t 87) (.ak [1,2,6,7,36,37,38] adq) .cU)))))))) (.ak [1,2,6,7,36,37,38] ads))))
def adt :=[qm 93 6,qm 94 7,qm 6 93,qm 7 94,qi 8 0]
def MS:bP:=Hx [(30,[6,7,8]),(29,[1,2,6,7,36,37,38]),(28,[1,2,6,7,36,37,38]),(27,[1,2,6,7,10,36,37,38,87]),(26,[1,2,6,7,10,12,36,37,38]),(25,[1,2,6,7,10,12,36,37,38,79]),(24,[1,2,6,7,10,11,12,13,36,37,38,44,45,46]),(23,[1,2,6,7,10,11,12,13,36,37,38,44,45,46]),(22,[1,2,6,7,10,11,12,13,36,37,38,44,45,46,72]),(21,[1,2,6,7,10,11,12,13,15,36,37,38,44,45,46]),(20,[1,2,6,7,10,11,12,13,15,36,37,38,44,45,46,66]),(19,[1,2,6,7,10,11,12,13,15,36,37,38,44,45,46,62]),(18,[1,2,6,7,10,11,12,13,15,36,37,38,44,45,46]),(17,[1,2,6,7,10,11,12,13,36,37,38,44,45,46,47]),(16,[1,2,6,7,10,11,12,13,36,37,38,44,45,46]),(15,[1,2,6,7,10,11,12,13,36,37,38]),(14,[1,2,6,7,10,11,12,36,37,38]),(13,[1,2,6,7,10,36,37,38]),(12,[1,2,6,7,36,37,38,39]),(11,[1,2,6,7,36,37,38]),(2,[6,7,8]),(4,[6,7,8]),(6,[6,7,8]),(8,[6,7,8]),(10,[6,7,8]),(9,[0,1,2,6,7,32]),(7,[0,1,2,6,7,28]),(5,[0,1,2,6,7,24]),(3,[0,1,2,6,7,20]),(1,[0,1,2,6,7,16]),(0,[0,1,2,6,7])] [(3,[1,2,6,7,10,11,12,13,36,37,38,44,45,46]),(1,[1,2,6,7,36,37,38])] [] [10,15] [10,15] [] []
def sc:Abs.Fn:=⟨3,[.t 6,.t 7,.t 8],
 (.seq (.ak [0,1,2,6,7] akR) (.seq (.bB 0 (.seq (.ak [0,1,2,6,7,16] akS) (.ite (.t 16) (.seq (.ak [6,7,8] akT) .ret) (.seq (.ak [0,1,2,6,7,20] akU) (.ite (.t 20) (.seq (.ak [6,7,8] akV) .ret) (.seq (.ak [0,1,2,6,7,24] akW) (.ite (.t 24) (.seq (.ak [6,7,8] akX) .ret) (.seq (.ak [0,1,2,6,7,28] akY) (.ite (.t 28) (.seq (.ak [6,7,8] akZ) .ret) (.seq (.ak [0,1,2,6,7,32] ak0) (.ite (.t 32) (.seq (.ak [6,7,8] ac6) .ret) .cU))))))))))) (.seq (.seq (.ak [1,2,6,7,36,37,38] ac7) (.bB 1 (.loop [1,2,6,7,36,37,38] false pS))) (.seq (.ak [6,7,8] adt) .ret))))⟩
@[simp] theorem e32:type_of% (show akR=_∧akS=_∧akT=_∧akU=_∧akV=_∧akW=_∧akX=_∧akY=_∧akZ=_∧ak0=_∧ac6=_∧ac7=_∧ac8=_∧ac9=_∧ada=_∧adb=_∧ade=_∧adf=_∧adg=_∧adh=_∧adi=_∧adj=_∧adk=_∧adl=_∧adm=_∧adn=_∧ado=_∧adp=_∧adq=_∧ads=_∧adt=_ from by simp only[zI,akR,akS,akT,akU,akV,akW,akX,akY,akZ,ak0,ac6,ac7,ac8,ac9,ada,adb,ade,adf,adg,adh,adi,adj,adk,adl,adm,adn,ado,adp,adq,ads,adt,qo,qm,qi,qf,qa,qv,qw,qe,qj,qk,qn,qu,qP,qs,qc,qg,aj,aw];exact⟨rfl,rfl,rfl,rfl,rfl,rfl,rfl,rfl,rfl,rfl,rfl,rfl,rfl,rfl,rfl,rfl,rfl,rfl,rfl,rfl,rfl,rfl,rfl,rfl,rfl,rfl,rfl,rfl,rfl,rfl,rfl⟩):=⟨rfl,rfl,rfl,rfl,rfl,rfl,rfl,rfl,rfl,rfl,rfl,rfl,rfl,rfl,rfl,rfl,rfl,rfl,rfl,rfl,rfl,rfl,rfl,rfl,rfl,rfl,rfl,rfl,rfl,rfl,rfl⟩
theorem tN:type_of% pR.eq_1:=ah pR.eq_1
theorem mM:type_of% pS.eq_1:=ah pS.eq_1
theorem yT:type_of% sc.eq_1:=ah sc.eq_1
def ak1 :=[qx 3 0,qx 4 1,qo 6 (.eK [] [.aH,.aH]),qo 7 (.On [] [zI])]
def ak2 :=[qa 10 9 3,qa 11 2 4,qc 12 tU [10,11],qm 9 12,qz 13 9 0,qz 14 9 1,qo 8 (.eK [] [zI,zI,zI,zI,.aH,zI,zI,zI,.aH,(.str []),.aH]),qs 8 11 8 13,qt 1 7 14]
def ak3 :=[ql 15 1 7,qn 16 .eql 15 0]
def ak4 :=[qa 17 9 3,qm 18 2,qc 19 nY [17,18],qt 1 7 19]
def ak5 :=[ql 20 1 7,qn 21 .neq 20 0]
def ak6 :=[qO 22 (.mJ [.aH,.aH] []),qL 23 1 7,qS 6 2 6 22,qt 1 7 23]
def ak7 :=[qw 24 8 11 8,qm 25 2]
def ak8 :=[qs 6 2 6 26,⟨none,none,false,.st [] 1 (.t 7) (.c zI)⟩]
def yY:Abs.cZ :=
 (.seq (.jk [6,7] ak7 ⟨some 26,none,false,.call false (.c (.fn iU [] [])) [(.t 24),(.t 25)]⟩ ak8) .ret)
def Tg:bP:=⟨[(7,[6,7]),(6,[2,6,7,8]),(5,[6,7]),(4,[2,6,7,8,21]),(3,[2,6,7,8]),(2,[2,3,6,7,8,16]),(1,[2,3,6,7,8]),(0,[2,3,4,6,7])],[],[],[6,7,8],[6,8],[],[],[(0,[0])],[],[],[(7,some 2)]⟩
def wY:Abs.Fn:=⟨3,[.v 6 true 2,.c 7 false 1],
 (.seq (.seq (.cI [0]) (.ak [2,3,4,6,7] ak1)) (.seq (.ak [2,3,6,7,8] ak2) (.seq (.seq (.ak [2,3,6,7,8,16] ak3) (.ite (.t 16) (.ak [2,6,7,8] ak4) .cU)) (.seq (.seq (.ak [2,6,7,8,21] ak5) (.ite (.t 21) (.seq (.ak [6,7] ak6) .ret) .cU)) (.dfr (.c (.fn fI [] [])) [(.t 7)] yY)))))⟩
@[simp] theorem e33:type_of% (show ak1=_∧ak2=_∧ak3=_∧ak4=_∧ak5=_∧ak6=_∧ak7=_∧ak8=_ from by simp only[zI,ak1,ak2,ak3,ak4,ak5,ak6,ak7,ak8,qo,qO,qm,ql,qL,qa,qw,qx,qn,qs,qS,qt,qz,qc,aj,aw];exact⟨rfl,rfl,rfl,rfl,rfl,rfl,rfl,rfl⟩):=⟨rfl,rfl,rfl,rfl,rfl,rfl,rfl,rfl⟩
theorem El:type_of% yY.eq_1:=ah yY.eq_1
theorem Ek:type_of% wY.eq_1:=ah wY.eq_1
def ak9 :=[qx 5 2,qo 6 (.eK [] [zI,zI,zI,zI,zI,zI,zI,zI,zI,zI]),qi 7 0]
def ala :=[qm 9 0,qc 10 ji [9],qu 11 10,qm 8 11]
def alb :=[qo 12 (.mJ [zI,zI,zI,zI,zI,zI,zI,zI,zI,zI] []),qs 6 10 6 12,qi 7 1]
def ald :=[qm 14 0,qm 15 1,qc 16 oG [14,15],qu 17 16,qm 13 17]
def ale :=[qo 18 (.mJ [zI,zI,zI,zI,zI,zI,zI,zI,zI,zI] []),qs 6 10 6 18,qi 7 2]
def alf :=[qa 20 4 5,qc 21 ig [20],qu 22 21,qm 19 22]
def alg :=[qo 23 (.mJ [zI,zI,zI,zI,zI,zI,zI,zI,zI,zI] []),qs 6 10 6 23,qi 7 1]
def alh :=[qM 24 0,qM 25 1,qC 26 pz [24,25],qA 27 4 5,qc 28 pA [26,27],qs 6 10 6 28,qi 7 0]
def Om:bP:=Hx [(7,[6,7]),(2,[6,7]),(4,[6,7]),(6,[6,7]),(5,[0,1,5,6,19]),(3,[0,1,5,6,13]),(1,[0,1,5,6,8]),(0,[0,1,5,6])] [] [] [6] [6] [] []
def tA:Abs.Fn:=⟨3,[.v 6 true 10,.t 7],
 (.seq (.ak [0,1,5,6] ak9) (.seq (.bB 0 (.seq (.ak [0,1,5,6,8] ala) (.ite (.t 8) (.seq (.ak [6,7] alb) .ret) (.seq (.ak [0,1,5,6,13] ald) (.ite (.t 13) (.seq (.ak [6,7] ale) .ret) (.seq (.ak [0,1,5,6,19] alf) (.ite (.t 19) (.seq (.ak [6,7] alg) .ret) .cU))))))) (.seq (.ak [6,7] alh) .ret)))⟩
@[simp] theorem e34:type_of% (show ak9=_∧ala=_∧alb=_∧ald=_∧ale=_∧alf=_∧alg=_∧alh=_ from by simp only[zI,ak9,ala,alb,ald,ale,alf,alg,alh,qo,qm,qM,qi,qa,qA,qx,qu,qs,qc,qC,aj,aw];exact⟨rfl,rfl,rfl,rfl,rfl,rfl,rfl,rfl⟩):=⟨rfl,rfl,rfl,rfl,rfl,rfl,rfl,rfl⟩
theorem Gz:type_of% tA.eq_1:=ah tA.eq_1
def ali :=[qx 2 0,qo 3 (.J9 (.t 1)),qo 4 (.eK [] [zI,zI,zI,zI]),qi 5 0,qi 6 0]
def alj :=[qa 8 2 2,qc 9 jT [8],qu 10 9,qm 11 10,qg 11 false (qw 12 3 4 3),qg 11 false (qo 13 (.wc 1 4 [zI,zI,zI,zI] [(0,4,(.t 12))])),qg 11 false (qc 14 tC [13]),qg 11 false (qu 15 14),qP 16 11 15,qm 7 16]
def alk :=[qo 17 (.mJ [zI,zI,zI,zI] []),qs 4 4 4 17,qi 5 0,qi 6 1]
def alm :=[qF 19 0 3,qV 20 3 1 19,qA 21 2 2,qC 22 jN [21],qk 23 .gtr 20 22,qm 18 23]
def aln :=[qo 24 (.mJ [zI,zI,zI,zI] []),qs 4 4 4 24,qi 5 0,qi 6 2]
def alo :=[qa 25 2 2,qf 26 0 3,qv 27 3 1 26,qc 28 nB [25,27],qm 5 28]
def alp :=[qf 29 1 3,qv 30 3 1 29,qm 31 5,qk 32 .lss 30 31]
def alq :=[qo 33 (.mJ [zI,zI,zI,zI] []),qs 4 4 4 33,qi 5 0,qi 6 9]
def alr :=[qf 34 1 3,qv 35 3 1 34,qm 36 5,qk 37 .sub 35 36,qf 38 1 3,qs 3 1 38 37]
def als :=[qw 39 3 4 3,qm 40 5,qs 4 4 4 39,qm 5 40,qi 6 0]
def MM:bP:=Hx [(9,[4,5,6]),(8,[3,4,5]),(7,[4,5,6]),(6,[3,4,5,32]),(5,[3,4,5]),(2,[4,5,6]),(4,[4,5,6]),(3,[2,3,4,18]),(1,[2,3,4,7]),(0,[2,3,4])] [] [] [3,4] [3,4] [] []
def rV:Abs.Fn:=⟨2,[.v 4 true 4,.t 5,.t 6],
 (.seq (.ak [2,3,4] ali) (.seq (.bB 0 (.seq (.ak [2,3,4,7] alj) (.ite (.t 7) (.seq (.ak [4,5,6] alk) .ret) (.seq (.ak [2,3,4,18] alm) (.ite (.t 18) (.seq (.ak [4,5,6] aln) .ret) .cU))))) (.seq (.ak [3,4,5] alo) (.seq (.seq (.ak [3,4,5,32] alp) (.ite (.t 32) (.seq (.ak [4,5,6] alq) .ret) .cU)) (.seq (.ak [3,4,5] alr) (.seq (.ak [4,5,6] als) .ret))))))⟩
@[simp] theorem e35:type_of% (show ali=_∧alj=_∧alk=_∧alm=_∧aln=_∧alo=_∧alp=_∧alq=_∧alr=_∧als=_ from by simp only[zI,ali,alj,alk,alm,aln,alo,alp,alq,alr,als,qo,qm,qi,qf,qF,qa,qA,qv,qV,qw,qx,qk,qu,qP,qs,qc,qC,qg,aj,aw];exact⟨rfl,rfl,rfl,rfl,rfl,rfl,rfl,rfl,rfl,rfl⟩):=⟨rfl,rfl,rfl,rfl,rfl,rfl,rfl,rfl,rfl,rfl⟩
theorem Nc:type_of% rV.eq_1:=ah rV.eq_1
def alu :=[qo 2 (.mv (.c .aH)),qi 3 0]
def alv :=[qm 10 0,qc 11 fH [10],qm 4 11]
def alw :=[qm 12 4,qn 13 .neq 12 0]
def alx :=[qm 14 4,qo 2 (.mv (.c .aH)),qm 3 14]
def aly :=[qm 16 0,qo 17 (.call true (.c (.fn iy [] [])) [(.t 16)]),qm 15 17,qz 18 15 0,qz 19 15 1,qm 5 18,qm 6 19]
def alz :=[qo 7 (.rk 1)]
def alA :=[qm 20 6,qe 21 20,qi 22 0]
def alB :=[qk 23 .lss 22 21]
def alC :=[qm 24 22,qj 25 1 20 22,ql 26 1 25,qm 8 24,qm 9 26]
def alD :=[qm 27 9,qn 28 .eql 27 0]
def aeT :=[qm 29 7,qm 30 0,qm 31 8,qj 32 1 30 31,ql 33 1 32,qo 34 (.wc 1 1 [(.str [])] [(0,1,(.t 33))]),qy 35 1 16 29 34,qm 7 35]
def aeU :=[qn 36 .add 22 1,qm 22 36]
def mh:Abs.cZ :=
 (.seq (.ak [0,7,20,21,22,23] alB) (.seq (.ite (.t 23) .cU (.exit 0)) (.seq (.bB 1 (.seq (.ak [0,7,8,9,20,21,22] alC) (.seq (.ak [0,7,8,20,21,22,28] alD) (.ite (.t 28) (.ak [0,7,20,21,22] aeT) .cU)))) (.ak [0,7,20,21,22] aeU))))
def aeV :=[qm 37 7,qm 2 37,qi 3 0]
def G9:bP:=Hx [(12,[2,3]),(11,[0,7,20,21,22]),(10,[0,7,20,21,22]),(9,[0,7,8,20,21,22,28]),(8,[0,7,8,9,20,21,22]),(7,[0,7,20,21,22,23]),(6,[0,7,20,21,22]),(5,[0,6,7]),(4,[0,6]),(3,[2,3]),(2,[0,4,13]),(1,[0,4]),(0,[0])] [(0,[0,7,20,21,22])] [] [7] [] [] [4001]
def mQ:Abs.Fn:=⟨1,[.t 2,.t 3],
 (.seq (.ak [0] alu) (.seq (.seq (.ak [0,4] alv) (.seq (.ak [0,4,13] alw) (.ite (.t 13) (.seq (.ak [2,3] alx) .ret) .cU))) (.seq (.ak [0,6] aly) (.seq (.ak [0,6,7] alz) (.seq (.seq (.ak [0,7,20,21,22] alA) (.bB 0 (.loop [0,7,20,21,22] false mh))) (.seq (.ak [2,3] aeV) .ret))))))⟩
@[simp] theorem e36:type_of% (show alu=_∧alv=_∧alw=_∧alx=_∧aly=_∧alz=_∧alA=_∧alB=_∧alC=_∧alD=_∧aeT=_∧aeU=_∧aeV=_ from by simp only[zI,alu,alv,alw,alx,aly,alz,alA,alB,alC,alD,aeT,aeU,aeV,qo,qm,qi,ql,qe,qj,qk,qn,qz,qc,qy,aj,aw];exact⟨rfl,rfl,rfl,rfl,rfl,rfl,rfl,rfl,rfl,rfl,rfl,rfl,rfl⟩):=⟨rfl,rfl,rfl,rfl,rfl,rfl,rfl,rfl,rfl,rfl,rfl,rfl,rfl⟩
theorem uO:type_of% mh.eq_1:=ah mh.eq_1
theorem HE:type_of% mQ.eq_1:=ah mQ.eq_1
def alE :=[qb 4 false]
def alF :=[qm 6 0,qe 7 6,qm 8 1,qe 9 8,qk 10 .neq 7 9]
def alG :=[qb 4 false]
def alH :=[qi 5 0]
def alI :=[qm 11 5,qm 12 0,qe 13 12,qk 14 .lss 11 13]
def alJ :=[qM 17 0,qM 18 5,qJ 19 6 17 18,qA 20 6 19,qM 21 1,qM 22 5,qJ 23 6 21 22,qA 24 6 23,qo 25 (.eqv true [some .i64,some .i64,some .i64,some .i64,some .i64,some .i64] true (.t 20) (.t 24))]
def alK :=[qb 4 false]
def alL :=[qm 15 5,qn 16 .add 15 1,qm 5 16]
def sw:Abs.cZ :=
 (.seq (.seq (.ak [0,1,5,14] alI) (.ite (.t 14) .cU (.exit 0))) (.seq (.bB 1 (.seq (.ak [0,1,5,25] alJ) (.ite (.t 25) (.seq (.ak [4] alK) .ret) .cU))) (.ak [0,1,5] alL)))
def alM :=[qb 4 true]
def Oc:bP:=K1 [(8,[4]),(5,[0,1,5]),(7,[4]),(6,[0,1,5,25]),(4,[0,1,5,14]),(3,[0,1,5]),(2,[4]),(1,[0,1,10]),(0,[0,1])] [(0,[0,1,5])]
def td:Abs.Fn:=⟨2,[.t 4],
 (.seq (.ak [0,1] alE) (.seq (.seq (.ak [0,1,10] alF) (.ite (.t 10) (.seq (.ak [4] alG) .ret) .cU)) (.seq (.seq (.ak [0,1,5] alH) (.bB 0 (.loop [0,1,5] false sw))) (.seq (.ak [4] alM) .ret))))⟩
@[simp] theorem e40:type_of% (show alE=_∧alF=_∧alG=_∧alH=_∧alI=_∧alJ=_∧alK=_∧alL=_∧alM=_ from by simp only[zI,alE,alF,alG,alH,alI,alJ,alK,alL,alM,qo,qm,qM,qi,qb,qA,qe,qJ,qk,qn];exact⟨rfl,rfl,rfl,rfl,rfl,rfl,rfl,rfl,rfl⟩):=⟨rfl,rfl,rfl,rfl,rfl,rfl,rfl,rfl,rfl⟩
theorem Bf:type_of% sw.eq_1:=ah sw.eq_1
theorem Oy:type_of% td.eq_1:=ah td.eq_1
def alN :=[qx 2 0,qx 3 1,qb 4 false]
def alO :=[qf 7 0 2,qa 8 4 7,qf 9 0 3,qa 10 4 9,qo 11 (.eqv true [some .i64,some .i64,some .i64,some .i64] true (.t 8) (.t 10)),qm 12 11,qg 12 false (qf 13 4 2),qg 12 false (ql 14 1 13),qg 12 false (qe 15 14),qg 12 false (qf 16 4 3),qg 12 false (ql 17 1 16),qg 12 false (qe 18 17),qg 12 false (qk 19 .neq 15 18),qP 20 12 19,qm 21 20,qg 21 false (qf 22 5 2),qg 21 false (ql 23 1 22),qg 21 false (qf 24 5 3),qg 21 false (ql 25 1 24),qg 21 false (qk 26 .neq 23 25),qP 27 21 26,qm 28 27,qg 28 false (qf 29 6 2),qg 28 false (ql 30 1 29),qg 28 false (qf 31 6 3),qg 28 false (ql 32 1 31),qg 28 false (qk 33 .neq 30 32),qP 34 28 33,qm 35 34,qg 35 false (qf 36 7 2),qg 35 false (ql 37 1 36),qg 35 false (qf 38 7 3),qg 35 false (ql 39 1 38),qg 35 false (qk 40 .neq 37 39),qP 41 35 40,qm 42 41,qg 42 false (qf 43 8 2),qg 42 false (ql 44 1 43),qg 42 false (qe 45 44),qg 42 false (qf 46 8 3),qg 42 false (ql 47 1 46),qg 42 false (qe 48 47),qg 42 false (qk 49 .neq 45 48),qP 50 42 49]
def alP :=[qb 4 false]
def alQ :=[qi 5 0]
def alR :=[qm 51 5,qf 52 4 2,ql 53 1 52,qe 54 53,qk 55 .lss 51 54]
def alS :=[qF 58 4 2,qL 59 1 58,qM 60 5,qJ 61 5 59 60,qA 62 5 61,qF 63 4 3,qL 64 1 63,qM 65 5,qJ 66 5 64 65,qA 67 5 66,qo 68 (.eqv true [some .i64,some .i64,some .i64,some .i64,some .i64] true (.t 62) (.t 67))]
def alT :=[qb 4 false]
def alU :=[qm 56 5,qn 57 .add 56 1,qm 5 57]
def tH:Abs.cZ :=
 (.seq (.seq (.ak [2,3,5,55] alR) (.ite (.t 55) .cU (.exit 0))) (.seq (.bB 1 (.seq (.ak [2,3,5,68] alS) (.ite (.t 68) (.seq (.ak [4] alT) .ret) .cU))) (.ak [2,3,5] alU)))
def alV :=[qi 6 0]
def ae8 :=[qm 69 6,qf 70 8 2,ql 71 1 70,qe 72 71,qk 73 .lss 69 72]
def ae9 :=[qF 76 8 2,qL 77 1 76,qM 78 6,qJ 79 3 77 78,qA 80 3 79,qF 81 8 3,qL 82 1 81,qM 83 6,qJ 84 3 82 83,qA 85 3 84,qo 86 (.eqv true [some .i64,some .i64,some .i64] true (.t 80) (.t 85))]
def afa :=[qb 4 false]
def afb :=[qm 74 6,qn 75 .add 74 1,qm 6 75]
def su:Abs.cZ :=
 (.seq (.seq (.ak [2,3,6,73] ae8) (.ite (.t 73) .cU (.exit 2))) (.seq (.bB 3 (.seq (.ak [2,3,6,86] ae9) (.ite (.t 86) (.seq (.ak [4] afa) .ret) .cU))) (.ak [2,3,6] afb)))
def afc :=[qb 4 true]
def P3:bP:=K1 [(13,[4]),(10,[2,3,6]),(12,[4]),(11,[2,3,6,86]),(9,[2,3,6,73]),(8,[2,3,6]),(5,[2,3,5]),(7,[4]),(6,[2,3,5,68]),(4,[2,3,5,55]),(3,[2,3,5]),(2,[4]),(1,[2,3,50]),(0,[2,3])] [(2,[2,3,6]),(0,[2,3,5])]
def uW:Abs.Fn:=⟨2,[.t 4],
 (.seq (.ak [2,3] alN) (.seq (.seq (.ak [2,3,50] alO) (.ite (.t 50) (.seq (.ak [4] alP) .ret) .cU)) (.seq (.seq (.ak [2,3,5] alQ) (.bB 0 (.loop [2,3,5] false tH))) (.seq (.seq (.ak [2,3,6] alV) (.bB 2 (.loop [2,3,6] false su))) (.seq (.ak [4] afc) .ret)))))⟩
@[simp] theorem e41:type_of% (show alN=_∧alO=_∧alP=_∧alQ=_∧alR=_∧alS=_∧alT=_∧alU=_∧alV=_∧ae8=_∧ae9=_∧afa=_∧afb=_∧afc=_ from by simp only[zI,alN,alO,alP,alQ,alR,alS,alT,alU,alV,ae8,ae9,afa,afb,afc,qo,qm,qM,qi,qb,qf,qF,ql,qL,qa,qA,qx,qe,qJ,qk,qn,qP,qg];exact⟨rfl,rfl,rfl,rfl,rfl,rfl,rfl,rfl,rfl,rfl,rfl,rfl,rfl,rfl⟩):=⟨rfl,rfl,rfl,rfl,rfl,rfl,rfl,rfl,rfl,rfl,rfl,rfl,rfl,rfl⟩
theorem CT:type_of% tH.eq_1:=ah tH.eq_1
theorem Be:type_of% su.eq_1:=ah su.eq_1
theorem Qm:type_of% uW.eq_1:=ah uW.eq_1
def aAG :=[qo 2 (.mv (.c .aH)),qi 3 0]
def aAH :=[qm 5 0,qc 6 fH [5],qm 4 6]
def aAI :=[qm 7 4,qn 8 .neq 7 0]
def aAJ :=[qm 9 4,qo 2 (.mv (.c .aH)),qm 3 9]
def aAK :=[qm 10 0,qc 11 vi [10],qm 2 11,qi 3 0]
def Lw:bP:=jc [(4,[2,3]),(3,[2,3]),(2,[0,4,8]),(1,[0,4]),(0,[0])]
def CW:Abs.Fn:=⟨1,[.t 2,.t 3],
 (.seq (.ak [0] aAG) (.seq (.seq (.ak [0,4] aAH) (.seq (.ak [0,4,8] aAI) (.ite (.t 8) (.seq (.ak [2,3] aAJ) .ret) .cU))) (.seq (.ak [2,3] aAK) .ret)))⟩
def aAL :=[qo 0 (.rk 1)]
def aAM :=[qo 1 (.UR 13 1 [(.str []),(.str []),(.str []),(.str []),(.str []),(.str []),(.str []),(.str []),(.str []),(.str []),(.str []),(.str []),(.str [])] [(0,1,(.c (.str [102,105,101,108,100,32,50,32,49,32,49,32,52]))),(1,1,(.c (.str [116,97,98,108,101,32,49,48,48,32,49,48,49,32,52,49,57,32,50,54,55,54,32,49,53,48,32,49,53,48,32,52,55,54,32,54,51,50,32,50,55,52,54,32,51,48,48,32,50,48,48,32,49,53,53,53,32,56,53,50,32,50,55,57,51,32,54,48,48]))),(2,1,(.c (.str [98,101,100,32,49,48,48,48,32,48,32,56,48,48]))),(3,1,(.c (.str [119,101,108,108,32,48,32,53,48,48,32,53]))),(4,1,(.c (.str [109,111,100,101,108,32,97,32,56,48,48,48,32,56,48,48,48,32,53,48,48,32,52,48,48,32,57,48,48,32,52,48,48,32,48,32,49,48]))),(5,1,(.c (.str [109,111,100,101,108,32,98,32,56,48,48,48,32,56,48,48,48,32,53,48,48,32,52,48,48,32,57,48,48,32,53,48,48,32,48,32,49,48]))),(6,1,(.c (.str [108,111,103,32,116,49,32,50,32,51,57,48,32,52,49,48,32,49,32,49]))),(7,1,(.c (.str [114,117,108,101,32,48,32,48,32,48,32,57,32,57,32,57,32,50,48,32,53,32,49,32,49]))),(8,1,(.c (.str [113,117,97,107,101,32,49,32,49,32,49,32,50,53]))),(9,1,(.c (.str [116,105,99,107,32,45,49,48,48]))),(10,1,(.c (.str [116,105,99,107,32,53,48]))),(11,1,(.c (.str [117,110,105,116,32,48,32,49,48,48,32,52,48,48]))),(12,1,(.c (.str [115,101,108,108,32,48,32,48,32,48,32,51])))]),qm 0 1]
def Tf:bP:=Tl [(1,[0]),(0,[])] [] [] [0,1]
def K7:Abs.Fn:=⟨0,[.t 0],
 (.seq (.ak [] aAL) (.seq (.ak [0] aAM) .ret))⟩
def alW :=[qb 4 false]
def alX :=[qm 5 0,qo 6 (.BA (.Jv) [(.t 5)]),qm 7 1,qo 8 (.BA (.Jv) [(.t 7)]),qk 9 .geq 6 8,qm 10 9,qg 10 true (qm 11 0),qg 10 true (qm 12 1),qg 10 true (qo 13 (.BA (.Jv) [(.t 12)])),qg 10 true (qo 14 (.BA (.afO false true) [(.t 11),(.t 13)])),qg 10 true (qm 15 1),qg 10 true (qo 16 (.BA (.seq false) [(.t 14),(.t 15)])),qp 17 10 16,qm 4 17]
def MI:bP:=jc [(1,[4]),(0,[0,1])]
def rS:Abs.Fn:=⟨2,[.t 4],
 (.seq (.ak [0,1] alW) (.seq (.ak [4] alX) .ret))⟩
@[simp] theorem e49:type_of% (show alW=_∧alX=_ from by simp only[zI,alW,alX,qo,qm,qb,qk,qp,qg];exact⟨rfl,rfl⟩):=⟨rfl,rfl⟩
theorem Na:type_of% rS.eq_1:=ah rS.eq_1
def alY :=[qi 2 0]
def alZ :=[qm 3 0,qe 4 3,qn 5 .gtr 4 100,qm 6 5,qg 6 false (qm 7 0),qg 6 false (qo 8 (.call false (.c (.fn eC [] [])) [(.t 7),(.c (.fn iQ [] []))])),qP 9 6 8]
def al0 :=[qi 2 3]
def al1 :=[qi 2 0]
def Lx:bP:=jc [(3,[2]),(2,[2]),(1,[9]),(0,[0])]
def qh:Abs.Fn:=⟨1,[.t 2],
 (.seq (.ak [0] alY) (.seq (.seq (.ak [9] alZ) (.ite (.t 9) (.seq (.ak [2] al0) .ret) .cU)) (.seq (.ak [2] al1) .ret)))⟩
@[simp] theorem e50:type_of% (show alY=_∧alZ=_∧al0=_∧al1=_ from by simp only[zI,alY,alZ,al0,al1,qo,qm,qi,qe,qn,qP,qg];exact⟨rfl,rfl,rfl,rfl⟩):=⟨rfl,rfl,rfl,rfl⟩
theorem LK:type_of% qh.eq_1:=ah qh.eq_1
def al2 :=[qo 2 (.mv (.c .ze)),qo 3 (.mv (.c .aH))]
def al3 :=[qo 8 (.mJ [zI,zI,zI] [(0,1,(.c (.int .i64 1000))),(1,1,(.c (.int .i64 500))),(2,1,(.c zI))]),qo 9 (.mJ [zI,zI,zI,zI,.aH,zI,zI,zI,.aH,.aH,.aH,.aH,.aH,zI,zI,zI,.aH,.aH] [(13,3,(.t 8))]),qo 10 (.mJ [zI,zI,zI,zI,.aH,zI,zI,zI,.aH,.aH,.aH,.aH,.aH,zI,zI,zI,.aH,.aH,(.bool false),.aH,zI] [(0,18,(.t 9))]),qo 11 (.bxn [(9,4),(11,10),(12,2),(16,2),(17,6),(19,4)] (.t 10)),qm 4 11]
def al4 :=[qo 5 (.rk 1)]
def al5 :=[qm 12 0,qe 13 12,qi 14 0]
def al6 :=[qk 15 .lss 14 13]
def al7 :=[qm 16 14,qj 17 1 12 14,ql 18 1 17,qm 6 16,qm 7 18]
def al8 :=[qm 19 5,qm 20 4,qm 21 6,qm 22 7,qc 23 aN [20,21,22],qo 24 (.wc 1 1 [zI] [(0,1,(.t 23))]),qy 25 1 8 19 24,qm 5 25]
def al9 :=[qn 26 .add 14 1,qm 14 26]
def sy:Abs.cZ :=
 (.seq (.ak [4,5,12,13,14,15] al6) (.seq (.ite (.t 15) .cU (.exit 0)) (.seq (.bB 1 (.seq (.ak [4,5,6,7,12,13,14] al7) (.ak [4,5,12,13,14] al8))) (.ak [4,5,12,13,14] al9))))
def ama :=[qm 27 4,qm 28 5,qm 2 27,qm 3 28]
def Of:bP:=Hx [(8,[2,3]),(7,[4,5,12,13,14]),(6,[4,5,12,13,14]),(5,[4,5,6,7,12,13,14]),(4,[4,5,12,13,14,15]),(3,[4,5,12,13,14]),(2,[0,4,5]),(1,[0,4]),(0,[0])] [(0,[4,5,12,13,14])] [] [5,11] [] [(1003,[(9,4),(11,10),(12,2),(16,2),(17,6),(19,4)])] []
def ti:Abs.Fn:=⟨1,[.t 2,.t 3],
 (.seq (.ak [0] al2) (.seq (.ak [0,4] al3) (.seq (.ak [0,4,5] al4) (.seq (.seq (.ak [4,5,12,13,14] al5) (.bB 0 (.loop [4,5,12,13,14] false sy))) (.seq (.ak [2,3] ama) .ret)))))⟩
@[simp] theorem e51:type_of% (show al2=_∧al3=_∧al4=_∧al5=_∧al6=_∧al7=_∧al8=_∧al9=_∧ama=_ from by simp only[zI,al2,al3,al4,al5,al6,al7,al8,al9,ama,qo,qm,qi,ql,qe,qj,qk,qn,qc,qy,aj,aw];exact⟨rfl,rfl,rfl,rfl,rfl,rfl,rfl,rfl,rfl⟩):=⟨rfl,rfl,rfl,rfl,rfl,rfl,rfl,rfl,rfl⟩
theorem Bh:type_of% sy.eq_1:=ah sy.eq_1
theorem OA:type_of% ti.eq_1:=ah ti.eq_1
def aAN :=[qi 4 0]
def aAO :=[qm 6 0,qe 7 6,qi 8 0]
def aAP :=[qk 9 .lss 8 7]
def aAQ :=[qm 10 8,qm 5 10]
def aAR :=[qm 11 1,qm 12 0,qm 13 5,qj 14 4 12 13,qa 15 4 14,qo 16 (.call false (.t 11) [(.t 15)])]
def aAS :=[qm 17 5,qm 4 17]
def aAT :=[qn 18 .add 8 1,qm 8 18]
def tx:Abs.cZ :=
 (.seq (.ak [0,1,7,8,9] aAP) (.seq (.ite (.t 9) .cU (.exit 0)) (.seq (.bB 1 (.seq (.ak [0,1,5,7,8] aAQ) (.seq (.ak [0,1,5,7,8,16] aAR) (.ite (.t 16) (.seq (.ak [4] aAS) .ret) .cU)))) (.ak [0,1,7,8] aAT))))
def aAU :=[qi 4 (-1)]
def uJ:bP:=K1 [(7,[4]),(6,[0,1,7,8]),(5,[4]),(4,[0,1,5,7,8,16]),(3,[0,1,5,7,8]),(2,[0,1,7,8,9]),(1,[0,1,7,8]),(0,[0,1])] [(0,[0,1,7,8])]
def ot:Abs.Fn:=⟨2,[.t 4],
 (.seq (.ak [0,1] aAN) (.seq (.seq (.ak [0,1,7,8] aAO) (.bB 0 (.loop [0,1,7,8] false tx))) (.seq (.ak [4] aAU) .ret)))⟩
def aAV :=[qx 2 0,qb 3 false]
def aAW :=[qf 4 0 2,qf 5 0 4,ql 6 1 5,ql 7 1 1,qo 8 (.BA (.seq false) [(.t 6),(.t 7)]),qm 3 8]
def JR:bP:=jc [(1,[3]),(0,[1,2])]
def Bm:Abs.Fn:=⟨2,[.t 3],
 (.seq (.ak [1,2] aAV) (.seq (.ak [3] aAW) .ret))⟩
def amb :=[qb 6 false]
def amc :=[qm 7 1,qm 8 0,qk 9 .leq 7 8,qm 10 9,qg 10 true (qm 11 0),qg 10 true (qm 12 2),qg 10 true (qk 13 .leq 11 12),qp 14 10 13,qm 6 14]
def JW:bP:=jc [(1,[6]),(0,[0,1,2])]
def o6:Abs.Fn:=⟨3,[.t 6],
 (.seq (.ak [0,1,2] amb) (.seq (.ak [6] amc) .ret))⟩
@[simp] theorem e55:type_of% (show amb=_∧amc=_ from by simp only[zI,amb,amc,qm,qb,qk,qp,qg];exact⟨rfl,rfl⟩):=⟨rfl,rfl⟩
theorem Kc:type_of% o6.eq_1:=ah o6.eq_1
def aAX :=[qo 2 (.mv (.c .aH))]
def aAY :=[qm 3 0,qo 4 (.isn false false (.t 3))]
def aAZ :=[qo 2 (.mv (.c .aH))]
def aA0 :=[qo 5 (.UR 0 1 [] []),qm 6 0,qy 7 1 16 5 6,qm 2 7]
def Dl:bP:=Tl [(3,[2]),(2,[2]),(1,[0,4]),(0,[0])] [] [] [5]
def vR:Abs.Fn:=⟨1,[.t 2],
 (.seq (.ak [0] aAX) (.seq (.seq (.ak [0,4] aAY) (.ite (.t 4) (.seq (.ak [2] aAZ) .ret) .cU)) (.seq (.ak [2] aA0) .ret)))⟩
def aA1 :=[qm 3 0,qo 4 (.call false (.c (.fn pB [] [])) [(.t 3),(.c (.str [32]))]),qo 5 (.BA (.ain) [(.t 4),(.c (.str [10]))]),qc 6 dh [1,5]]
def Ha:bP:=Tl [(0,[])] [] [] [1]
def yX:Abs.Fn:=⟨2,[],
 (.ak [] aA1)⟩
def amd :=[qo 2 (.mv (.c (.int .u8 0)))]
def ame :=[qM 7 0,qO 8 (.nN (.t 7)),qF 9 0 8,qF 10 11 9,qL 11 1 10,qM 12 0,qO 13 (.nN (.t 12)),qF 14 0 13,qF 15 12 14,qL 16 1 15,qM 17 0,qO 18 (.nN (.t 17)),qF 19 0 18,qF 20 10 19,qL 21 1 20,qE 22 21,qC 23 iW [11,16,22],qM 6 23,qZ 24 6 0,qZ 25 6 1,qZ 26 6 2,qM 3 24,qM 4 25,qm 5 26]
def amf :=[qm 27 3,qm 2 27]
def De:bP:=jc [(2,[2]),(1,[3]),(0,[0])]
def jE:Abs.Fn:=⟨1,[.t 2],
 (.seq (.ak [0] amd) (.seq (.ak [3] ame) (.seq (.ak [2] amf) .ret)))⟩
@[simp] theorem e62:type_of% (show amd=_∧ame=_∧amf=_ from by simp only[zI,amd,ame,amf,qo,qO,qm,qM,qF,qL,qE,qZ,qC,aj,aw];exact⟨rfl,rfl,rfl⟩):=⟨rfl,rfl,rfl⟩
theorem Du:type_of% jE.eq_1:=ah jE.eq_1
def aA2 :=[qx 1 0,qo 2 (.mv (.c (.str [])))]
def aA3 :=[qF 3 0 1,qL 4 1 3,qC 5 eD [4],qO 6 (.BA (.ain) [(.t 5),(.c (.str [46,46]))]),qF 7 1 1,qL 8 1 7,qC 9 eD [8],qo 10 (.BA (.ain) [(.t 6),(.t 9)]),qm 2 10]
def DW:bP:=jc [(1,[2]),(0,[1])]
def wX:Abs.Fn:=⟨1,[.t 2],
 (.seq (.ak [1] aA2) (.seq (.ak [2] aA3) .ret))⟩
def amg :=[qi 2 0]
def amh :=[qm 6 0,qe 7 6,qi 8 0]
def ami :=[qk 9 .lss 8 7]
def amj :=[qj 10 1 6 8,ql 11 1 10,qm 4 11]
def amk :=[qm 12 4,qo 13 (.call false (.t 12) []),qm 5 13]
def aml :=[qm 14 5,qn 15 .neq 14 0]
def amm :=[qm 16 5,qm 2 16]
def amn :=[qn 17 .add 8 1,qm 8 17]
def so:Abs.cZ :=
 (.seq (.ak [6,7,8,9] ami) (.seq (.ite (.t 9) .cU (.exit 0)) (.seq (.bB 1 (.seq (.ak [4,6,7,8] amj) (.seq (.ak [5,6,7,8] amk) (.seq (.ak [5,6,7,8,15] aml) (.ite (.t 15) (.seq (.ak [2] amm) .ret) .cU))))) (.ak [6,7,8] amn))))
def amo :=[qi 2 0]
def N9:bP:=K1 [(8,[2]),(7,[6,7,8]),(6,[2]),(5,[5,6,7,8,15]),(4,[5,6,7,8]),(3,[4,6,7,8]),(2,[6,7,8,9]),(1,[6,7,8]),(0,[0])] [(0,[6,7,8])]
def sZ:Abs.Fn:=⟨1,[.t 2],
 (.seq (.ak [0] amg) (.seq (.seq (.ak [6,7,8] amh) (.bB 0 (.loop [6,7,8] false so))) (.seq (.ak [2] amo) .ret)))⟩
@[simp] theorem e69:type_of% (show amg=_∧amh=_∧ami=_∧amj=_∧amk=_∧aml=_∧amm=_∧amn=_∧amo=_ from by simp only[zI,amg,amh,ami,amj,amk,aml,amm,amn,amo,qo,qm,qi,ql,qe,qj,qk,qn];exact⟨rfl,rfl,rfl,rfl,rfl,rfl,rfl,rfl,rfl⟩):=⟨rfl,rfl,rfl,rfl,rfl,rfl,rfl,rfl,rfl⟩
theorem Bb:type_of% so.eq_1:=ah so.eq_1
theorem Ow:type_of% sZ.eq_1:=ah sZ.eq_1
def amp :=[qx 1 0,qi 2 0]
def amq :=[qa 3 4 1,qc 4 l4 [3],qu 5 4]
def amr :=[qi 2 1]
def ams :=[qi 2 0]
def FK:bP:=jc [(3,[2]),(2,[2]),(1,[5]),(0,[1])]
def lF:Abs.Fn:=⟨1,[.t 2],
 (.seq (.ak [1] amp) (.seq (.seq (.ak [5] amq) (.ite (.t 5) (.seq (.ak [2] amr) .ret) .cU)) (.seq (.ak [2] ams) .ret)))⟩
@[simp] theorem e70:type_of% (show amp=_∧amq=_∧amr=_∧ams=_ from by simp only[zI,amp,amq,amr,ams,qi,qa,qx,qu,qc,aj,aw];exact⟨rfl,rfl,rfl,rfl⟩):=⟨rfl,rfl,rfl,rfl⟩
theorem F9:type_of% lF.eq_1:=ah lF.eq_1
def amu :=[qi 2 0]
def amv :=[qa 3 4 0,qa 4 2 1,qc 5 je [3,4],qm 2 5]
def N7:bP:=jc [(1,[2]),(0,[0,1])]
def sX:Abs.Fn:=⟨2,[.t 2],
 (.seq (.ak [0,1] amu) (.seq (.ak [2] amv) .ret))⟩
@[simp] theorem e71:type_of% (show amu=_∧amv=_ from by simp only[zI,amu,amv,qm,qi,qa,qc,aj,aw];exact⟨rfl,rfl⟩):=⟨rfl,rfl⟩
theorem Ou:type_of% sX.eq_1:=ah sX.eq_1
def amw :=[qx 2 0,qx 3 1,qi 4 0]
def amx :=[qf 6 0 3,ql 7 1 6,qc 8 rp [7],qu 9 8,qm 5 9]
def amy :=[qi 4 5]
def amz :=[qF 11 1 3,qL 12 1 11,qE 13 12,qF 14 3 2,qL 15 1 14,qA 16 4 2,qC 17 du [16],qK 18 .mul 15 17,qk 19 .neq 13 18,qm 20 19,qg 20 false (qf 21 1 3),qg 20 false (ql 22 1 21),qg 20 false (qo 23 (.call false (.c (.fn q7 [] [])) [(.t 22),(.c (.fn gp [] []))])),qg 20 false (qu 24 23),qP 25 20 24,qm 10 25]
def amA :=[qi 4 1]
def amB :=[qi 4 0]
def FJ:bP:=jc [(5,[4]),(2,[4]),(4,[4]),(3,[10]),(1,[2,3,5]),(0,[2,3])]
def lE:Abs.Fn:=⟨2,[.t 4],
 (.seq (.ak [2,3] amw) (.seq (.bB 0 (.seq (.ak [2,3,5] amx) (.ite (.t 5) (.seq (.ak [4] amy) .ret) (.seq (.ak [10] amz) (.ite (.t 10) (.seq (.ak [4] amA) .ret) .cU))))) (.seq (.ak [4] amB) .ret)))⟩
@[simp] theorem e72:type_of% (show amw=_∧amx=_∧amy=_∧amz=_∧amA=_∧amB=_ from by simp only[zI,amw,amx,amy,amz,amA,amB,qo,qm,qi,qf,qF,ql,qL,qA,qx,qE,qk,qK,qu,qP,qc,qC,qg,aj,aw];exact⟨rfl,rfl,rfl,rfl,rfl,rfl⟩):=⟨rfl,rfl,rfl,rfl,rfl,rfl⟩
theorem F8:type_of% lE.eq_1:=ah lE.eq_1
def amC :=[qi 2 0]
def amD :=[qa 3 4 0,qa 4 6 1,qc 5 gn [3,4],qm 2 5]
def N8:bP:=jc [(1,[2]),(0,[0,1])]
def sY:Abs.Fn:=⟨2,[.t 2],
 (.seq (.ak [0,1] amC) (.seq (.ak [2] amD) .ret))⟩
@[simp] theorem e73:type_of% (show amC=_∧amD=_ from by simp only[zI,amC,amD,qm,qi,qa,qc,aj,aw];exact⟨rfl,rfl⟩):=⟨rfl,rfl⟩
theorem Ov:type_of% sY.eq_1:=ah sY.eq_1
def amE :=[qx 2 0,qx 3 1,qi 4 0]
def amF :=[qf 6 0 3,ql 7 1 6,qc 8 rp [7],qu 9 8,qm 5 9]
def amG :=[qi 4 5]
def amH :=[qa 11 4 2,qf 12 1 3,ql 13 1 12,qf 14 2 3,ql 15 1 14,qf 16 3 3,ql 17 1 16,qc 18 nv [11,13,15,17],qu 19 18,qm 20 19,qg 20 false (qf 21 4 3),qg 20 false (qa 22 2 21),qg 20 false (qc 23 nw [22]),qg 20 false (qu 24 23),qP 25 20 24,qm 10 25]
def amI :=[qi 4 1]
def amJ :=[qi 4 0]
def Dc:bP:=jc [(5,[4]),(2,[4]),(4,[4]),(3,[10]),(1,[2,3,5]),(0,[2,3])]
def jC:Abs.Fn:=⟨2,[.t 4],
 (.seq (.ak [2,3] amE) (.seq (.bB 0 (.seq (.ak [2,3,5] amF) (.ite (.t 5) (.seq (.ak [4] amG) .ret) (.seq (.ak [10] amH) (.ite (.t 10) (.seq (.ak [4] amI) .ret) .cU))))) (.seq (.ak [4] amJ) .ret)))⟩
@[simp] theorem e74:type_of% (show amE=_∧amF=_∧amG=_∧amH=_∧amI=_∧amJ=_ from by simp only[zI,amE,amF,amG,amH,amI,amJ,qm,qi,qf,ql,qa,qx,qu,qP,qc,qg,aj,aw];exact⟨rfl,rfl,rfl,rfl,rfl,rfl⟩):=⟨rfl,rfl,rfl,rfl,rfl,rfl⟩
theorem Ds:type_of% jC.eq_1:=ah jC.eq_1
def amK :=[qx 2 0,qx 3 1,qo 4 (.mv (.c .jj))]
def amL :=[qa 5 4 2,qf 6 1 3,ql 7 1 6,qf 8 2 3,ql 9 1 8,qf 10 3 3,ql 11 1 10,qo 12 (.mJ [zI,zI,zI,zI,zI,.aH,.aH] [(0,4,(.t 5)),(4,1,(.t 7)),(5,1,(.t 9)),(6,1,(.t 11))]),qo 13 (.zR mG [(.t 12)] []),qm 4 13]
def DV:bP:=jc [(1,[4]),(0,[2,3])]
def kn:Abs.Fn:=⟨2,[.t 4],
 (.seq (.ak [2,3] amK) (.seq (.ak [4] amL) .ret))⟩
@[simp] theorem e75:type_of% (show amK=_∧amL=_ from by simp only[zI,amK,amL,qo,qm,qf,ql,qa,qx];exact⟨rfl,rfl⟩):=⟨rfl,rfl⟩
theorem Eg:type_of% kn.eq_1:=ah kn.eq_1
def amM :=[qx 3 0,qi 6 0]
def amN :=[qa 8 9 3,qc 9 jW [8],qu 10 9,qm 7 10]
def amO :=[qi 6 1]
def amP :=[qm 12 1,qe 13 12,qo 14 (.call false (.c (.fn ct [] [])) [(.t 13),(.c (.int .i64 1)),(.c (.int .i64 40))]),qu 15 14,qm 11 15]
def amQ :=[qi 6 3]
def amR :=[qf 17 0 3,qa 18 4 17,qm 19 1,qc 20 jd [18,19],qn 21 .neq 20 0,qm 22 21,qg 22 false (qm 23 1),qg 22 false (qo 24 (.zR pr [] [(.t 3)])),qg 22 false (qc 25 iT [23,24]),qg 22 false (qu 26 25),qP 27 22 26,qm 16 27]
def amS :=[qi 6 1]
def amT :=[qa 28 9 3,qm 29 2,qc 30 nY [28,29],qm 6 30]
def P7:bP:=jc [(7,[6]),(2,[6]),(4,[6]),(6,[6]),(5,[2,3,16]),(3,[1,2,3,11]),(1,[1,2,3,7]),(0,[1,2,3])]
def va:Abs.Fn:=⟨3,[.t 6],
 (.seq (.ak [1,2,3] amM) (.seq (.bB 0 (.seq (.ak [1,2,3,7] amN) (.ite (.t 7) (.seq (.ak [6] amO) .ret) (.seq (.ak [1,2,3,11] amP) (.ite (.t 11) (.seq (.ak [6] amQ) .ret) (.seq (.ak [2,3,16] amR) (.ite (.t 16) (.seq (.ak [6] amS) .ret) .cU))))))) (.seq (.ak [6] amT) .ret)))⟩
@[simp] theorem e76:type_of% (show amM=_∧amN=_∧amO=_∧amP=_∧amQ=_∧amR=_∧amS=_∧amT=_ from by simp only[zI,amM,amN,amO,amP,amQ,amR,amS,amT,qo,qm,qi,qf,qa,qx,qe,qn,qu,qP,qc,qg,aj,aw];exact⟨rfl,rfl,rfl,rfl,rfl,rfl,rfl,rfl⟩):=⟨rfl,rfl,rfl,rfl,rfl,rfl,rfl,rfl⟩
theorem Qq:type_of% va.eq_1:=ah va.eq_1
def amU :=[qx 3 0,qx 4 1,qi 6 0]
def amV :=[qf 9 1 4,ql 10 1 9,qo 11 (.Tx .i64 (.t 10)),qo 12 (.call false (.c (.fn ct [] [])) [(.t 11),(.c (.int .i64 1)),(.c (.int .i64 4))]),qu 13 12,qm 14 13,qg 14 false (qf 15 3 4),qg 14 false (qf 16 0 15),qg 14 false (ql 17 1 16),qg 14 false (qn 18 .lss 17 (-10000000000)),qP 19 14 18,qm 20 19,qg 20 false (qf 21 3 4),qg 20 false (qf 22 0 21),qg 20 false (ql 23 1 22),qg 20 false (qf 24 3 4),qg 20 false (qf 25 1 24),qg 20 false (ql 26 1 25),qg 20 false (qk 27 .gtr 23 26),qP 28 20 27,qm 29 28,qg 29 false (qf 30 3 4),qg 29 false (qf 31 1 30),qg 29 false (ql 32 1 31),qg 29 false (qn 33 .gtr 32 10000000000),qP 34 29 33]
def amW :=[qi 6 1]
def amX :=[qF 35 8 3,qL 36 1 35,qE 37 36,qO 7 (.mv (.c (.int .i64 1))),qm 8 37]
def amY :=[qf 38 1 4,ql 39 1 38,qo 40 (.bin .eql (.t 39) (.c (.int .u8 1)))]
def amZ :=[qa 41 9 3,qc 42 dq [41],qi 7 0,qm 8 42]
def am0 :=[qf 43 0 4,ql 44 1 43,qm 45 7,qm 46 2,qc 47 ct [44,45,46],qu 48 47,qm 49 48,qg 49 false (qf 50 2 4),qg 49 false (ql 51 1 50),qg 49 false (qm 52 8),qg 49 false (qn 53 .sub 52 1),qg 49 false (qo 54 (.call false (.c (.fn ct [] [])) [(.t 51),(.c zI),(.t 53)])),qg 49 false (qu 55 54),qP 56 49 55]
def am1 :=[qi 6 2]
def am2 :=[qi 6 0]
def Hj:bP:=jc [(8,[6]),(7,[6]),(6,[56]),(5,[2,4,7,8]),(4,[2,3,4,7,8,40]),(3,[2,3,4,7,8]),(2,[6]),(1,[2,3,4,34]),(0,[2,3,4])]
def mX:Abs.Fn:=⟨3,[.t 6],
 (.seq (.ak [2,3,4] amU) (.seq (.seq (.ak [2,3,4,34] amV) (.ite (.t 34) (.seq (.ak [6] amW) .ret) .cU)) (.seq (.ak [2,3,4,7,8] amX) (.seq (.seq (.ak [2,3,4,7,8,40] amY) (.ite (.t 40) (.ak [2,4,7,8] amZ) .cU)) (.seq (.seq (.ak [56] am0) (.ite (.t 56) (.seq (.ak [6] am1) .ret) .cU)) (.seq (.ak [6] am2) .ret))))))⟩
@[simp] theorem e77:type_of% (show amU=_∧amV=_∧amW=_∧amX=_∧amY=_∧amZ=_∧am0=_∧am1=_∧am2=_ from by simp only[zI,amU,amV,amW,amX,amY,amZ,am0,am1,am2,qo,qO,qm,qi,qf,qF,ql,qL,qa,qx,qE,qk,qn,qu,qP,qc,qg,aj,aw];exact⟨rfl,rfl,rfl,rfl,rfl,rfl,rfl,rfl,rfl⟩):=⟨rfl,rfl,rfl,rfl,rfl,rfl,rfl,rfl,rfl⟩
theorem HJ:type_of% mX.eq_1:=ah mX.eq_1
def am3 :=[qo 5 (.UU)]
def am4 :=[qo 7 (.isi false (.t 5))]
def am5 :=[qm 2 5]
def am6 :=[qo 8 (.tas 262 (some (.agg [])) (.t 5)),qz 9 8 1,qz 10 8 0]
def am7 :=[qo 3 (.eK [] []),qs 3 0 3 10]
def am8 :=[qm 11 0,qo 12 (.nN (.t 11)),⟨none,none,false,.st [] 1 (.t 12) (.c (.int .i64 9))⟩]
def am9 :=[qm 4 5]
def ana :=[qm 6 4]
def anb:List Abs.Op:=[]
def Oj:bP:=⟨[(4,[]),(7,[]),(6,[0]),(2,[]),(1,[4]),(5,[0,5,9,10]),(3,[0,5,7]),(0,[0,5])],[],[],[0,3],[3],[],[],[],[],[],[(2,some 1)]⟩
def tv:Abs.Fn:=⟨1,[],
 (.seq (.ak [0,5] am3) (.bB 0 (.seq (.ak [0,5,7] am4) (.ite (.t 7) (.ak [] am5) (.seq (.ak [0,5,9,10] am6) (.ite (.t 9) (.seq (.ak [0] am7) (.ak [] am8)) (.seq (.ak [4] am9) (.jk [] ana ⟨none,none,false,.UT (.t 6)⟩ anb))))))))⟩
@[simp] theorem e78:type_of% (show am3=_∧am4=_∧am5=_∧am6=_∧am7=_∧am8=_∧am9=_∧ana=_∧anb=_ from by simp only[zI,am3,am4,am5,am6,am7,am8,am9,ana,anb,qo,qm,qs,qz];exact⟨rfl,rfl,rfl,rfl,rfl,rfl,rfl,rfl,rfl⟩):=⟨rfl,rfl,rfl,rfl,rfl,rfl,rfl,rfl,rfl⟩
theorem AF:type_of% tv.eq_1:=ah tv.eq_1
def anc :=[qx 3 0,qo 6 (.rk 2)]
def ane :=[qm 9 1,qe 10 9,qi 11 0]
def anf :=[qk 12 .lss 11 10]
def ang :=[qj 13 2 9 11,qa 14 2 13,qo 8 (.eK [] [(.str []),.aH]),qs 8 2 8 14]
def anh :=[qm 15 6,qa 16 9 3,qw 17 8 2 8,qo 18 (.mJ [zI,zI,zI,zI,.aH,zI,zI,zI,.aH,(.str []),.aH] [(0,9,(.t 16)),(9,2,(.t 17))]),qm 19 2]
def ani :=[qo 21 (.wc 1 2 [.aH,.aH] [(0,2,(.t 20))]),qy 22 2 48 15 21,qm 6 22]
def anj :=[qn 23 .add 11 1,qm 11 23]
def vb:Abs.cZ :=
 (.seq (.ak [2,3,6,9,10,11,12] anf) (.seq (.ite (.t 12) .cU (.exit 0)) (.seq (.bB 1 (.seq (.ak [2,3,6,8,9,10,11] ang) (.jk [2,3,6,9,10,11] anh ⟨some 20,none,false,.call false (.c (.fn iU [] [])) [(.t 18),(.t 19)]⟩ ani))) (.ak [2,3,6,9,10,11] anj))))
def ank :=[qm 24 6,qm 6 24]
def Ti:bP:=⟨[(6,[6]),(5,[2,3,6,9,10,11]),(4,[2,3,6,9,10,11]),(3,[2,3,6,8,9,10,11]),(2,[2,3,6,9,10,11,12]),(1,[2,3,6,9,10,11]),(0,[1,2,3,6])],[(0,[2,3,6,9,10,11])],[],[6,8],[8],[],[],[],[],[],[(4,some 5)]⟩
def xb:Abs.Fn:=⟨3,[.t 6],
 (.seq (.ak [1,2,3,6] anc) (.seq (.seq (.ak [2,3,6,9,10,11] ane) (.bB 0 (.loop [2,3,6,9,10,11] false vb))) (.seq (.ak [6] ank) .ret)))⟩
@[simp] theorem e79:type_of% (show anc=_∧ane=_∧anf=_∧ang=_∧anh=_∧ani=_∧anj=_∧ank=_ from by simp only[zI,anc,ane,anf,ang,anh,ani,anj,ank,qo,qm,qi,qa,qw,qx,qe,qj,qk,qn,qs,qy];exact⟨rfl,rfl,rfl,rfl,rfl,rfl,rfl,rfl⟩):=⟨rfl,rfl,rfl,rfl,rfl,rfl,rfl,rfl⟩
theorem Eo:type_of% vb.eq_1:=ah vb.eq_1
theorem K5:type_of% xb.eq_1:=ah xb.eq_1
def anl :=[qx 2 0,qi 4 0]
def anm :=[qm 5 1,qf 6 1 2,ql 7 1 6,qk 8 .sub 5 7,qo 9 (.mx (.c zI) (.t 8)),qm 10 1,qf 11 0 2,ql 12 1 11,qk 13 .sub 10 12,qo 14 (.mn (.c zI) (.t 13)),qk 15 .add 9 14,qm 4 15]
def IF:bP:=jc [(1,[4]),(0,[1,2])]
def oh:Abs.Fn:=⟨2,[.t 4],
 (.seq (.ak [1,2] anl) (.seq (.ak [4] anm) .ret))⟩
@[simp] theorem e80:type_of% (show anl=_∧anm=_ from by simp only[zI,anl,anm,qo,qm,qi,qf,ql,qx,qk];exact⟨rfl,rfl⟩):=⟨rfl,rfl⟩
theorem IX:type_of% oh.eq_1:=ah oh.eq_1
def ano :=[qx 3 0,qx 4 1,qx 5 2,qi 6 0]
def anp :=[qf 7 1 5,ql 8 1 7,qo 9 (.bin .eql (.t 8) (.c (.int .u8 1)))]
def anq :=[qA 10 11 3,qF 11 0 4,qL 12 1 11,qF 13 0 5,qL 14 1 13,qJ 15 1 12 14,qL 16 1 15,qF 17 2 5,qL 18 1 17,qc 19 fO [10,16,18],qm 6 19]
def anr :=[qC 20 vl [],qF 21 1 5,qL 22 1 21,qO 23 (.R8 false 5 1 (.t 20) (.t 22)),qF 24 1 4,qL 25 1 24,qF 26 0 5,qL 27 1 26,qN 28 .sub 27 1,qJ 29 1 25 28,qL 30 1 29,qF 31 2 5,qL 32 1 31,qJ 33 3 30 32,qA 34 3 33,qo 35 (.call false (.t 23) [(.t 34)]),qm 6 35]
def F2:bP:=jc [(3,[6]),(2,[6]),(1,[3,4,5,9]),(0,[3,4,5])]
def lV:Abs.Fn:=⟨3,[.t 6],
 (.seq (.ak [3,4,5] ano) (.seq (.seq (.ak [3,4,5,9] anp) (.ite (.t 9) (.seq (.ak [6] anq) .ret) .cU)) (.seq (.ak [6] anr) .ret)))⟩
@[simp] theorem e81:type_of% (show ano=_∧anp=_∧anq=_∧anr=_ from by simp only[zI,ano,anp,anq,anr,qo,qO,qm,qi,qf,qF,ql,qL,qA,qx,qJ,qN,qc,qC,aj,aw];exact⟨rfl,rfl,rfl,rfl⟩):=⟨rfl,rfl,rfl,rfl⟩
theorem Gi:type_of% lV.eq_1:=ah lV.eq_1
def aA4 :=[qx 3 1,qb 4 false]
def aA5 :=[qm 5 0,qo 6 (.zR fG [] [(.t 3)]),qc 7 di [5,6],qu 8 7,qm 4 8]
def Au:bP:=jc [(1,[4]),(0,[0,3])]
def oJ:Abs.Fn:=⟨2,[.t 4],
 (.seq (.ak [0,3] aA4) (.seq (.ak [4] aA5) .ret))⟩
def tF0:List (Nat×bP×Abs.Fn):=[(iP,BY,iE),(xf,Te,wW),(rq,Ob,GA),(y8,MJ,Eu),(oz,P5,uY),(tD,Oi,tt),(vh,Iy,zF),(pT,P4,uX),(wx,JS,Bn),(oN,Od,tf),(xe,Td,wV),(nD,MO,rY),(iW,MS,sc),(uk,Tg,wY),(ru,Om,tA),(sf,MM,rV),(nA,G9,mQ),(tB,Oc,td),(vg,P3,uW),(xC,Lw,CW),(xg,Tf,K7),(nz,MI,rS),(fH,Lx,qh),(iy,Of,ti),(dw,uJ,ot),(wv,JR,Bm),(cG,JW,o6),(rB,Dl,vR),(tT,Ha,yX),(gq,De,jE),(oA,DW,wX),(oM,N9,sZ),(cS,FK,lF),(rn,N7,sX),(je,FJ,lE),(oL,N8,sY),(gn,Dc,jC),(kL,DV,kn),(vk,P7,va),(nC,Hj,mX),(fI,Oj,tv),(um,Ti,xb),(oE,IF,oh),(l8,F2,lV),(dE,Au,oJ)]
theorem kF0:(tF0.map fun p=>chk p)=tF0.map fun p=>some p.2.2:=by kernel_rfl
end Go.Proofs.YtfgljaglidhjiaaGreatDoor
