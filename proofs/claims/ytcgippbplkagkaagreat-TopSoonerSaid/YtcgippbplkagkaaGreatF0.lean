import Derived.Test.YtcgippbplkagkaaGreatIds
set_option linter.all false
set_option maxRecDepth 100000
namespace Go.Proofs.YtcgippbplkagkaaGreat
open Go Go.Abs
def XO :=[qx 7 0,qx 8 1,qx 9 2,qb 14 false]
def XP :=[qa 41 9 7,qa 42 2 8,qo 43 (.wH 1 2 [(.str []),.bw] [(0,2,(.t 42))]),qo 44 (.call false (.c (.fn pZ [] [])) [(.t 41),(.t 43),(.c .bw)]),qu 45 44,qm 46 45,qg 46 false (qf 47 8 7),qg 46 false (ql 48 1 47),qg 46 false (qe 49 48),qg 46 false (qn 50 .lss 49 2),qP 51 46 50,qm 52 51,qg 52 false (qf 53 1 9),qg 52 false (ql 54 1 53),qg 52 false (qe 55 54),qg 52 false (qn 56 .gtr 55 60),qP 57 52 56]
def XQ :=[qc 58 jT [],qm 14 58]
def XR :=[qf 59 0 7,qa 60 4 59,qc 61 j7 [60],qo 15 (.fR [] [zI,zI,zI,zI]),qs 15 4 15 61]
def XS :=[qo 16 (.rC 1)]
def XT :=[qi 17 0]
def XU :=[qm 62 17,qf 63 8 7,ql 64 1 63,qe 65 64,qk 66 .lss 62 65]
def XV :=[qo 18 (.rC 1)]
def XW :=[qi 19 0]
def XX :=[qm 69 19,qf 70 8 7,ql 71 1 70,qe 72 71,qk 73 .lss 69 72]
def OL :=[qW 77 15 4 15,qF 78 8 7,qL 79 1 78,qM 80 17,qJ 81 3 79 80,qF 82 0 81,qL 83 1 82,qF 84 8 7,qL 85 1 84,qM 86 19,qJ 87 3 85 86,qF 88 0 87,qL 89 1 88,qC 90 n9 [77,83,89],qM 76 90,qZ 91 76 0,qZ 92 76 1,qM 20 91,qm 21 92]
def OM :=[qm 93 21,qn 94 .neq 93 0]
def ON :=[qb 14 false]
def OO :=[qm 95 18,qm 96 20,qo 97 (.wH 1 1 [zI] [(0,1,(.t 96))]),qy 98 1 8 95 97,qm 18 98]
def OP :=[qm 74 19,qn 75 .add 74 1,qm 19 75]
def jc:Abs.bQ:=sI [3,4,5,6,7,8,9,15,16,17,18,19,73] XX 73 .ei (.exit 2) (.seq (.bu 3 (sR [3,4,5,6,7,8,9,15,16,17,18,19,20,21] OL (sE [3,4,5,6,7,8,9,15,16,17,18,19,20,94] OM 94 [14] ON (.cL [3,4,5,6,7,8,9,15,16,17,18,19] OO)))) (.cL [3,4,5,6,7,8,9,15,16,17,18,19] OP))
def OQ :=[qm 99 16,qm 100 18,qo 101 (.wH 1 1 [.bw] [(0,1,(.t 100))]),qy 102 1 24 99 101,qm 16 102]
def OR :=[qm 67 17,qn 68 .add 67 1,qm 17 68]
def jd:Abs.bQ:=sI [3,4,5,6,7,8,9,15,16,17,66] XU 66 .ei (.exit 0) (.seq (.bu 1 (sR [3,4,5,6,7,8,9,15,16,17,18] XV (sL [3,4,5,6,7,8,9,15,16,17,18,19] XW 2 [3,4,5,6,7,8,9,15,16,17,18,19] false jc (.cL [3,4,5,6,7,8,9,15,16,17] OQ)))) (.cL [3,4,5,6,7,8,9,15,16,17] OR))
def OS :=[qf 103 8 7,ql 104 1 103,qe 105 104,qo 106 (.o7 [zI,.bw] [(0,1,(.t 105))]),qo 22 (.fR [] [zI,.bw]),⟨none,none,false,.wM 22 [(1,4)] 2 22 (.t 106)⟩]
def OT :=[qi 23 0]
def OU :=[qm 107 23,qf 108 1 9,ql 109 1 108,qe 110 109,qk 111 .lss 107 110]
def OV :=[qF 114 1 9,qL 115 1 114,qM 116 23,qJ 117 4 115 116,qF 118 0 117,qL 119 1 118,qF 120 1 9,qL 121 1 120,qM 122 23,qJ 123 4 121 122,qF 124 1 123,qL 125 1 124,qF 126 1 9,qL 127 1 126,qM 128 23,qJ 129 4 127 128,qF 130 2 129,qA 131 2 130,qO 26 (.fR [] [zI,zI]),qM 24 119,qM 25 125,qs 26 2 26 131]
def OW :=[qm 132 24,qf 133 8 7,ql 134 1 133,qe 135 134,qn 136 .sub 135 1,qo 137 (.call false (.c (.fn kR [] [])) [(.t 132),(.c zI),(.t 136)]),qu 138 137,qm 139 138,qg 139 false (qm 140 25),qg 139 false (qf 141 8 7),qg 139 false (ql 142 1 141),qg 139 false (qe 143 142),qg 139 false (qn 144 .sub 143 1),qg 139 false (qo 145 (.call false (.c (.fn kR [] [])) [(.t 140),(.c zI),(.t 144)])),qg 139 false (qu 146 145),qP 147 139 146,qm 148 147,qg 148 false (qm 149 24),qg 148 false (qm 150 25),qg 148 false (qk 151 .eql 149 150),qP 152 148 151,qm 153 152,qg 153 false (qf 154 0 26),qg 153 false (qv 155 26 1 154),qg 153 false (qo 156 (.call false (.c (.fn kR [] [])) [(.t 155),(.c zI),(.c (.int .i64 100))])),qg 153 false (qu 157 156),qP 158 153 157,qm 159 158,qg 159 false (qf 160 1 26),qg 159 false (qv 161 26 1 160),qg 159 false (qo 162 (.call false (.c (.fn kR [] [])) [(.t 161),(.c zI),(.c (.int .i64 100))])),qg 159 false (qu 163 162),qP 164 159 163]
def OX :=[qc 165 jT [],qm 14 165]
def OY :=[qm 166 16,qm 167 24,qj 168 1 166 167,ql 169 1 168,qm 170 25,qj 171 1 169 170,ql 172 1 171,qm 27 172]
def OZ :=[qf 173 1 22,qv 174 22 1 173,qm 175 24,qm 176 25,qm 177 27,qf 178 0 26,qv 179 26 1 178,qk 180 .sub 177 179,qo 181 (.mx (.c zI) (.t 180)),qm 182 27,qf 183 1 26,qv 184 26 1 183,qk 185 .add 182 184,qo 186 (.o7 [zI,zI] [(0,1,(.t 181)),(1,1,(.t 185))]),qo 187 (.o7 [zI,zI,zI,zI] [(0,1,(.t 175)),(1,1,(.t 176)),(2,2,(.t 186))]),qo 188 (.wH 1 4 [zI,zI,zI,zI] [(0,4,(.t 187))]),qy 189 4 32 174 188,qf 190 1 22,⟨none,none,false,.wM 22 [(0,4)] 1 190 (.t 189)⟩]
def O0 :=[qm 112 23,qn 113 .add 112 1,qm 23 113]
def je:Abs.bQ:=sI [3,4,5,6,7,8,9,16,22,23,111] OU 111 .ei (.exit 4) (.seq (.bu 5 (sR [3,4,5,6,7,8,9,16,22,23,24,25,26] OV (sE [3,4,5,6,7,8,9,16,22,23,24,25,26,164] OW 164 [14] OX (sR [3,4,5,6,7,8,9,16,22,23,24,25,26,27] OY (.cL [3,4,5,6,7,8,9,16,22,23] OZ))))) (.cL [3,4,5,6,7,8,9,16,22,23] O0))
def O1 :=[qM 191 3,qO 192 (.Fc .i64 (.t 191)),qF 193 8 7,qL 194 1 193,qE 195 194,qK 196 .rem 192 195,qM 197 4,qO 198 (.Fc .i64 (.t 197)),qF 199 8 7,qL 200 1 199,qE 201 200,qK 202 .rem 198 201,qM 28 196,qm 29 202]
def O2 :=[qw 204 22 2 22,qm 205 28,qm 206 29,qc 207 fA [204,205,206],qm 203 207,qz 208 203 0,qz 209 203 1,qz 210 203 2,qo 31 (.fR [] [zI,.bw,.bw]),qm 30 208,qs 31 3 31 209,qm 32 210]
def O3 :=[qw 211 22 2 22,qm 212 16,qc 213 lN [211,212],qu 214 213,qm 215 214,qg 215 false (qm 216 32),qg 215 false (qn 217 .neq 216 0),qP 218 215 217]
def O4 :=[qb 14 false]
def O5 :=[qm 219 5,qo 220 (.Fc .i64 (.t 219)),qn 221 .rem 220 4,qm 33 221]
def O6 :=[qo 34 (.rC 1)]
def O7 :=[qi 35 0]
def O8 :=[qm 222 35,qn 223 .lss 222 6]
def O9 :=[qf 226 8 7,ql 227 1 226,qe 228 227,qo 229 (.Jl 1 8 [zI] (.t 228) (.t 228)),qm 36 229]
def Pa :=[qi 37 0]
def Pb :=[qm 230 37,qf 231 8 7,ql 232 1 231,qe 233 232,qk 234 .lss 230 233]
def Pc :=[qm 237 37,qm 238 28,qk 239 .neq 237 238]
def Pd :=[qm 240 36,qm 241 37,qm 242 6,qo 243 (.Fc .i64 (.t 242)),qn 244 .rem 243 5000,qo 245 (.bin .add (.c (.int .i64 1)) (.t 244)),qj 246 1 240 241,qt 1 246 245]
def Pe :=[qm 247 35,qm 248 33,qk 249 .geq 247 248]
def Pf :=[qm 250 36,qm 251 37,qm 252 6,qo 253 (.Fc .i64 (.t 252)),qn 254 .rem 253 5000,qo 255 (.bin .sub (.c (.int .i64 (-1))) (.t 254)),qj 256 1 250 251,qt 1 256 255]
def Pg :=[qm 235 37,qn 236 .add 235 1,qm 37 236]
def jf:Abs.bQ:=sI [6,7,8,28,29,30,33,34,35,36,37,234] Pb 234 .ei (.exit 8) (.seq (.bu 9 (sR [6,7,8,28,29,30,33,34,35,36,37,239] Pc (.ite (.t 239) (.cL [6,7,8,28,29,30,33,34,35,36,37] Pd) (sR [6,7,8,28,29,30,33,34,35,36,37,249] Pe (.ite (.t 249) (.cL [6,7,8,28,29,30,33,34,35,36,37] Pf) .ei))))) (.cL [6,7,8,28,29,30,33,34,35,36,37] Pg))
def Ph :=[qm 257 34,qm 258 36,qo 259 (.wH 1 1 [.bw] [(0,1,(.t 258))]),qy 260 1 24 257 259,qm 34 260]
def Pj :=[qm 224 35,qn 225 .add 224 1,qm 35 225]
def jg:Abs.bQ:=sI [6,7,8,28,29,30,33,34,35,223] O8 223 .ei (.exit 6) (.seq (.bu 7 (sR [6,7,8,28,29,30,33,34,35,36] O9 (sL [6,7,8,28,29,30,33,34,35,36,37] Pa 8 [6,7,8,28,29,30,33,34,35,36,37] false jf (.cL [6,7,8,28,29,30,33,34,35] Ph)))) (.cL [6,7,8,28,29,30,33,34,35] Pj))
def Pk :=[qm 261 28,qm 262 29,qk 263 .eql 261 262]
def Pl :=[qc 264 jT [],qm 14 264]
def Pm :=[qA 266 9 7,qC 267 n0 [266],qA 268 2 8,qC 269 lP [268],qO 270 (.wH 1 2 [(.str []),.bw] [(0,2,(.t 269))]),qM 271 34,qM 272 29,qC 273 jl [267,270,271,272],qM 265 273,qZ 274 265 0,qZ 275 265 1,qZ 276 265 2,qM 38 274,qM 39 275,qm 40 276]
def Pn :=[qm 277 40,qn 278 .neq 277 0]
def Po :=[qm 279 40,qn 280 .eql 279 9,qm 281 280,qg 281 true (qc 282 jT []),qp 283 281 282,qm 14 283]
def Pp :=[qm 284 38,qm 285 39,qk 286 .eql 284 285,qm 287 286,qg 287 true (qm 288 38),qg 287 true (qm 289 34),qg 287 true (qe 290 289),qg 287 true (qn 291 .add 290 1),qg 287 true (qm 292 33),qg 287 true (qn 293 .add 292 1),qg 287 true (qm 294 30),qg 287 true (qk 295 .add 293 294),qg 287 true (qn 296 .add 295 1),qg 287 true (qo 297 (.mn (.t 291) (.t 296))),qg 287 true (qk 298 .geq 288 297),qp 299 287 298,qm 300 299,qg 300 true (qc 301 jT []),qp 302 300 301,qm 14 302]
def l8:Abs.Fn:=⟨7,[.t 14],sR [3,4,5,6,7,8,9] XO (sE [3,4,5,6,7,8,9,57] XP 57 [14] XQ (sR [3,4,5,6,7,8,9,15] XR (sR [3,4,5,6,7,8,9,15,16] XS (sL [3,4,5,6,7,8,9,15,16,17] XT 0 [3,4,5,6,7,8,9,15,16,17] true jd (.seq (.seq (.cb [16]) (.cL [3,4,5,6,7,8,9,16,22] OS)) (sL [3,4,5,6,7,8,9,16,22,23] OT 4 [3,4,5,6,7,8,9,16,22,23] false je (.seq (.seq (.cb [22]) (.cL [5,6,7,8,16,22,28,29] O1)) (sR [5,6,7,8,16,22,28,29,30,32] O2 (sE [5,6,7,8,28,29,30,218] O3 218 [14] O4 (sR [6,7,8,28,29,30,33] O5 (sR [6,7,8,28,29,30,33,34] O6 (sL [6,7,8,28,29,30,33,34,35] O7 6 [6,7,8,28,29,30,33,34,35] true jg (.seq (.seq (.seq (.cb [34]) (.cL [7,8,29,30,33,34,263] Pk)) (.ite (.t 263) (sR [14] Pl .ret) .ei)) (sR [30,33,34,38,39,40] Pm (sE [30,33,34,38,39,40,278] Pn 278 [14] Po (sR [14] Pp .ret))))))))))))))))⟩
attribute [simp] XO XP XQ XR XS XT XU XV XW XX OL OM ON OO OP OQ OR OS OT OU OV OW OX OY OZ O0 O1 O2 O3 O4 O5 O6 O7 O8 O9 Pa Pb Pc Pd Pe Pf Pg Ph Pj Pk Pl Pm Pn Po Pp
def X7 :=[qx 3 0,qb 6 false]
def X8 :=[qa 7 9 3,qc 8 lS [7],qm 9 8,qg 9 true (qm 10 1),qg 9 true (qe 11 10),qg 9 true (qn 12 .leq 11 4),qp 13 9 12,qm 14 13,qg 14 true (qa 15 9 3),qg 14 true (qm 16 1),qg 14 true (qc 17 fK [15,16]),qg 14 true (qn 18 .eql 17 0),qp 19 14 18,qm 20 19,qg 20 true (qm 21 2),qg 20 true (qe 22 21),qg 20 true (qn 23 .leq 22 6),qp 24 20 23,qm 25 24,qg 25 true (qa 26 9 3),qg 25 true (qm 27 2),qg 25 true (qc 28 iE [26,27]),qg 25 true (qn 29 .eql 28 0),qp 30 25 29,qm 6 30]
def sX:Abs.Fn:=⟨3,[.t 6],.seq (.seq (.cb [1000002]) (.cL [1,2,3] X7)) (sR [6] X8 .ret)⟩
attribute [simp] X7 X8
def Yb :=[qb 0 false]
def Yc :=[qo 5 (.o7 [zI,zI] [(0,1,(.c (.int .i64 4))),(1,1,(.c (.int .i64 9)))]),qo 6 (.o7 [zI,zI,zI,zI] [(0,1,(.c zI)),(1,1,(.c (.int .i64 1))),(2,2,(.t 5))]),qo 7 (.wH 1 4 [zI,zI,zI,zI] [(0,4,(.t 6))]),qo 8 (.o7 [zI,.bw] [(0,1,(.c (.int .i64 2))),(1,1,(.t 7))]),qo 9 (.call false (.c (.fn fA [] [])) [(.t 8),(.c zI),(.c (.int .i64 1))]),qm 4 9,qz 10 4 0,qz 11 4 1,qz 12 4 2,qo 2 (.fR [] [zI,.bw,.bw]),qm 1 10,qs 2 3 2 11,qm 3 12]
def Yd :=[qm 13 3,qn 14 .eql 13 0,qm 15 14,qg 15 true (qm 16 1),qg 15 true (qn 17 .eql 16 4),qp 18 15 17,qm 19 18,qg 19 true (qf 20 0 2),qg 19 true (qv 21 2 1 20),qg 19 true (qn 22 .eql 21 0),qp 23 19 22,qm 0 23]
def rl:Abs.Fn:=⟨0,[.t 0],sR [] Yb (sR [1,2,3] Yc (sR [0] Yd .ret))⟩
attribute [simp] Yb Yc Yd
def Yg :=[qx 1 0,qo 2 (.fR [] [zI,zI,zI,zI])]
def Yh :=[qf 3 0 1,ql 4 1 3,qf 5 1 1,ql 6 1 5,qf 7 2 1,ql 8 1 7,qf 9 3 1,ql 10 1 9,qo 11 (.o7 [zI,zI,zI,zI] [(0,1,(.t 4)),(1,1,(.t 6)),(2,1,(.t 8)),(3,1,(.t 10))]),qs 2 4 2 11]
def nK:Abs.Fn:=⟨1,[.v 2 true 4],sR [1,2] Yg (sR [2] Yh .ret)⟩
attribute [simp] Yg Yh
def Yo :=[qx 3 0,qi 6 0,qi 7 0]
def Yp :=[qa 17 4 3,qm 18 1,qc 19 j6 [17,18],qm 16 19,qz 20 16 0,qz 21 16 1,qz 22 16 2,qz 23 16 3,qm 8 20,qm 9 21,qm 10 22,qm 11 23]
def Yq :=[qa 25 4 3,qm 26 2,qc 27 j6 [25,26],qm 24 27,qz 28 24 0,qz 29 24 1,qz 30 24 2,qz 31 24 3,qm 12 28,qm 13 29,qm 14 30,qm 15 31]
def Yr :=[qm 32 11,qn 33 .neq 32 0]
def Yt :=[qm 34 11,qi 6 0,qm 7 34]
def Yu :=[qm 35 8,qm 36 12,qk 37 .sub 35 36,qm 38 12,qm 39 8,qk 40 .sub 38 39,qo 41 (.mx (.t 37) (.t 40)),qm 42 9,qm 43 13,qk 44 .sub 42 43,qm 45 13,qm 46 9,qk 47 .sub 45 46,qo 48 (.mx (.t 44) (.t 47)),qk 49 .add 41 48,qm 50 10,qm 51 14,qk 52 .sub 50 51,qm 53 14,qm 54 10,qk 55 .sub 53 54,qo 56 (.mx (.t 52) (.t 55)),qk 57 .add 49 56,qm 58 15,qm 6 57,qm 7 58]
def pq:Abs.Fn:=⟨3,[.t 6,.t 7],sR [1,2,3] Yo (sR [2,3,8,9,10,11] Yp (sR [8,9,10,11,12,13,14,15] Yq (sE [8,9,10,11,12,13,14,15,33] Yr 33 [6,7] Yt (sR [6,7] Yu .ret))))⟩
attribute [simp] Yo Yp Yq Yr Yt Yu
def YM :=[qb 6 false]
def YN :=[qm 7 0,qm 8 1,qk 9 .geq 7 8,qm 10 9,qg 10 true (qm 11 0),qg 10 true (qm 12 2),qg 10 true (qk 13 .leq 11 12),qp 14 10 13,qm 6 14]
def rk:Abs.Fn:=⟨3,[.t 6],sR [0,1,2] YM (sR [6] YN .ret)⟩
attribute [simp] YM YN
def Y9 :=[qx 3 0,qi 6 0,qo 7 (.fR [] [zI,.bw,.bw]),qi 8 0]
def Za :=[qa 13 2 3,qm 14 1,qm 15 2,qc 16 kQ [13,14,15],qm 12 16,qz 17 12 0,qz 18 12 1,qm 9 17,qm 8 18]
def Zb :=[qm 19 8,qn 20 .neq 19 0]
def Zc :=[qo 21 (.o7 [zI,.bw,.bw] []),qm 22 8,qi 6 0,qs 7 3 7 21,qm 8 22]
def Zd :=[qm 24 9,qm 25 1,qm 26 2,qc 27 e7 [24,25,26],qm 23 27,qz 28 23 0,qz 29 23 1,qm 6 28,qm 10 29]
def Ze :=[qm 30 10,qn 31 .lss 30 0]
def Zf :=[qo 32 (.o7 [zI,.bw,.bw] [(0,1,(.c (.int .i64 (-1))))]),qi 6 0,qs 7 3 7 32,qi 8 0]
def Zg :=[qf 33 1 3,ql 34 1 33,qm 35 10,qj 36 4 34 35,qa 37 4 36,qo 11 (.fR [] [zI,zI,zI,zI]),qs 11 4 11 37]
def Zh :=[qM 38 6,qM 39 10,qM 40 9,qF 41 0 11,qV 42 11 1 41,qM 43 1,qo 44 (.call true (.c (.fn dL [] [])) [(.t 40),(.t 42),(.t 43)]),qo 45 (.call true (.c (.fn dO [] [])) [(.t 44)]),qM 46 9,qM 47 2,qF 48 1 11,qV 49 11 1 48,qo 50 (.call true (.c (.fn dL [] [])) [(.t 46),(.t 47),(.t 49)]),qo 51 (.call true (.c (.fn dO [] [])) [(.t 50)]),qO 52 (.o7 [zI,.bw,.bw] [(0,1,(.t 39)),(1,1,(.t 45)),(2,1,(.t 51))]),qM 6 38,qs 7 3 7 52,qi 8 0]
def ie:Abs.Fn:=⟨3,[.t 6,.v 7 true 3,.t 8],sR [1,2,3,7] Y9 (sR [1,2,3,7,8,9] Za (sE [1,2,3,7,8,9,20] Zb 20 [6,7,8] Zc (sR [1,2,3,6,7,9,10] Zd (sE [1,2,3,6,7,9,10,31] Ze 31 [6,7,8] Zf (sR [1,2,6,7,9,10,11] Zg (sR [6,7,8] Zh .ret))))))⟩
attribute [simp] Y9 Za Zb Zc Zd Ze Zf Zg Zh
def LD :=[qx 2 0,qx 3 1,qb 4 false]
def LF :=[qa 12 2 2,qc 13 eh [12],qn 14 .neq 13 0,qm 15 14,qg 15 false (ql 16 1 3),qg 15 false (qe 17 16),qg 15 false (qf 18 0 2),qg 15 false (ql 19 1 18),qg 15 false (qk 20 .neq 17 19),qP 21 15 20]
def LG :=[qb 4 false]
def LH :=[ql 22 1 3,qe 23 22,qi 24 0]
def LI :=[qk 25 .lss 24 23]
def LJ :=[qm 26 24,qj 27 1 22 24,ql 28 1 27,qm 5 26,qm 6 28]
def LK :=[qm 29 6,qe 30 29,qf 31 0 2,ql 32 1 31,qk 33 .neq 30 32,qm 34 33,qg 34 false (qm 35 6),qg 34 false (qm 36 5),qg 34 false (qj 37 1 35 36),qg 34 false (ql 38 1 37),qg 34 false (qn 39 .neq 38 0),qP 40 34 39]
def LL :=[qb 4 false]
def LM :=[qm 41 6,qe 42 41,qi 43 0]
def LN :=[qk 44 .lss 43 42]
def GQ :=[qj 45 1 41 43,ql 46 1 45,qm 8 46]
def GR :=[qm 47 8,qo 48 (.call false (.c (.fn eu [] [])) [(.t 47),(.c zI),(.c (.int .i64 1000000))]),qu 49 48]
def GS :=[qb 4 false]
def GU :=[qn 50 .add 43 1,qm 43 50]
def ki:Abs.bQ:=sR [2,3,22,23,24,41,42,43,44] LN (.seq (.ite (.t 44) .ei (.exit 2)) (.seq (.bu 3 (sR [2,3,8,22,23,24,41,42,43] GQ (sR [2,3,22,23,24,41,42,43,49] GR (.ite (.t 49) (sR [4] GS .ret) .ei)))) (.cL [2,3,22,23,24,41,42,43] GU)))
def GV :=[qn 51 .add 24 1,qm 24 51]
def kj:Abs.bQ:=sR [2,3,22,23,24,25] LI (.seq (.ite (.t 25) .ei (.exit 0)) (.seq (.bu 1 (sR [2,3,5,6,22,23,24] LJ (sE [2,3,6,22,23,24,40] LK 40 [4] LL (sR [2,3,22,23,24,41,42,43] LM (.bu 2 (.loop [2,3,22,23,24,41,42,43] false ki)))))) (.cL [2,3,22,23,24] GV)))
def GW :=[ql 52 1 3,qe 53 52,qi 54 0]
def GX :=[qk 55 .lss 54 53]
def GY :=[qm 56 54,qm 9 56]
def GZ :=[ql 57 1 3,qe 58 57,qi 59 0]
def G1 :=[qk 60 .lss 59 58]
def G2 :=[qm 61 59,qm 10 61]
def G3 :=[ql 62 1 3,qe 63 62,qi 64 0]
def G4 :=[qk 65 .lss 64 63]
def G5 :=[qm 66 64,qm 11 66]
def G6 :=[qL 67 1 3,qM 68 9,qJ 69 1 67 68,qL 70 1 69,qM 71 11,qJ 72 1 70 71,qL 73 1 72,qL 74 1 3,qM 75 9,qJ 76 1 74 75,qL 77 1 76,qM 78 10,qJ 79 1 77 78,qL 80 1 79,qL 81 1 3,qM 82 10,qJ 83 1 81 82,qL 84 1 83,qM 85 11,qJ 86 1 84 85,qL 87 1 86,qK 88 .add 80 87,qk 89 .gtr 73 88]
def G7 :=[qb 4 false]
def G8 :=[qn 90 .add 64 1,qm 64 90]
def kn:Abs.bQ:=sR [2,3,9,10,53,54,58,59,63,64,65] G4 (.seq (.ite (.t 65) .ei (.exit 8)) (.seq (.bu 9 (sR [2,3,9,10,11,53,54,58,59,63,64] G5 (sR [2,3,9,10,53,54,58,59,63,64,89] G6 (.ite (.t 89) (sR [4] G7 .ret) .ei)))) (.cL [2,3,9,10,53,54,58,59,63,64] G8)))
def G9 :=[qn 91 .add 59 1,qm 59 91]
def ko:Abs.bQ:=sR [2,3,9,53,54,58,59,60] G1 (.seq (.ite (.t 60) .ei (.exit 6)) (.seq (.bu 7 (sR [2,3,9,10,53,54,58,59] G2 (sR [2,3,9,10,53,54,58,59,63,64] G3 (.bu 8 (.loop [2,3,9,10,53,54,58,59,63,64] false kn))))) (.cL [2,3,9,53,54,58,59] G9)))
def Ha :=[qn 92 .add 54 1,qm 54 92]
def kq:Abs.bQ:=sR [2,3,53,54,55] GX (.seq (.ite (.t 55) .ei (.exit 4)) (.seq (.bu 5 (sR [2,3,9,53,54] GY (sR [2,3,9,53,54,58,59] GZ (.bu 6 (.loop [2,3,9,53,54,58,59] false ko))))) (.cL [2,3,53,54] Ha)))
def Hb :=[qf 93 1 2,ql 94 1 93,qo 95 (.wo hH [] [(.t 3)]),qc 96 cG [94,95],qu 97 96,qm 4 97]
def nI:Abs.Fn:=⟨2,[.t 4],sR [2,3] LD (sE [2,3,21] LF 21 [4] LG (sL [2,3,22,23,24] LH 0 [2,3,22,23,24] false kj (sL [2,3,53,54] GW 4 [2,3,53,54] false kq (sR [4] Hb .ret))))⟩
attribute [simp] LD LF LG LH LI LJ LK LL LM LN GQ GR GS GU GV GW GX GY GZ G1 G2 G3 G4 G5 G6 G7 G8 G9 Ha Hb
def LO :=[qx 4 0,qi 8 0,qi 9 0,qo 10 (.Ch [] [zI])]
def LP :=[qa 13 9 4,qm 14 1,qm 15 2,qc 16 mQ [13,14,15],qm 11 16]
def LQ :=[qm 17 11,qn 18 .neq 17 0]
def LR :=[qm 19 11,qi 8 0,qi 9 0,qt 1 10 19]
def LS :=[qm 20 3,qf 21 8 4,ql 22 1 21,qe 23 22,qn 24 .sub 23 1,qo 25 (.call false (.c (.fn bN [] [])) [(.t 20),(.c zI),(.t 24)]),qu 26 25]
def LU :=[qi 8 0,qi 9 0,⟨none,none,false,.st [] 1 (.t 10) (.c (.int .i64 2))⟩]
def LV :=[qa 27 9 4,qm 28 1,qm 29 2,qm 30 3]
def LW :=[qo 12 (.fR [] [zI,zI]),qs 12 2 12 31]
def LX :=[qF 32 0 12,qV 33 12 1 32,qF 34 1 12,qV 35 12 1 34,qM 8 33,qm 9 35,⟨none,none,false,.st [] 1 (.t 10) (.c zI)⟩]
def mG:Abs.bQ:=.seq (.wN [8,9,10,12] LV ⟨some 31,none,false,.call false (.c (.fn mo [] [])) [(.t 27),(.t 28),(.t 29),(.t 30),(.c (.fn dh [] []))]⟩ LW) (sR [8,9,10] LX .ret)
def xk:nv:=⟨[(8,[8,9,10]),(7,[8,9,10,12]),(6,[1,2,3,4,8,9,10]),(5,[8,9,10]),(4,[1,2,3,4,8,9,10,26]),(3,[8,9,10]),(2,[1,2,3,4,8,9,10,11,18]),(1,[1,2,3,4,8,9,10,11]),(0,[1,2,3,4,8,9,10])],[],[],[10,12],[12],[],[],[],[],[],[(7,some 4)]⟩
def kP:Abs.Fn:=⟨4,[.t 8,.t 9,.c 10 false 1],sR [1,2,3,4,8,9,10] LO (.seq (sR [1,2,3,4,8,9,10,11] LP (sR [1,2,3,4,8,9,10,11,18] LQ (.ite (.t 18) (sR [8,9,10] LR .ret) .ei))) (sE [1,2,3,4,8,9,10,26] LS 26 [8,9,10] LU (.Ge (.c (.fn gk [] [])) [(.t 10)] mG)))⟩
attribute [simp] LO LP LQ LR LS LU LV LW LX
def LY :=[qx 1 0,qo 2 (.fR [] [zI,zI,zI,zI,.bw,zI,zI,zI,.bw])]
def LZ :=[qF 5 0 1,qO 6 (.AD true 4 (.t 5)),qC 7 j7 [6],qF 8 4 1,qO 9 (.AD false 1 (.t 8)),qo 10 (.call true (.c (.fn lO [] [])) [(.t 9)]),qF 11 5 1,qO 12 (.AD false 1 (.t 11)),qF 13 6 1,qO 14 (.AD false 1 (.t 13)),qF 15 7 1,qO 16 (.AD false 1 (.t 15)),qO 17 (.o7 [zI,zI,zI,zI,.bw,zI,zI,zI,.bw] [(0,4,(.t 7)),(4,1,(.t 10)),(5,1,(.t 12)),(6,1,(.t 14)),(7,1,(.t 16))]),qO 3 (.fR [] [zI,zI,zI,zI,.bw,zI,zI,zI,.bw]),⟨none,none,false,.wM 3 [(8,3)] 9 3 (.t 17)⟩]
def L4 :=[qi 4 0]
def L5 :=[qm 18 4,qf 19 8 1,qo 20 (.AD false 1 (.t 19)),qe 21 20,qk 22 .lss 18 21]
def L7 :=[qF 25 8 3,qV 26 3 1 25,qF 27 8 1,qO 28 (.AD false 1 (.t 27)),qM 29 4,qJ 30 3 28 29,qF 31 0 30,qL 32 1 31,qF 33 8 1,qO 34 (.AD false 1 (.t 33)),qM 35 4,qJ 36 3 34 35,qF 37 1 36,qL 38 1 37,qF 39 8 1,qO 40 (.AD false 1 (.t 39)),qM 41 4,qJ 42 3 40 41,qF 43 2 42,qL 44 1 43,qO 45 (.o7 [zI,zI,zI] [(0,1,(.t 32)),(1,1,(.t 38)),(2,1,(.t 44))]),qO 46 (.wH 1 3 [zI,zI,zI] [(0,3,(.t 45))]),qy 47 3 24 26 46,qf 48 8 3,⟨none,none,false,.wM 3 [(0,3)] 1 48 (.t 47)⟩]
def L8 :=[qm 23 4,qn 24 .add 23 1,qm 4 24]
def mF:Abs.bQ:=sI [1,2,3,4,22] L5 22 .ei (.exit 0) (.seq (.bu 1 (.cL [1,2,3,4] L7)) (.cL [1,2,3,4] L8))
def L9 :=[qw 49 3 9 3,qs 2 9 2 49]
def pn:Abs.Fn:=⟨1,[.v 2 true 9],sR [1,2] LY (sR [1,2,3] LZ (sL [1,2,3,4] L4 0 [1,2,3,4] false mF (sR [2] L9 .ret)))⟩
attribute [simp] LY LZ L4 L5 L7 L8 L9
def Ma :=[qx 1 0,qo 2 (.fR [] [(.str []),.bw])]
def Mb :=[qF 3 0 1,qO 4 (.AD false 1 (.t 3)),qO 5 (.Fb 0 1 [] []),qF 6 1 1,qO 7 (.AD false 1 (.t 6)),qo 8 (.JV 1 8 (.t 5) (.t 7)),qo 9 (.o7 [(.str []),.bw] [(0,1,(.t 4)),(1,1,(.t 8))]),qs 2 2 2 9]
def nL:Abs.Fn:=⟨1,[.v 2 true 2],sR [1,2] Ma (sR [2] Mb .ret)⟩
attribute [simp] Ma Mb
def Mc :=[qx 1 0,qb 2 false]
def Md :=[qf 6 0 1,qa 7 4 6,qc 8 lR [7],qu 9 8,qm 10 9,qg 10 false (qf 11 0 1),qg 10 false (qf 12 3 11),qg 10 false (ql 13 1 12),qg 10 false (qn 14 .lss 13 4),qP 15 10 14,qm 16 15,qg 16 false (qf 17 4 1),qg 16 false (ql 18 1 17),qg 16 false (qc 19 lQ [18]),qg 16 false (qu 20 19),qP 21 16 20,qm 22 21,qg 22 false (qf 23 5 1),qg 22 false (ql 24 1 23),qg 22 false (qo 25 (.call false (.c (.fn cz [] [])) [(.t 24),(.c (.int .i64 1)),(.c (.int .i64 100000))])),qg 22 false (qu 26 25),qP 27 22 26,qm 28 27,qg 28 false (qf 29 6 1),qg 28 false (ql 30 1 29),qg 28 false (qo 31 (.call false (.c (.fn cz [] [])) [(.t 30),(.c zI),(.c (.int .i64 1000))])),qg 28 false (qu 32 31),qP 33 28 32,qm 34 33,qg 34 false (qf 35 7 1),qg 34 false (ql 36 1 35),qg 34 false (qo 37 (.call false (.c (.fn cz [] [])) [(.t 36),(.c zI),(.c (.int .i64 3000))])),qg 34 false (qu 38 37),qP 39 34 38,qm 40 39,qg 40 false (qf 41 8 1),qg 40 false (ql 42 1 41),qg 40 false (qe 43 42),qg 40 false (qn 44 .gtr 43 8),qP 45 40 44]
def Mf :=[qb 2 false]
def Mg :=[qi 3 0]
def Mh :=[qm 46 3,qf 47 8 1,ql 48 1 47,qe 49 48,qk 50 .lss 46 49]
def Mi :=[qf 53 8 1,ql 54 1 53,qm 55 3,qj 56 3 54 55,qa 57 3 56,qo 4 (.fR [] [zI,zI,zI]),qs 4 3 4 57]
def Mj :=[qF 58 0 4,qV 59 4 1 58,qF 60 0 1,qA 61 4 60,qC 62 gg [61],qN 63 .sub 62 1,qo 64 (.call false (.c (.fn cz [] [])) [(.t 59),(.c zI),(.t 63)]),qu 65 64,qm 66 65,qg 66 false (qf 67 1 4),qg 66 false (qv 68 4 1 67),qg 66 false (qo 69 (.call false (.c (.fn cz [] [])) [(.t 68),(.c zI),(.c (.int .i64 3000))])),qg 66 false (qu 70 69),qP 71 66 70,qm 72 71,qg 72 false (qf 73 2 4),qg 72 false (qv 74 4 1 73),qg 72 false (qo 75 (.call false (.c (.fn cz [] [])) [(.t 74),(.c zI),(.c (.int .i64 1000000))])),qg 72 false (qu 76 75),qP 77 72 76]
def Ml :=[qb 2 false]
def Mm :=[qi 5 0]
def Mn :=[qm 78 5,qm 79 3,qk 80 .lss 78 79]
def HQ :=[qF 83 8 1,qL 84 1 83,qM 85 5,qJ 86 3 84 85,qF 87 0 86,qL 88 1 87,qF 89 0 4,qV 90 4 1 89,qk 91 .eql 88 90]
def HR :=[qb 2 false]
def HS :=[qm 81 5,qn 82 .add 81 1,qm 5 82]
def ku:Abs.bQ:=sI [1,3,4,5,80] Mn 80 .ei (.exit 2) (.seq (.bu 3 (sR [1,3,4,5,91] HQ (.ite (.t 91) (sR [2] HR .ret) .ei))) (.cL [1,3,4,5] HS))
def HT :=[qm 51 3,qn 52 .add 51 1,qm 3 52]
def kz:Abs.bQ:=sI [1,3,50] Mh 50 .ei (.exit 0) (.seq (.bu 1 (sR [1,3,4] Mi (sE [1,3,4,77] Mj 77 [2] Ml (sR [1,3,4,5] Mm (.bu 2 (.loop [1,3,4,5] false ku)))))) (.cL [1,3] HT))
def HU :=[qb 2 true]
def nO:Abs.Fn:=⟨1,[.t 2],sR [1] Mc (sE [1,45] Md 45 [2] Mf (sL [1,3] Mg 0 [1,3] false kz (sR [2] HU .ret)))⟩
attribute [simp] Mc Md Mf Mg Mh Mi Mj Ml Mm Mn HQ HR HS HT HU
def Mp :=[qx 2 0,qi 4 0]
def Mq :=[qm 6 1,qe 7 6,qn 8 .lss 7 1,qm 9 8,qg 9 false (qm 10 1),qg 9 false (qe 11 10),qg 9 false (qn 12 .gtr 11 40),qP 13 9 12]
def Mr :=[qi 4 3]
def Ms :=[qf 14 0 2,qa 15 4 14,qm 16 1,qc 17 fJ [15,16],qn 18 .neq 17 0]
def Mt :=[qi 4 1]
def Mu :=[qi 5 0]
def Mw :=[qm 19 5,qm 20 1,qe 21 20,qk 22 .lss 19 21]
def My :=[qA 25 9 2,qM 26 1,qM 27 5,qJ 28 2 26 27,qA 29 2 28,qc 30 mP [25,29],qu 31 30]
def Mz :=[qi 4 1]
def MA :=[qm 23 5,qn 24 .add 23 1,qm 5 24]
def fu:Abs.bQ:=sI [1,2,5,22] Mw 22 .ei (.exit 0) (.seq (.bu 1 (sR [1,2,5,31] My (.ite (.t 31) (sR [4] Mz .ret) .ei))) (.cL [1,2,5] MA))
def HV :=[qi 4 0]
def iW:Abs.Fn:=⟨2,[.t 4],sR [1,2] Mp (sE [1,2,13] Mq 13 [4] Mr (sE [1,2,18] Ms 18 [4] Mt (sL [1,2,5] Mu 0 [1,2,5] false fu (sR [4] HV .ret))))⟩
attribute [simp] Mp Mq Mr Ms Mt Mu Mw My Mz MA HV
def MB :=[qx 2 0,qi 4 0]
def MC :=[qm 7 1,qe 8 7,qn 9 .gtr 8 200]
def MD :=[qi 4 3]
def ME :=[qi 5 0]
def MF :=[qm 10 5,qm 11 1,qe 12 11,qk 13 .lss 10 12]
def MG :=[qA 16 9 2,qM 17 1,qM 18 5,qJ 19 1 17 18,qL 20 1 19,qc 21 gB [16,20],qm 6 21]
def MH :=[qm 22 6,qn 23 .neq 22 0]
def MI :=[qm 24 6,qm 4 24]
def MJ :=[qm 14 5,qn 15 .add 14 1,qm 5 15]
def iu:Abs.bQ:=sI [1,2,5,13] MF 13 .ei (.exit 0) (.seq (.bu 1 (sR [1,2,5,6] MG (sR [1,2,5,6,23] MH (.ite (.t 23) (sR [4] MI .ret) .ei)))) (.cL [1,2,5] MJ))
def HW :=[qi 4 0]
def kr:Abs.Fn:=⟨2,[.t 4],sR [1,2] MB (sE [1,2,9] MC 9 [4] MD (sL [1,2,5] ME 0 [1,2,5] false iu (sR [4] HW .ret)))⟩
attribute [simp] MB MC MD ME MF MG MH MI MJ HW
def MK :=[qx 2 0,qi 4 0,qi 5 0,qi 6 0,qi 7 0]
def ML :=[qa 9 4 2,qc 10 eg [9],qu 11 10,qm 8 11]
def MM :=[qi 4 0,qi 5 0,qi 6 0,qi 7 1]
def MN :=[qm 13 1,qa 14 4 2,qc 15 cY [14],qn 16 .sub 15 1,qo 17 (.call false (.c (.fn cC [] [])) [(.t 13),(.c zI),(.t 16)]),qu 18 17,qm 12 18]
def MO :=[qi 4 0,qi 5 0,qi 6 0,qi 7 2]
def MP :=[qM 19 1,qF 20 0 2,qL 21 1 20,qK 22 .rem 19 21,qM 23 1,qF 24 0 2,qL 25 1 24,qK 26 .quo 23 25,qF 27 1 2,qL 28 1 27,qK 29 .rem 26 28,qM 30 1,qF 31 0 2,qL 32 1 31,qK 33 .quo 30 32,qF 34 1 2,qL 35 1 34,qK 36 .quo 33 35,qM 4 22,qM 5 29,qm 6 36,qi 7 0]
def nF:Abs.Fn:=⟨2,[.t 4,.t 5,.t 6,.t 7],sR [1,2] MK (.seq (.bu 0 (sR [1,2,8] ML (.ite (.t 8) (sR [4,5,6,7] MM .ret) (sR [1,2,12] MN (.ite (.t 12) (sR [4,5,6,7] MO .ret) .ei))))) (sR [4,5,6,7] MP .ret))⟩
attribute [simp] MK ML MM MN MO MP
def MQ :=[qx 3 0,qo 6 (.mv (.c .nd)),qi 7 0]
def MR :=[qa 9 2 3,qc 10 eh [9],qm 8 10]
def MS :=[qm 11 8,qn 12 .neq 11 0]
def MT :=[qm 13 8,qo 6 (.mv (.c .nd)),qm 7 13]
def MU :=[qa 14 2 3,qm 15 1,qc 16 cJ [14,15],qu 17 16,qm 18 17,qg 18 false (qa 19 2 3),qg 18 false (qm 20 2),qg 18 false (qc 21 cJ [19,20]),qg 18 false (qu 22 21),qP 23 18 22]
def MV :=[qo 6 (.mv (.c .nd)),qi 7 2]
def MW :=[qa 24 2 3,qc 25 jk [24],qz 26 25 0,qz 27 25 1,qm 6 26,qm 7 27]
def mE:Abs.Fn:=⟨3,[.t 6,.t 7],sR [1,2,3] MQ (.seq (sR [1,2,3,8] MR (sR [1,2,3,8,12] MS (.ite (.t 12) (sR [6,7] MT .ret) .ei))) (sE [3,23] MU 23 [6,7] MV (sR [6,7] MW .ret)))⟩
attribute [simp] MQ MR MS MT MU MV MW
def MX :=[qi 6 0,qi 7 0]
def MY :=[qi 7 (-1)]
def MZ :=[qm 12 1,qm 13 2,qk 14 .eql 12 13]
def M0 :=[qm 15 7,qi 6 0,qm 7 15]
def M1 :=[qm 16 0,qo 17 (.wo dM [(.t 16)] []),qm 8 17]
def M3 :=[qm 18 0,qo 19 (.uj (.t 18)),qf 20 0 19,qf 21 1 20,ql 22 1 21,qe 23 22,qi 24 0]
def M4 :=[qk 25 .lss 24 23]
def M5 :=[qm 26 24,qj 27 4 22 24,qa 28 4 27,qo 10 (.fR [] [zI,zI,zI,zI]),qm 9 26,qs 10 4 10 28]
def M6 :=[qm 29 8,qw 30 10 4 10,qm 31 1,qm 32 2,qo 33 (.call false (.t 29) [(.t 30),(.t 31),(.t 32)]),qm 11 33]
def M7 :=[qm 34 11,qm 35 6,qk 36 .gtr 34 35]
def HX :=[qm 37 11,qm 38 9,qm 6 37,qm 7 38]
def HY :=[qn 39 .add 24 1,qm 24 39]
def eU:Abs.bQ:=sR [1,2,6,7,8,22,23,24,25] M4 (.seq (.ite (.t 25) .ei (.exit 0)) (.seq (.bu 1 (sR [1,2,6,7,8,9,10,22,23,24] M5 (sR [1,2,6,7,8,9,11,22,23,24] M6 (sR [1,2,6,7,8,9,11,22,23,24,36] M7 (.ite (.t 36) (.cL [1,2,6,7,8,22,23,24] HX) .ei))))) (.cL [1,2,6,7,8,22,23,24] HY)))
def HZ :=[qm 40 6,qm 41 7,qm 6 40,qm 7 41]
def ir:Abs.Fn:=⟨3,[.t 6,.t 7],sR [0,1,2,6] MX (sR [0,1,2,6,7] MY (sE [0,1,2,6,7,14] MZ 14 [6,7] M0 (sR [0,1,2,6,7,8] M1 (sL [1,2,6,7,8,22,23,24] M3 0 [1,2,6,7,8,22,23,24] false eU (sR [6,7] HZ .ret)))))⟩
attribute [simp] MX MY MZ M0 M1 M3 M4 M5 M6 M7 HX HY HZ
def M8 :=[qo 2 (.mv (.c .bw))]
def M9 :=[qm 3 0,qo 4 (.call false (.c (.fn ec [] [])) [(.c .bw),(.t 3)]),qm 2 4]
def iB:Abs.Fn:=⟨1,[.t 2],sR [0] M8 (sR [2] M9 .ret)⟩
attribute [simp] M8 M9
def Na :=[qx 3 0,qo 4 (.xr (.t 1)),qx 5 2,qo 6 (.mv (.c .pO))]
def Nb :=[qo 7 (.wo bM [] [(.t 4),(.t 5),(.t 3)]),qm 6 7]
def ig:Abs.Fn:=⟨3,[.t 6],sR [3,4,5] Na (sR [6] Nb .ret)⟩
attribute [simp] Na Nb
def Nc :=[qx 1 0,qi 2 0]
def Nd :=[qf 5 1 1,ql 6 1 5,qe 7 6,qn 8 .gtr 7 60]
def Nf :=[qi 2 3]
def Ng :=[qf 9 0 1,ql 10 1 9,qo 11 (.call false (.c (.fn eu [] [])) [(.t 10),(.c (.int .i64 1)),(.c (.int .i64 12))]),qu 12 11]
def Nh :=[qi 2 1]
def Ni :=[qf 13 1 1,ql 14 1 13,qe 15 14,qi 16 0]
def Nj :=[qk 17 .lss 16 15]
def Nk :=[qj 18 4 14 16,qa 19 4 18,qo 4 (.fR [] [zI,zI,zI,zI]),qs 4 4 4 19]
def Nl :=[qa 20 2 1,qf 21 0 4,qv 22 4 1 21,qc 23 cJ [20,22],qu 24 23,qm 25 24,qg 25 false (qa 26 2 1),qg 25 false (qf 27 1 4),qg 25 false (qv 28 4 1 27),qg 25 false (qc 29 cJ [26,28]),qg 25 false (qu 30 29),qP 31 25 30,qm 32 31,qg 32 false (qf 33 0 4),qg 32 false (qv 34 4 1 33),qg 32 false (qf 35 1 4),qg 32 false (qv 36 4 1 35),qg 32 false (qk 37 .eql 34 36),qP 38 32 37,qm 39 38,qg 39 false (qf 40 2 4),qg 39 false (qf 41 0 40),qg 39 false (qv 42 4 1 41),qg 39 false (qn 43 .lss 42 0),qP 44 39 43,qm 45 44,qg 45 false (qf 46 2 4),qg 45 false (qf 47 0 46),qg 45 false (qv 48 4 1 47),qg 45 false (qf 49 2 4),qg 45 false (qf 50 1 49),qg 45 false (qv 51 4 1 50),qg 45 false (qk 52 .gtr 48 51),qP 53 45 52,qm 54 53,qg 54 false (qf 55 2 4),qg 54 false (qf 56 1 55),qg 54 false (qv 57 4 1 56),qg 54 false (qn 58 .gtr 57 1000000),qP 59 54 58]
def Nn :=[qi 2 1]
def H0 :=[qn 60 .add 16 1,qm 16 60]
def fp:Abs.bQ:=sR [1,14,15,16,17] Nj (.seq (.ite (.t 17) .ei (.exit 0)) (.seq (.bu 1 (sR [1,4,14,15,16] Nk (sR [1,14,15,16,59] Nl (.ite (.t 59) (sR [2] Nn .ret) .ei)))) (.cL [1,14,15,16] H0)))
def H2 :=[qi 2 0]
def iT:Abs.Fn:=⟨1,[.t 2],sR [1] Nc (sE [1,8] Nd 8 [2] Nf (sE [1,12] Ng 12 [2] Nh (sL [1,14,15,16] Ni 0 [1,14,15,16] false fp (sR [2] H2 .ret))))⟩
attribute [simp] Nc Nd Nf Ng Nh Ni Nj Nk Nl Nn H0 H2
def No :=[qb 6 false]
def Np :=[qm 7 1,qm 8 0,qk 9 .leq 7 8,qm 10 9,qg 10 true (qm 11 0),qg 10 true (qm 12 2),qg 10 true (qk 13 .leq 11 12),qp 14 10 13,qm 6 14]
def lY:Abs.Fn:=⟨3,[.t 6],sR [0,1,2] No (sR [6] Np .ret)⟩
attribute [simp] No Np
def XM :=[qb 4 false]
def XN :=[qm 5 0,qm 6 1,qc 7 bP [5,6],qn 8 .geq 7 0,qm 4 8]
def gU:Abs.Fn:=⟨2,[.t 4],sR [0,1] XM (sR [4] XN .ret)⟩
def Nq :=[qx 2 0,qb 3 false]
def Nr :=[qL 4 1 1,qF 5 0 2,qL 6 1 5,qJ 7 1 4 6,qL 8 1 7,qF 9 1 2,qL 10 1 9,qJ 11 1 8 10,qL 12 1 11,qF 13 2 2,qF 14 0 13,qL 15 1 14,qF 16 2 2,qF 17 1 16,qL 18 1 17,qc 19 eu [12,15,18],qu 20 19,qm 3 20]
def lX:Abs.Fn:=⟨2,[.t 3],sR [1,2] Nq (sR [3] Nr .ret)⟩
attribute [simp] Nq Nr
def Ns :=[qx 3 0,qi 6 0]
def Nt :=[qa 8 9 3,qc 9 jq [8],qu 10 9,qm 7 10]
def Nu :=[qi 6 1]
def Nv :=[qm 12 1,qe 13 12,qo 14 (.call false (.c (.fn bN [] [])) [(.t 13),(.c (.int .i64 1)),(.c (.int .i64 40))]),qu 15 14,qm 11 15]
def Nw :=[qi 6 3]
def Nx :=[qf 17 0 3,qa 18 4 17,qm 19 1,qc 20 ef [18,19],qn 21 .neq 20 0,qm 22 21,qg 22 false (qm 23 1),qg 22 false (qo 24 (.wo jt [] [(.t 3)])),qg 22 false (qc 25 dY [23,24]),qg 22 false (qu 26 25),qP 27 22 26,qm 16 27]
def Ny :=[qi 6 1]
def Nz :=[qa 28 9 3,qm 29 2,qc 30 j3 [28,29],qm 6 30]
def oA:Abs.Fn:=⟨3,[.t 6],sR [1,2,3] Ns (.seq (.bu 0 (sR [1,2,3,7] Nt (.ite (.t 7) (sR [6] Nu .ret) (sR [1,2,3,11] Nv (.ite (.t 11) (sR [6] Nw .ret) (sR [2,3,16] Nx (.ite (.t 16) (sR [6] Ny .ret) .ei))))))) (sR [6] Nz .ret))⟩
attribute [simp] Ns Nt Nu Nv Nw Nx Ny Nz
def NA :=[qb 6 false]
def NB :=[qm 7 1,qm 8 0,qk 9 .leq 7 8,qm 10 9,qg 10 true (qm 11 0),qg 10 true (qm 12 2),qg 10 true (qk 13 .leq 11 12),qp 14 10 13,qm 6 14]
def nR:Abs.Fn:=⟨3,[.t 6],sR [0,1,2] NA (sR [6] NB .ret)⟩
attribute [simp] NA NB
def NC :=[qo 5 (.CQ)]
def ND :=[qo 7 (.KS false (.t 5))]
def NF :=[qm 2 5]
def NG :=[qo 8 (.Ll 126 (some (.agg [])) (.t 5)),qz 9 8 1,qz 10 8 0]
def NH :=[qo 3 (.fR [] []),qs 3 0 3 10]
def NI :=[qm 11 0,qo 12 (.uj (.t 11)),⟨none,none,false,.st [] 1 (.t 12) (.c (.int .i64 9))⟩]
def NJ :=[qm 4 5]
def NK :=[qm 6 4]
def NL:List Abs.Op:=[]
def lK:Abs.Fn:=⟨1,[],sR [0,5] NC (.bu 0 (sR [0,5,7] ND (.ite (.t 7) (.cL [] NF) (sR [0,5,9,10] NG (.ite (.t 9) (sR [0] NH (.cL [] NI)) (sR [4] NJ (.wN [] NK ⟨none,none,false,.Fg (.t 6)⟩ NL)))))))⟩
attribute [simp] NC ND NF NG NH NI NJ NK NL
def NM :=[qx 5 0,qx 8 3,qx 9 4,qo 10 (.fR [] [zI,zI])]
def NN :=[qa 11 9 5,qm 12 1,qm 13 2]
def NO :=[qo 15 (.wo j8 [] [(.t 9),(.t 8)]),qc 16 ff [14,15],qs 10 2 10 16]
def nY:Abs.Fn:=⟨5,[.v 10 true 2],sR [1,2,5,8,9,10] NM (.seq (.wN [10] NN ⟨some 14,none,false,.call false (.c (.fn ml [] [])) [(.t 11),(.t 12),(.t 13)]⟩ NO) .ret)⟩
attribute [simp] NM NN NO
def NP :=[qx 1 0,qb 2 false]
def NQ :=[qf 3 2 1,ql 4 1 3,qn 5 .gtr 4 0,qm 2 5]
def lh:Abs.Fn:=⟨1,[.t 2],sR [1] NP (sR [2] NQ .ret)⟩
attribute [simp] NP NQ
def NR :=[qo 2 (.mv (.c .bw))]
def NS :=[qo 3 (.rC 5)]
def NT :=[qi 4 0]
def NU :=[qm 5 4,qm 6 0,qe 7 6,qk 8 .lss 5 7]
def NV :=[qM 11 3,qM 12 0,qM 13 4,qJ 14 5 12 13,qF 15 0 14,qL 16 1 15,qM 17 0,qM 18 4,qJ 19 5 17 18,qF 20 1 19,qL 21 1 20,qM 22 0,qM 23 4,qJ 24 5 22 23,qF 25 2 24,qL 26 1 25,qM 27 0,qM 28 4,qJ 29 5 27 28,qF 30 3 29,qL 31 1 30,qM 32 0,qM 33 4,qJ 34 5 32 33,qF 35 4 34,qL 36 1 35,qO 37 (.o7 [zI,zI,zI,zI,zI] [(0,1,(.t 16)),(1,1,(.t 21)),(2,1,(.t 26)),(3,1,(.t 31)),(4,1,(.t 36))]),qO 38 (.wH 1 5 [zI,zI,zI,zI,zI] [(0,5,(.t 37))]),qy 39 5 40 11 38,qm 3 39]
def NW :=[qm 9 4,qn 10 .add 9 1,qm 4 10]
def lf:Abs.bQ:=sI [0,3,4,8] NU 8 .ei (.exit 0) (.seq (.bu 1 (.cL [0,3,4] NV)) (.cL [0,3,4] NW))
def NX :=[qm 40 3,qm 2 40]
def nJ:Abs.Fn:=⟨1,[.t 2],sR [0] NR (sR [0,3] NS (sL [0,3,4] NT 0 [0,3,4] false lf (sR [2] NX .ret)))⟩
attribute [simp] NR NS NT NU NV NW NX
def NY :=[qx 1 0,qb 2 false]
def NZ :=[qf 3 0 1,ql 4 1 3,qo 5 (.call false (.c (.fn jS [] [])) [(.t 4),(.c (.int .i64 1)),(.c (.int .i64 8))]),qm 6 5,qg 6 true (qf 7 1 1),qg 6 true (ql 8 1 7),qg 6 true (qo 9 (.call false (.c (.fn jS [] [])) [(.t 8),(.c (.int .i64 1)),(.c (.int .i64 8))])),qp 10 6 9,qm 11 10,qg 11 true (qf 12 2 1),qg 11 true (ql 13 1 12),qg 11 true (qo 14 (.call false (.c (.fn jS [] [])) [(.t 13),(.c (.int .i64 1)),(.c (.int .i64 8))])),qp 15 11 14,qm 16 15,qg 16 true (qf 17 0 1),qg 16 true (ql 18 1 17),qg 16 true (qf 19 1 1),qg 16 true (ql 20 1 19),qg 16 true (qk 21 .mul 18 20),qg 16 true (qf 22 2 1),qg 16 true (ql 23 1 22),qg 16 true (qk 24 .mul 21 23),qg 16 true (qn 25 .leq 24 64),qp 26 16 25,qm 27 26,qg 27 true (qf 28 3 1),qg 27 true (ql 29 1 28),qg 27 true (qo 30 (.call false (.c (.fn jS [] [])) [(.t 29),(.c (.int .i64 1)),(.c (.int .i64 6))])),qp 31 27 30,qm 2 31]
def nN:Abs.Fn:=⟨1,[.t 2],sR [1] NY (sR [2] NZ .ret)⟩
attribute [simp] NY NZ
def N0 :=[qb 2 false]
def N1 :=[qi 3 0]
def N2 :=[qm 5 3,qm 6 0,qe 7 6,qk 8 .lss 5 7]
def N3 :=[qm 11 0,qm 12 3,qj 13 5 11 12,qa 14 5 13,qo 4 (.fR [] [zI,zI,zI,zI,zI]),qs 4 5 4 14]
def N4 :=[qf 15 0 4,qv 16 4 1 15,qo 17 (.call false (.c (.fn cz [] [])) [(.t 16),(.c zI),(.c (.int .i64 400))]),qu 18 17,qm 19 18,qg 19 false (qf 20 1 4),qg 19 false (qv 21 4 1 20),qg 19 false (qo 22 (.call false (.c (.fn cz [] [])) [(.t 21),(.c (.int .i64 1)),(.c (.int .i64 10000))])),qg 19 false (qu 23 22),qP 24 19 23,qm 25 24,qg 25 false (qf 26 2 4),qg 25 false (qv 27 4 1 26),qg 25 false (qo 28 (.call false (.c (.fn cz [] [])) [(.t 27),(.c zI),(.c (.int .i64 4000))])),qg 25 false (qu 29 28),qP 30 25 29,qm 31 30,qg 31 false (qf 32 4 4),qg 31 false (qv 33 4 1 32),qg 31 false (qo 34 (.call false (.c (.fn cz [] [])) [(.t 33),(.c zI),(.c (.int .i64 2000))])),qg 31 false (qu 35 34),qP 36 31 35,qm 37 36,qg 37 false (qf 38 3 4),qg 37 false (qv 39 4 1 38),qg 37 false (qf 40 2 4),qg 37 false (qv 41 4 1 40),qg 37 false (qk 42 .leq 39 41),qP 43 37 42,qm 44 43,qg 44 false (qf 45 3 4),qg 44 false (qv 46 4 1 45),qg 44 false (qn 47 .gtr 46 4000),qP 48 44 47]
def N5 :=[qb 2 false]
def N6 :=[qM 49 3,qN 50 .gtr 49 0,qM 51 50,qg 51 true (qF 52 0 4),qg 51 true (qV 53 4 1 52),qg 51 true (qM 54 0),qg 51 true (qM 55 3),qg 51 true (qN 56 .sub 55 1),qg 51 true (qJ 57 5 54 56),qg 51 true (qF 58 0 57),qg 51 true (qL 59 1 58),qg 51 true (qK 60 .leq 53 59),qg 51 true (qM 61 60),qg 61 false (qF 62 1 4),qg 61 false (qV 63 4 1 62),qg 61 false (qM 64 0),qg 61 false (qM 65 3),qg 61 false (qN 66 .sub 65 1),qg 61 false (qJ 67 5 64 66),qg 61 false (qF 68 1 67),qg 61 false (qL 69 1 68),qg 61 false (qK 70 .leq 63 69),qg 51 true (qO 71 (.pick (.t 61) (.c (.bool true)) (.t 70))),qg 51 true (qM 72 71),qg 72 false (qF 73 2 4),qg 72 false (qV 74 4 1 73),qg 72 false (qM 75 0),qg 72 false (qM 76 3),qg 72 false (qN 77 .sub 76 1),qg 72 false (qJ 78 5 75 77),qg 72 false (qF 79 2 78),qg 72 false (qL 80 1 79),qg 72 false (qK 81 .leq 74 80),qg 51 true (qO 82 (.pick (.t 72) (.c (.bool true)) (.t 81))),qg 51 true (qM 83 82),qg 83 false (qF 84 4 4),qg 83 false (qV 85 4 1 84),qg 83 false (qM 86 0),qg 83 false (qM 87 3),qg 83 false (qN 88 .sub 87 1),qg 83 false (qJ 89 5 86 88),qg 83 false (qF 90 4 89),qg 83 false (qL 91 1 90),qg 83 false (qk 92 .lss 85 91),qg 51 true (qP 93 83 92),qp 94 51 93]
def N7 :=[qb 2 false]
def N8 :=[qm 9 3,qn 10 .add 9 1,qm 3 10]
def lg:Abs.bQ:=sI [0,3,8] N2 8 .ei (.exit 0) (.seq (.bu 1 (sR [0,3,4] N3 (sE [0,3,4,48] N4 48 [2] N5 (sR [0,3,94] N6 (.ite (.t 94) (sR [2] N7 .ret) .ei))))) (.cL [0,3] N8))
def H3 :=[qm 95 0,qe 96 95,qn 97 .geq 96 2,qm 98 97,qg 98 true (qm 99 0),qg 98 true (qe 100 99),qg 98 true (qn 101 .leq 100 20),qp 102 98 101,qm 2 102]
def nM:Abs.Fn:=⟨1,[.t 2],sR [0] N0 (sL [0,3] N1 0 [0,3] false lg (sR [2] H3 .ret))⟩
attribute [simp] N0 N1 N2 N3 N4 N5 N6 N7 N8 H3
def N9 :=[qb 6 false]
def Oa :=[qm 7 0,qm 8 1,qk 9 .geq 7 8,qm 10 9,qg 10 true (qm 11 0),qg 10 true (qm 12 2),qg 10 true (qk 13 .leq 11 12),qp 14 10 13,qm 6 14]
def ri:Abs.Fn:=⟨3,[.t 6],sR [0,1,2] N9 (sR [6] Oa .ret)⟩
attribute [simp] N9 Oa
def Ob :=[qx 1 0,qi 2 0]
def Oc :=[qf 3 0 1,ql 4 1 3,qf 5 1 1,ql 6 1 5,qk 7 .mul 4 6,qf 8 2 1,ql 9 1 8,qk 10 .mul 7 9,qm 2 10]
def ow:Abs.Fn:=⟨1,[.t 2],sR [1] Ob (sR [2] Oc .ret)⟩
attribute [simp] Ob Oc
def Od :=[qx 2 0,qi 4 0]
def Oe :=[qm 8 1,qe 9 8,qn 10 .lss 9 1,qm 11 10,qg 11 false (qm 12 1),qg 11 false (qe 13 12),qg 11 false (qn 14 .gtr 13 40),qP 15 11 14]
def Of :=[qi 4 3]
def Og :=[qi 5 0]
def Oh :=[qm 16 5,qm 17 1,qe 18 17,qk 19 .lss 16 18]
def Oi :=[qA 22 4 2,qM 23 1,qM 24 5,qJ 25 2 23 24,qA 26 2 25,qc 27 eI [22,26],qm 6 27]
def Oj :=[qm 28 6,qn 29 .neq 28 0]
def Ol :=[qm 30 6,qm 4 30]
def Om :=[qi 7 0]
def On :=[qm 31 7,qm 32 5,qk 33 .lss 31 32]
def H4 :=[qM 36 1,qM 37 7,qJ 38 2 36 37,qF 39 0 38,qL 40 1 39,qM 41 1,qM 42 5,qJ 43 2 41 42,qF 44 0 43,qL 45 1 44,qo 46 (.uA (.seq false) [(.t 40),(.t 45)])]
def H5 :=[qi 4 6]
def H6 :=[qm 34 7,qn 35 .add 34 1,qm 7 35]
def fq:Abs.bQ:=sI [1,2,5,7,33] On 33 .ei (.exit 2) (.seq (.bu 3 (sR [1,2,5,7,46] H4 (.ite (.t 46) (sR [4] H5 .ret) .ei))) (.cL [1,2,5,7] H6))
def H7 :=[qm 20 5,qn 21 .add 20 1,qm 5 21]
def ft:Abs.bQ:=sI [1,2,5,19] Oh 19 .ei (.exit 0) (.seq (.bu 1 (.seq (sR [1,2,5,6] Oi (sR [1,2,5,6,29] Oj (.ite (.t 29) (sR [4] Ol .ret) .ei))) (sR [1,2,5,7] Om (.bu 2 (.loop [1,2,5,7] false fq))))) (.cL [1,2,5] H7))
def H8 :=[qi 4 0]
def iV:Abs.Fn:=⟨2,[.t 4],sR [1,2] Od (sE [1,2,15] Oe 15 [4] Of (sL [1,2,5] Og 0 [1,2,5] false ft (sR [4] H8 .ret)))⟩
attribute [simp] Od Oe Of Og Oh Oi Oj Ol Om On H4 H5 H6 H7 H8
def Oo :=[qx 2 0,qx 3 1,qb 4 false]
def Oq :=[qf 6 0 2,qa 7 4 6,qa 8 2 3,qc 9 eI [7,8],qn 10 .neq 9 0]
def Ot :=[qb 4 false]
def Ou :=[qi 5 0]
def Ov :=[qm 11 5,qf 12 0 2,qa 13 4 12,qc 14 gg [13],qk 15 .lss 11 14]
def Ow :=[qa 18 9 2,qa 19 2 3,qm 20 5,qo 21 (.call false (.c (.fn gj [] [])) [(.t 18),(.t 19),(.c zI),(.t 20)]),qo 22 (.call false (.c (.fn cz [] [])) [(.t 21),(.c (.int .i64 1000)),(.c (.int .i64 100000))]),qu 23 22,qm 24 23,qg 24 false (qa 25 9 2),qg 24 false (qa 26 2 3),qg 24 false (qm 27 5),qg 24 false (qo 28 (.call false (.c (.fn gj [] [])) [(.t 25),(.t 26),(.c (.int .i64 1)),(.t 27)])),qg 24 false (qo 29 (.call false (.c (.fn cz [] [])) [(.t 28),(.c zI),(.c (.int .i64 1000))])),qg 24 false (qu 30 29),qP 31 24 30,qm 32 31,qg 32 false (qa 33 9 2),qg 32 false (qa 34 2 3),qg 32 false (qm 35 5),qg 32 false (qo 36 (.call false (.c (.fn gj [] [])) [(.t 33),(.t 34),(.c (.int .i64 2)),(.t 35)])),qg 32 false (qo 37 (.call false (.c (.fn cz [] [])) [(.t 36),(.c zI),(.c (.int .i64 3000))])),qg 32 false (qu 38 37),qP 39 32 38,qm 40 39,qg 40 false (qa 41 9 2),qg 40 false (qa 42 2 3),qg 40 false (qm 43 5),qg 40 false (qo 44 (.call false (.c (.fn gj [] [])) [(.t 41),(.t 42),(.c (.int .i64 3)),(.t 43)])),qg 40 false (qo 45 (.call false (.c (.fn cz [] [])) [(.t 44),(.c zI),(.c (.int .i64 1000))])),qg 40 false (qu 46 45),qP 47 40 46]
def Ox :=[qb 4 false]
def Oy :=[qm 16 5,qn 17 .add 16 1,qm 5 17]
def l4:Abs.bQ:=sI [2,3,5,15] Ov 15 .ei (.exit 0) (.seq (.bu 1 (sR [2,3,5,47] Ow (.ite (.t 47) (sR [4] Ox .ret) .ei))) (.cL [2,3,5] Oy))
def Oz :=[qb 4 true]
def oz:Abs.Fn:=⟨2,[.t 4],sR [2,3] Oo (sE [2,3,10] Oq 10 [4] Ot (sL [2,3,5] Ou 0 [2,3,5] false l4 (sR [4] Oz .ret)))⟩
attribute [simp] Oo Oq Ot Ou Ov Ow Ox Oy Oz
def OA :=[qx 2 0,qi 4 0]
def OB :=[qm 6 1,qe 7 6,qf 8 8 2,ql 9 1 8,qe 10 9,qk 11 .neq 7 10]
def OC :=[qi 4 1]
def OD :=[qi 5 0]
def OE :=[qm 12 5,qm 13 1,qe 14 13,qk 15 .lss 12 14]
def OF :=[qm 18 1,qm 19 5,qj 20 1 18 19,ql 21 1 20,qo 22 (.call false (.c (.fn cz [] [])) [(.t 21),(.c (.int .i64 (-100000))),(.c (.int .i64 100000))]),qu 23 22]
def OG :=[qi 4 2]
def OH :=[qm 16 5,qn 17 .add 16 1,qm 5 17]
def gK:Abs.bQ:=sI [1,5,15] OE 15 .ei (.exit 0) (.seq (.bu 1 (sR [1,5,23] OF (.ite (.t 23) (sR [4] OG .ret) .ei))) (.cL [1,5] OH))
def OI :=[qi 4 0]
def jF:Abs.Fn:=⟨2,[.t 4],sR [1,2] OA (sE [1,11] OB 11 [4] OC (sL [1,5] OD 0 [1,5] false gK (sR [4] OI .ret)))⟩
attribute [simp] OA OB OC OD OE OF OG OH OI
def OJ :=[qx 1 0,qb 2 false]
def OK :=[qf 3 0 1,ql 4 1 3,qo 5 (.call false (.c (.fn cC [] [])) [(.t 4),(.c (.int .i64 1)),(.c (.int .i64 8))]),qm 6 5,qg 6 true (qf 7 1 1),qg 6 true (ql 8 1 7),qg 6 true (qo 9 (.call false (.c (.fn cC [] [])) [(.t 8),(.c (.int .i64 1)),(.c (.int .i64 8))])),qp 10 6 9,qm 11 10,qg 11 true (qf 12 2 1),qg 11 true (ql 13 1 12),qg 11 true (qo 14 (.call false (.c (.fn cC [] [])) [(.t 13),(.c (.int .i64 1)),(.c (.int .i64 8))])),qp 15 11 14,qm 16 15,qg 16 true (qa 17 4 1),qg 16 true (qc 18 cY [17]),qg 16 true (qn 19 .leq 18 64),qp 20 16 19,qm 21 20,qg 21 true (qf 22 3 1),qg 21 true (ql 23 1 22),qg 21 true (qo 24 (.call false (.c (.fn cC [] [])) [(.t 23),(.c (.int .i64 1)),(.c (.int .i64 6))])),qp 25 21 24,qm 2 25]
def iS:Abs.Fn:=⟨1,[.t 2],sR [1] OJ (sR [2] OK .ret)⟩
attribute [simp] OJ OK
def Pq :=[qb 6 false]
def Pr :=[qm 7 1,qm 8 0,qk 9 .leq 7 8,qm 10 9,qg 10 true (qm 11 0),qg 10 true (qm 12 2),qg 10 true (qk 13 .leq 11 12),qp 14 10 13,qm 6 14]
def mD:Abs.Fn:=⟨3,[.t 6],sR [0,1,2] Pq (sR [6] Pr .ret)⟩
attribute [simp] Pq Pr
def Ps :=[qx 1 0,qi 2 0]
def Pt :=[qf 3 0 1,ql 4 1 3,qf 5 1 1,ql 6 1 5,qk 7 .mul 4 6,qf 8 2 1,ql 9 1 8,qk 10 .mul 7 9,qm 2 10]
def ia:Abs.Fn:=⟨1,[.t 2],sR [1] Ps (sR [2] Pt .ret)⟩
attribute [simp] Ps Pt
def Pv :=[qx 2 0,qb 4 false]
def Pw :=[qm 5 1,qf 6 0 2,ql 7 1 6,qn 8 .sub 7 1,qo 9 (.call false (.c (.fn eu [] [])) [(.t 5),(.c zI),(.t 8)]),qm 4 9]
def iU:Abs.Fn:=⟨2,[.t 4],sR [1,2] Pv (sR [4] Pw .ret)⟩
attribute [simp] Pv Pw
def Px :=[qx 1 0,qo 2 (.mv (.c .nd)),qi 3 0]
def Py :=[qa 5 2 1,qc 6 dc [5],qm 4 6]
def Pz :=[qm 7 4,qc 8 e6 [7],qn 9 .geq 8 0]
def PA :=[qo 2 (.mv (.c .nd)),qi 3 9]
def PB :=[qm 10 4,qm 2 10,qi 3 0]
def la:Abs.Fn:=⟨1,[.t 2,.t 3],sR [1] Px (sR [4] Py (sE [4,9] Pz 9 [2,3] PA (sR [2,3] PB .ret)))⟩
attribute [simp] Px Py Pz PA PB
def PC :=[qx 5 1,qi 8 0]
def PD :=[qF 9 2 5,qF 10 0 9,qL 11 1 10,qM 12 0,qF 13 0 5,qL 14 1 13,qM 15 2,qO 16 (.uj (.t 12)),qF 17 2 16,qO 18 (.lH 12 12 (.t 17) (.t 14)),qO 19 (.lH 12 1 (.t 18) (.t 15)),qL 20 1 19,qK 21 .sub 11 20,qM 22 0,qM 23 3,qF 24 1 5,qL 25 1 24,qO 26 (.uj (.t 22)),qF 27 2 26,qO 28 (.lH 12 12 (.t 27) (.t 23)),qO 29 (.lH 12 1 (.t 28) (.t 25)),qL 30 1 29,qk 31 .sub 21 30,qm 8 31]
def iq:Abs.Fn:=⟨4,[.t 8],sR [0,2,3,5] PC (sR [8] PD .ret)⟩
attribute [simp] PC PD
def PE :=[qo 2 (.JW [(0,1)] (.t 0)),qo 4 (.mv (.c .bw))]
def PF :=[qm 6 1]
def PG :=[qm 5 7]
def PH :=[ql 8 1 2,qm 9 5,qo 10 (.wH 1 1 [zI] [(0,1,(.t 9))]),qy 11 1 8 8 10,⟨none,none,false,.st [(0,1)] 1 (.t 2) (.t 11)⟩]
def eB:Abs.bQ:=.cL [2,5] PG
def eC:Abs.bQ:=.bu 1 (.cL [] PH)
def PI :=[ql 12 1 2,qm 4 12]
def q7:nv:=an7 [(4,[4]),(3,[]),(2,[2,5]),(1,[2,4,6]),(0,[1,2,4])] [(0,[2,4])] [] [2] [] [(3004,[(0,1)]),(0,[(0,1)])] []
def gb:Abs.Fn:=⟨2,[.t 4],sR [1,2,4] PE (.seq (sR [2,4,6] PF (.bu 0 (.Al [2,4] (.t 6) [7] eB eC))) (sR [4] PI .ret))⟩
attribute [simp] PE PF PG PH PI
def PJ :=[qL 5 1 1,qL 6 1 2,qK 7 .neq 5 6,qM 8 7,qg 8 true (qL 9 1 3),qg 8 true (qL 10 1 1),qg 8 true (qL 11 1 2),qg 8 true (qO 12 (.uj (.t 9))),qg 8 true (qF 13 146 12),qg 8 true (qO 14 (.lH 12 12 (.t 13) (.t 10))),qg 8 true (qO 15 (.lH 12 1 (.t 14) (.t 11))),qg 8 true (qL 16 1 15),qg 8 true (qN 17 .geq 16 0),qO 18 (.pick (.t 8) (.t 17) (.c (.bool false))),qM 19 18,qg 19 true (qM 20 0),qg 19 true (qL 21 1 3),qg 19 true (qL 22 1 1),qg 19 true (qL 23 1 2),qg 19 true (qO 24 (.uj (.t 21))),qg 19 true (qF 25 146 24),qg 19 true (qO 26 (.lH 12 12 (.t 25) (.t 22))),qg 19 true (qO 27 (.lH 12 1 (.t 26) (.t 23))),qg 19 true (qL 28 1 27),qg 19 true (qo 29 (.call false (.t 20) [(.t 28)])),qp 30 19 29]
def PK :=[qL 31 1 3,qO 32 (.uj (.t 31)),qF 33 0 32,qF 34 1 33,qL 35 1 34,qL 36 1 3,qL 37 1 1,qL 38 1 2,qO 39 (.uj (.t 36)),qF 40 146 39,qO 41 (.lH 12 12 (.t 40) (.t 37)),qO 42 (.lH 12 1 (.t 41) (.t 38)),qL 43 1 42,qj 44 4 35 43,qf 45 1 44,ql 46 1 45,qt 1 1 46]
def gW:Abs.bQ:=sI [0,1,2,3,30] PJ 30 .ei (.exit 0) (.bu 1 (.cL [0,1,2,3] PK))
def fU:Abs.Fn:=⟨4,[],.bu 0 (.loop [0,1,2,3] false gW)⟩
attribute [simp] PJ PK
def XY :=[qi 4 0]
def XZ :=[qm 6 0,qe 7 6,qi 8 0]
def X0 :=[qk 9 .lss 8 7]
def X2 :=[qm 10 8,qm 5 10]
def X3 :=[qm 11 1,qm 12 0,qm 13 5,qj 14 4 12 13,qa 15 4 14,qo 16 (.call false (.t 11) [(.t 15)])]
def X4 :=[qm 17 5,qm 4 17]
def X5 :=[qn 18 .add 8 1,qm 8 18]
def mz:Abs.bQ:=sR [0,1,7,8,9] X0 (.seq (.ite (.t 9) .ei (.exit 0)) (.seq (.bu 1 (sR [0,1,5,7,8] X2 (sR [0,1,5,7,8,16] X3 (.ite (.t 16) (sR [4] X4 .ret) .ei)))) (.cL [0,1,7,8] X5)))
def X6 :=[qi 4 (-1)]
def jj:Abs.Fn:=⟨2,[.t 4],sR [0,1] XY (sL [0,1,7,8] XZ 0 [0,1,7,8] false mz (sR [4] X6 .ret))⟩
def PL :=[qx 1 0,qb 2 false]
def PM :=[qf 4 0 1,qa 5 4 4,qc 6 gA [5],qn 7 .neq 6 0,qm 8 7,qg 8 false (qf 9 0 1),qg 8 false (qf 10 3 9),qg 8 false (ql 11 1 10),qg 8 false (qn 12 .lss 11 4),qP 13 8 12,qm 14 13,qg 14 false (qf 15 4 1),qg 14 false (ql 16 1 15),qg 14 false (qc 17 gG [16]),qg 14 false (qn 18 .neq 17 0),qP 19 14 18,qm 20 19,qg 20 false (qf 21 5 1),qg 20 false (ql 22 1 21),qg 20 false (qo 23 (.call false (.c (.fn bN [] [])) [(.t 22),(.c (.int .i64 1)),(.c (.int .i64 100000))])),qg 20 false (qu 24 23),qP 25 20 24,qm 26 25,qg 26 false (qf 27 6 1),qg 26 false (ql 28 1 27),qg 26 false (qo 29 (.call false (.c (.fn bN [] [])) [(.t 28),(.c zI),(.c (.int .i64 1000))])),qg 26 false (qu 30 29),qP 31 26 30,qm 32 31,qg 32 false (qf 33 7 1),qg 32 false (ql 34 1 33),qg 32 false (qo 35 (.call false (.c (.fn bN [] [])) [(.t 34),(.c zI),(.c (.int .i64 3000))])),qg 32 false (qu 36 35),qP 37 32 36,qm 38 37,qg 38 false (qf 39 8 1),qg 38 false (ql 40 1 39),qg 38 false (qe 41 40),qg 38 false (qn 42 .gtr 41 8),qP 43 38 42]
def PN :=[qb 2 false]
def PO :=[qa 44 9 1,qc 45 cj [44],qo 46 (.Jl 1 1 [(.bool false)] (.t 45) (.t 45)),qo 3 (.Ch [] [.bw]),qt 1 3 46]
def PQ :=[qf 47 8 1,ql 48 1 47,qo 49 (.wo cZ [] [(.t 3)]),qc 50 fe [48,49],qm 2 50]
def ll:Abs.Fn:=⟨1,[.t 2],sR [1] PL (sE [1,43] PM 43 [2] PN (sR [1,3] PO (sR [2] PQ .ret)))⟩
attribute [simp] PL PM PN PO PQ
def PR :=[qx 2 0,qx 3 1,qi 4 0]
def PS :=[qa 5 4 2,qo 6 (.wo dp [(.t 5)] []),qo 7 (.wo dr [] [(.t 2),(.t 3)]),qo 8 (.wH 2 1 [.pO,.pO] [(0,1,(.t 6)),(1,1,(.t 7))]),qc 9 lL [8],qm 4 9]
def iP:Abs.Fn:=⟨2,[.t 4],sR [2,3] PR (sR [4] PS .ret)⟩
attribute [simp] PR PS
def X9 :=[qx 3 1,qb 4 false]
def Ya :=[qm 5 0,qo 6 (.wo eV [] [(.t 3)]),qc 7 cF [5,6],qu 8 7,qm 4 8]
def mH:Abs.Fn:=⟨2,[.t 4],sR [0,3] X9 (sR [4] Ya .ret)⟩
def PT :=[qx 2 0,qb 3 false]
def PU :=[qa 4 9 1,qa 5 2 2,qo 6 (.o7 [zI,zI,zI,zI,.bw,zI,zI,zI,.bw,(.str []),.bw] [(0,9,(.t 4)),(9,2,(.t 5))]),qc 7 gC [6],qm 3 7]
def mJ:Abs.Fn:=⟨2,[.t 3],sR [1,2] PT (sR [3] PU .ret)⟩
attribute [simp] PT PU
def PV :=[qx 1 0,qb 2 false]
def PW :=[qf 5 0 1,qf 6 0 5,qa 7 4 6,qf 8 9 1,qa 9 2 8,qo 10 (.wH 1 2 [(.str []),.bw] [(0,2,(.t 9))]),qc 11 ef [7,10],qn 12 .neq 11 0]
def PX :=[qb 2 false]
def PY :=[qo 13 (.o7 [zI,zI] [(0,1,(.c (.int .i64 1000))),(1,1,(.c (.int .i64 100000)))]),qo 14 (.o7 [zI,zI] [(0,1,(.c zI)),(1,1,(.c (.int .i64 1000)))]),qo 15 (.o7 [zI,zI] [(0,1,(.c zI)),(1,1,(.c (.int .i64 3000)))]),qo 16 (.o7 [zI,zI] [(0,1,(.c zI)),(1,1,(.c (.int .i64 1000)))]),qo 17 (.o7 [zI,zI,zI,zI,zI,zI,zI,zI] [(0,2,(.t 13)),(2,2,(.t 14)),(4,2,(.t 15)),(6,2,(.t 16))]),qi 18 0]
def PZ :=[qn 19 .lss 18 4]
def P0 :=[qm 20 18,qo 21 (.Bp true 4 2 (.t 17) (.t 18)),qo 4 (.Ch [] [zI,zI]),qm 3 20,qt 2 4 21]
def P3 :=[qa 22 11 1,qm 23 3,qc 24 cA [22,23],qo 25 (.wo cr [] [(.t 4)]),qc 26 fa [24,25],qu 27 26]
def P4 :=[qb 2 false]
def P5 :=[qn 28 .add 18 1,qm 18 28]
def gM:Abs.bQ:=sR [1,17,18,19] PZ (.seq (.ite (.t 19) .ei (.exit 0)) (.seq (.bu 1 (sR [1,3,4,17,18] P0 (sR [1,17,18,27] P3 (.ite (.t 27) (sR [2] P4 .ret) .ei)))) (.cL [1,17,18] P5)))
def H9 :=[qb 2 true]
def jL:Abs.Fn:=⟨1,[.t 2],sR [1] PV (sE [1,12] PW 12 [2] PX (sL [1,17,18] PY 0 [1,17,18] true gM (sR [2] H9 .ret)))⟩
attribute [simp] PV PW PX PY PZ P0 P3 P4 P5 H9
def tF0:List (Nat×nv×Abs.Fn):=[A4 [0,1,2,3,4,5,6,8,9,10,12,13,14,11,15,7,16,17,18,19,21,22,23,24,20,25,26,27,28,29,30,31,32,33,35,36,37,39,38,41,40,42,34,43,44,45,46,47,48,49] j4 l8 [0,6] [15,16,18,22,26,31,34] [15,22,26,31] [(17005,[(1,4)]),(25018,[(0,4)])] [] [(44,[34]),(26,[22]),(17,[16])] [] [] [],A4 [] pZ sX [] [] [] [] [] [(0,[1000002])] [] [] [],A3 [] jT rl [] [2] [2] [] [],A3 [] j7 nK [] [2] [2] [] [],A0 n9 pq,A0 kR rk,A3 [] fA ie [] [7,11] [7,11] [] [8006,8012,8007,8013],A0 lN nI,(jl,xk,kP),A4 [] n0 pn [] [2,3] [2,3] [(1014,[(8,3)]),(5024,[(0,3)])] [1005] [] [1] [] [],A4 [] lP nL [] [2,5] [2] [] [1005] [] [1] [] [],A3 [0,1,2,3,4,6,7,8,9,10,12,13,11,5,14] lS nO [] [4] [4] [] [],A1 [0,1,2,3,4,5,6,8,9,7,10] fK iW ,A1 [0,1,2,3,4,6,7,8,5,9] iE kr ,A0 j6 nF,A0 kQ mE,A3 [] e7 ir [] [10] [10] [] [],A0 dO iB,A2 [] dL ig [] [4],A3 [] eh iT [] [4] [4] [] [],A0 eu lY,A0 cG gU,A0 hH lX,A0 mQ oA,A0 bN nR,A4 [0,3,2,5,6,4,1,7] gk lK [] [0,3] [3] [] [] [] [] [] [(2,some 1)],A4 [] mo nY [] [10] [10] [] [] [] [] [] [(1,some 3)],A0 dh lh,A2 [] lO nJ [] [3],A0 lR nN,A3 [0,1,2,4,5,6,7,8,3,9] lQ nM [] [4] [4] [] [],A0 cz ri,A0 gg ow,A1 [0,1,2,3,4,6,7,8,9,10,12,13,11,5,14] fJ iV ,A1 [0,1,2,3,4,6,7,5,8] mP oz ,A1 [0,1,2,3,4,6,7,5,8] gB jF ,A0 eg iS,A0 cC mD,A0 cY ia,A0 cJ iU,A0 jk la,A0 dM iq,(ec,q7,gb),A2 [] bM fU [] [1],A0 bP jj,A2 [] jq ll [] [3],A0 ef iP,A0 dY mH,A0 jt mJ,A2 [] gC jL [0] [4]]
theorem kF0:(tF0.map fun p=>XF p)=tF0.map fun p=>some p.2.2:=by kernel_rfl
end Go.Proofs.YtcgippbplkagkaaGreat
