import Derived.Test.YtklfdfnoebnciaaGreatDoorIds
set_option linter.all false
set_option maxRecDepth 100000
namespace Go.Proofs.YtklfdfnoebnciaaGreatDoor
open Go Go.Abs
def ags :=[qx 3 0,qx 5 2]
def agt :=[ql 11 1 3,qc 12 fB [11],qm 6 12]
def agu :=[qm 13 6,qe 14 13,qn 15 .gtr 14 0]
def agv:List Abs.Op:=[]
def agw :=[ql 17 1 5,qo 18 (.eI 1 (.t 17) (.c zI)),ql 19 1 18,qo 20 (.call false (.c (.fn cI [] [])) [(.t 19),(.c zI),(.c (.int .i64 255))])]
def agx:List Abs.Op:=[]
def agy :=[qL 22 1 3,qO 23 (.ng (.t 22)),qF 24 0 23,qF 25 10 24,qL 26 1 25,qE 27 26,qL 28 1 5,qO 29 (.eI 1 (.t 28) (.c zI)),qL 30 1 29,qO 31 (.Q5 .u8 (.t 30)),qL 32 1 5,qO 33 (.eI 1 (.t 32) (.c (.int .i64 1))),qL 34 1 33,qL 35 1 5,qO 36 (.eI 1 (.t 35) (.c (.int .i64 2))),qL 37 1 36,qL 38 1 5,qO 39 (.eI 1 (.t 38) (.c (.int .i64 3))),qL 40 1 39,qO 41 (.lf [zI,zI] [(0,1,(.t 37)),(1,1,(.t 40))]),qO 42 (.lf [zI,(.int .u8 0),zI,zI,zI] [(0,1,(.t 27)),(1,1,(.t 31)),(2,1,(.t 34)),(3,2,(.t 41))]),qO 7 (.G8 [] [zI,(.int .u8 0),zI,zI,zI]),qt 5 7 42]
def agz :=[qL 44 1 3,qO 45 (.ng (.t 44)),qF 46 0 45,qF 47 0 46,qA 48 9 47,qM 49 6,qO 50 (.eI 4 (.t 49) (.c zI)),qF 51 0 50,qA 52 2 51,qO 53 (.uH 1 2 [(.str []),.aI] [(0,2,(.t 52))]),qL 54 1 3,qO 55 (.ng (.t 54)),qF 56 0 55,qF 57 10 56,qL 58 1 57,qA 59 5 7,qO 60 (.uH 1 5 [zI,(.int .u8 0),zI,zI,zI] [(0,5,(.t 59))]),qC 61 lE [48,53,58,60],qM 43 61,qZ 62 43 0,qZ 63 43 1,qZ 64 43 2,qM 8 62,qM 9 63,qm 10 64]
def agA :=[qm 65 10]
def agB:List Abs.Op:=[]
def YU :=[qL 67 1 3,qL 68 1 5,qO 69 (.eI 1 (.t 68) (.c (.int .i64 2))),qL 70 1 69,qL 71 1 5,qO 72 (.eI 1 (.t 71) (.c (.int .i64 3))),qL 73 1 72,qO 74 (.lf [zI,zI] [(0,1,(.t 70)),(1,1,(.t 73))]),qO 75 (.xf eo [] [(.t 3),(.t 7),(.t 5)]),qc 76 fP [67,74,75]]
def j8:Abs.Fn:=⟨3,[],sR [3,5] ags (sR [3,5,6] agt (.seq (.gZ [3,5,6] agu ⟨some 16,none,false,.call false (.c (.fn aX [] [])) [(.t 15),(.c (.int .i64 8))]⟩ agv) (.seq (.gZ [3,5,6] agw ⟨some 21,none,false,.call false (.c (.fn aX [] [])) [(.t 20),(.c (.int .i64 1))]⟩ agx) (sR [3,5,6,7] agy (sR [3,5,7,10] agz (.seq (.gZ [3,5,7] agA ⟨some 66,none,false,.call false (.c (.fn bO [] [])) [(.t 65)]⟩ agB) (.cm [] YU)))))))⟩
attribute [simp] ags agt agu agv agw agx agy agz agA agB YU
def agC :=[qm 7 0,qo 8 (.ng (.t 7)),qf 9 0 8,qf 10 16 9,ql 11 1 10,qe 12 11,qn 13 .lss 12 10]
def agD:List Abs.Op:=[]
def agE :=[qm 15 2,qo 16 (.eI 1 (.t 15) (.c zI)),ql 17 1 16,qo 18 (.lf [zI,.aI] [(0,1,(.t 17))]),qo 6 (.dT [] [zI,.aI]),⟨none,none,false,.Er 6 [(1,2)] 2 6 (.t 18)⟩]
def agF :=[qm 19 2,qo 20 (.K8 1 (.t 19) (some (.c (.int .i64 1))) none none),qm 2 20]
def agG :=[qm 21 2,qe 22 21,qn 23 .gtr 22 0]
def agH :=[qF 26 1 6,qV 27 6 1 26,qM 28 2,qO 29 (.eI 1 (.t 28) (.c zI)),qL 30 1 29,qM 31 2,qO 32 (.eI 1 (.t 31) (.c (.int .i64 1))),qL 33 1 32,qO 34 (.lf [zI,zI] [(0,1,(.t 30)),(1,1,(.t 33))]),qO 35 (.uH 1 2 [zI,zI] [(0,2,(.t 34))]),qy 36 2 16 27 35,qf 37 1 6,⟨none,none,false,.Er 6 [(0,2)] 1 37 (.t 36)⟩]
def agI :=[qm 24 2,qo 25 (.K8 1 (.t 24) (some (.c (.int .i64 2))) none none),qm 2 25]
def kE:Abs.cA:=sI [0,2,6,23] agG 23 .ep (.exit 0) (.seq (.bL 1 (.cm [0,2,6] agH)) (.cm [0,2,6] agI))
def agJ :=[qw 38 6 2 6,qc 39 mK [38]]
def agK:List Abs.Op:=[]
def YV :=[qM 41 0,qM 42 0,qO 43 (.ng (.t 42)),qF 44 0 43,qF 45 16 44,qL 46 1 45,qW 47 6 2 6,qO 48 (.uH 1 2 [zI,.aI] [(0,2,(.t 47))]),qO 49 (.app 2 32 (.t 46) (.t 48)),qo 50 (.ng (.t 41)),qf 51 0 50,qf 52 16 51,⟨none,none,false,.st [(0,2)] 1 (.t 52) (.t 49)⟩]
def kc:Abs.Fn:=⟨3,[],.seq (.gZ [0,2] agC ⟨some 14,none,false,.call false (.c (.fn aX [] [])) [(.t 13),(.c (.int .i64 3))]⟩ agD) (sR [0,2,6] agE (sL [0,2,6] agF 0 [0,2,6] false kE (.seq (.seq (.ck [6,1000006]) (.gZ [0,6] agJ ⟨some 40,none,false,.call false (.c (.fn bO [] [])) [(.t 39)]⟩ agK)) (.cm [] YV))))⟩
attribute [simp] agC agD agE agF agG agH agI agJ agK YV
def agL :=[qm 21 0,qc 22 fB [21],qm 6 22]
def agM :=[qm 23 6,qe 24 23,qn 25 .gtr 24 0,qm 26 25,qg 26 true (qm 27 0),qg 26 true (qo 28 (.ng (.t 27))),qg 26 true (qf 29 0 28),qg 26 true (qf 30 10 29),qg 26 true (ql 31 1 30),qg 26 true (qe 32 31),qg 26 true (qn 33 .gtr 32 0),qp 34 26 33]
def agN:List Abs.Op:=[]
def agO :=[qM 36 2,qO 37 (.eI 1 (.t 36) (.c zI)),qL 38 1 37,qM 39 2,qO 40 (.eI 1 (.t 39) (.c (.int .i64 1))),qL 41 1 40,qM 42 2,qO 43 (.eI 1 (.t 42) (.c (.int .i64 2))),qL 44 1 43,qM 45 2,qO 46 (.eI 1 (.t 45) (.c (.int .i64 3))),qL 47 1 46,qM 7 38,qM 8 41,qM 9 44,qm 10 47]
def agP :=[qm 48 7,qm 49 0,qo 50 (.ng (.t 49)),qf 51 0 50,qf 52 0 51,qf 53 8 52,ql 54 1 53,qe 55 54,qn 56 .sub 55 1,qo 57 (.call false (.c (.fn cI [] [])) [(.t 48),(.c zI),(.t 56)]),qm 58 57,qg 58 true (qm 59 8),qg 58 true (qm 60 0),qg 58 true (qo 61 (.ng (.t 60))),qg 58 true (qf 62 0 61),qg 58 true (qf 63 0 62),qg 58 true (qf 64 4 63),qg 58 true (ql 65 1 64),qg 58 true (qe 66 65),qg 58 true (qn 67 .sub 66 1),qg 58 true (qo 68 (.call false (.c (.fn cI [] [])) [(.t 59),(.c zI),(.t 67)])),qp 69 58 68,qm 70 69,qg 70 true (qm 71 9),qg 70 true (qm 72 0),qg 70 true (qo 73 (.ng (.t 72))),qg 70 true (qf 74 0 73),qg 70 true (qf 75 16 74),qg 70 true (ql 76 1 75),qg 70 true (qe 77 76),qg 70 true (qn 78 .sub 77 1),qg 70 true (qo 79 (.call false (.c (.fn cI [] [])) [(.t 71),(.c zI),(.t 78)])),qp 80 70 79,qm 81 80,qg 81 true (qm 82 10),qg 81 true (qo 83 (.call false (.c (.fn cI [] [])) [(.t 82),(.c zI),(.c (.int .i64 1000))])),qp 84 81 83]
def agQ:List Abs.Op:=[]
def agR :=[qo 11 (.rq 1)]
def agS :=[qm 86 6,qe 87 86,qi 88 0]
def agT :=[qk 89 .lss 88 87]
def agU :=[qj 90 4 86 88,qa 91 4 90,qo 13 (.dT [] [(.str []),.aI,(.bool false),zI]),qs 13 4 13 91]
def YW :=[qM 93 0,qO 94 (.ng (.t 93)),qF 95 0 94,qF 96 0 95,qA 97 9 96,qF 98 0 13,qW 99 13 2 98,qM 100 0,qO 101 (.ng (.t 100)),qF 102 0 101,qF 103 10 102,qL 104 1 103,qC 105 sT [97,99,104],qM 92 105,qZ 106 92 0,qZ 107 92 1,qO 14 (.dT [] [.aI,.aI]),qS 14 2 14 106,qm 15 107]
def YX :=[qm 108 15]
def YY:List Abs.Op:=[]
def YZ :=[qF 110 1 14,qV 111 14 1 110,qM 112 0,qO 113 (.ng (.t 112)),qF 114 0 113,qF 115 10 114,qL 116 1 115,qE 117 116,qN 118 .sub 117 1,qJ 119 1 111 118,qL 120 1 119,qM 121 7,qJ 122 3 120 121,qA 123 3 122,qO 16 (.dT [] [zI,zI,zI]),qs 16 3 16 123]
def Y0 :=[qM 125 0,qO 126 (.ng (.t 125)),qF 127 0 126,qF 128 0 127,qF 129 4 128,qL 130 1 129,qM 131 8,qF 132 0 16,qV 133 16 1 132,qF 134 1 16,qV 135 16 1 134,qO 136 (.lf [zI,zI,zI,zI] [(0,1,(.t 133)),(1,1,(.t 135))]),qC 137 pj [130,131,136],qM 124 137,qZ 138 124 0,qZ 139 124 1,qO 17 (.dT [] [zI,zI,zI,zI,zI,zI,zI,zI,zI,zI]),qS 17 10 17 138,qm 15 139]
def Y2 :=[qm 140 15]
def Y3:List Abs.Op:=[]
def Y4 :=[qM 143 0,qO 144 (.ng (.t 143)),qF 145 0 144,qF 146 16 145,qL 147 1 146,qM 148 9,qJ 149 2 147 148,qA 150 2 149,qF 151 0 17,qW 152 17 4 151,qC 153 qq [150,152],qM 142 153,qZ 154 142 0,qZ 155 142 1,qZ 156 142 2,qO 18 (.dT [] [zI,zI,zI,zI]),qS 18 4 18 154,qM 19 155,qm 15 156]
def Y5 :=[qm 157 15]
def Y6:List Abs.Op:=[]
def Y7 :=[qm 159 11,qm 160 19,qo 161 (.uH 1 1 [zI] [(0,1,(.t 160))]),qy 162 1 8 159 161,qm 11 162]
def Y8 :=[qn 163 .add 88 1,qm 88 163]
def jM:Abs.cA:=sR [0,7,8,9,10,11,86,87,88,89] agT (.seq (.ite (.t 89) .ep (.exit 0)) (.seq (.bL 1 (sR [0,7,8,9,10,11,13,86,87,88] agU (sR [0,7,8,9,10,11,14,15,86,87,88] YW (.seq (.gZ [0,7,8,9,10,11,14,86,87,88] YX ⟨some 109,none,false,.call false (.c (.fn bO [] [])) [(.t 108)]⟩ YY) (sR [0,7,8,9,10,11,16,86,87,88] YZ (sR [0,7,8,9,10,11,15,17,86,87,88] Y0 (.seq (.gZ [0,7,8,9,10,11,17,86,87,88] Y2 ⟨some 141,none,false,.call false (.c (.fn bO [] [])) [(.t 140)]⟩ Y3) (sR [0,7,8,9,10,11,15,19,86,87,88] Y4 (.seq (.gZ [0,7,8,9,10,11,19,86,87,88] Y5 ⟨some 158,none,false,.call false (.c (.fn bO [] [])) [(.t 157)]⟩ Y6) (.cm [0,7,8,9,10,11,86,87,88] Y7)))))))))) (.cm [0,7,8,9,10,11,86,87,88] Y8)))
def Y9 :=[qm 164 11,qc 165 qh [164],qo 20 (.dT [] [zI,zI]),qs 20 2 20 165]
def Za :=[qM 166 0,qM 167 0,qO 168 (.ng (.t 167)),qF 169 0 168,qF 170 17 169,qL 171 1 170,qM 172 0,qO 173 (.ng (.t 172)),qF 174 0 173,qF 175 10 174,qL 176 1 175,qE 177 176,qM 178 7,qW 179 20 2 20,qF 180 0 20,qV 181 20 1 180,qM 182 10,qK 183 .mul 181 182,qF 184 1 20,qV 185 20 1 184,qM 186 10,qK 187 .mul 185 186,qO 188 (.lf [zI,zI] [(0,1,(.t 183)),(1,1,(.t 187))]),qO 189 (.lf [zI,zI,zI,zI,zI,zI] [(0,1,(.t 177)),(1,1,(.t 178)),(2,2,(.t 179)),(4,2,(.t 188))]),qO 190 (.uH 1 6 [zI,zI,zI,zI,zI,zI] [(0,6,(.t 189))]),qO 191 (.app 6 48 (.t 171) (.t 190)),qo 192 (.ng (.t 166)),qf 193 0 192,qf 194 17 193,⟨none,none,false,.st [(0,6)] 1 (.t 194) (.t 191)⟩]
def ka:Abs.Fn:=⟨3,[],sR [0,2,6] agL (.seq (.gZ [0,2,6] agM ⟨some 35,none,false,.call false (.c (.fn aX [] [])) [(.t 34),(.c (.int .i64 8))]⟩ agN) (sR [0,6,7,8,9,10] agO (.seq (.gZ [0,6,7,8,9,10] agP ⟨some 85,none,false,.call false (.c (.fn aX [] [])) [(.t 84),(.c (.int .i64 2))]⟩ agQ) (sR [0,6,7,8,9,10,11] agR (sL [0,7,8,9,10,11,86,87,88] agS 0 [0,7,8,9,10,11,86,87,88] false jM (.seq (.seq (.ck [11]) (.cm [0,7,10,20] Y9)) (.cm [] Za)))))))⟩
attribute [simp] agL agM agN agO agP agQ agR agS agT agU YW YX YY YZ Y0 Y2 Y3 Y4 Y5 Y6 Y7 Y8 Y9 Za
def agV :=[qb 6 false]
def agW :=[qm 7 1,qm 8 0,qk 9 .leq 7 8,qm 10 9,qg 10 true (qm 11 0),qg 10 true (qm 12 2),qg 10 true (qk 13 .leq 11 12),qp 14 10 13,qm 6 14]
def qX:Abs.Fn:=⟨3,[.t 6],sR [0,1,2] agV (sR [6] agW .ret)⟩
attribute [simp] agV agW
def agX :=[qx 1 0,qi 2 0]
def agY :=[qa 3 4 1,qc 4 cr [3],qm 2 4]
def oi:Abs.Fn:=⟨1,[.t 2],sR [1] agX (sR [2] agY .ret)⟩
attribute [simp] agX agY
def agZ :=[qm 2 0,qn 3 .eql 2 0,qm 4 0]
def ag0:List Abs.Op:=[]
def pY:Abs.Fn:=⟨1,[],.gZ [] agZ ⟨some 5,none,false,.call false (.c (.fn aX [] [])) [(.t 3),(.t 4)]⟩ ag0⟩
attribute [simp] agZ ag0
def ag1 :=[qi 2 0]
def ag2 :=[qm 3 0,qc 4 iq [3],qu 5 4]
def ag3 :=[qi 2 1]
def ag4 :=[qi 2 0]
def oN:Abs.Fn:=⟨1,[.t 2],sR [0] ag1 (sE [5] ag2 5 [2] ag3 (sR [2] ag4 .ret))⟩
attribute [simp] ag1 ag2 ag3 ag4
def ag5 :=[qx 1 0,qi 2 0]
def ag6 :=[qa 3 9 1,qc 4 iY [3],qu 5 4]
def ag7 :=[qi 2 1]
def ag8 :=[qi 2 0]
def sj:Abs.Fn:=⟨1,[.t 2],.seq (.seq (.ck [0]) (.cm [1] ag5)) (sE [5] ag6 5 [2] ag7 (sR [2] ag8 .ret))⟩
attribute [simp] ag5 ag6 ag7 ag8
def ag9 :=[qo 2 (.rq 3)]
def aha :=[qm 3 0,qo 4 (.isn false false (.t 3))]
def ahb :=[qo 2 (.rq 3)]
def ahc :=[qo 5 (.K4 0 3 [] []),qm 6 0,qy 7 3 24 5 6,qm 2 7]
def fR:Abs.Fn:=⟨1,[.t 2],sR [0] ag9 (sE [0,4] aha 4 [2] ahb (sR [2] ahc .ret))⟩
attribute [simp] ag9 aha ahb ahc
def ar0 :=[qb 4 false]
def ar1 :=[qm 5 0,qm 6 1,qc 7 eE [5,6],qn 8 .geq 7 0,qm 4 8]
def kR:Abs.Fn:=⟨2,[.t 4],sR [0,1] ar0 (sR [4] ar1 .ret)⟩
def ahd :=[qx 2 0,qb 3 false]
def ahe :=[qf 4 0 2,qf 5 0 4,ql 6 1 5,ql 7 1 1,qo 8 (.BR (.seq false) [(.t 6),(.t 7)]),qm 3 8]
def kD:Abs.Fn:=⟨2,[.t 3],sR [1,2] ahd (sR [3] ahe .ret)⟩
attribute [simp] ahd ahe
def ahf :=[qx 2 0,qx 3 1,qo 4 (.mv (.c .aI)),qi 5 0]
def ahg :=[qa 9 9 2,qa 10 2 3,qc 11 sF [9,10],qm 8 11,qz 12 8 0,qz 13 8 1,qo 6 (.dT [] [zI,zI,zI,zI,.aI,zI,zI,zI,.aI,(.str []),.aI]),qs 6 11 6 12,qm 7 13]
def ahh :=[qm 14 7,qn 15 .neq 14 0]
def ahi :=[qm 16 7,qo 4 (.mv (.c .aI)),qm 5 16]
def ahj :=[qw 17 6 11 6,qc 18 ij [17],qm 4 18,qi 5 0]
def tC:Abs.Fn:=⟨2,[.t 4,.t 5],.seq (.seq (.ck [0]) (.cm [2,3] ahf)) (sR [6,7] ahg (sE [6,7,15] ahh 15 [4,5] ahi (sR [4,5] ahj .ret)))⟩
attribute [simp] ahf ahg ahh ahi ahj
def ahk :=[qx 2 0,qx 3 1,qi 4 0]
def ahl :=[qa 5 4 2,qo 6 (.xf cr [(.t 5)] []),qo 7 (.xf dt [] [(.t 2),(.t 3)]),qo 8 (.uH 2 1 [.ir,.ir] [(0,1,(.t 6)),(1,1,(.t 7))]),qc 9 mV [8],qm 4 9]
def lH:Abs.Fn:=⟨2,[.t 4],sR [2,3] ahk (sR [4] ahl .ret)⟩
attribute [simp] ahk ahl
def ahm :=[qx 4 1]
def ahn :=[qm 9 0,qo 10 (.ng (.t 9)),qf 11 0 10,qf 12 9 11,ql 13 1 12,qe 14 13,qi 15 0]
def aho :=[qk 16 .lss 15 14]
def ahp :=[qm 17 15,qj 18 4 13 15,qa 19 4 18,qo 7 (.dT [] [(.str []),.aI,(.bool false),zI]),qm 6 17,qs 7 4 7 19]
def ahq :=[qf 20 2 7,qv 21 7 1 20,qu 22 21]
def ahr :=[qm 23 2,qf 24 0 7,qw 25 7 2 24,qo 26 (.call false (.t 23) [(.t 25)]),qm 8 26]
def ahs :=[qm 27 8,qf 28 0 4,ql 29 1 28,qf 30 1 4,ql 31 1 30,qc 32 cI [27,29,31],qu 33 32]
def aht :=[qM 34 0,qO 35 (.ng (.t 34)),qF 36 0 35,qF 37 9 36,qL 38 1 37,qM 39 6,qM 40 0,qO 41 (.ng (.t 40)),qF 42 0 41,qF 43 9 42,qL 44 1 43,qM 45 6,qM 46 0,qO 47 (.ng (.t 46)),qF 48 20 47,qL 49 1 48,qJ 50 4 38 39,qF 51 2 50,⟨none,none,true,.st [] 1 (.t 51) (.c (.bool false))⟩,qj 52 4 44 45,qf 53 3 52,qt 1 53 49]
def ahu :=[qM 54 0,qO 55 (.ng (.t 54)),qF 56 19 55,qL 57 1 56,qM 58 6,qM 59 0,qO 60 (.ng (.t 59)),qF 61 20 60,qL 62 1 61,qM 63 8,qF 64 0 4,qL 65 1 64,qF 66 1 4,qL 67 1 66,qO 68 (.lf [zI,zI,zI,zI] [(0,1,(.t 62)),(1,1,(.t 63)),(2,1,(.t 65)),(3,1,(.t 67))]),qj 69 4 57 58,qt 4 69 68]
def ahv :=[qn 70 .add 15 1,qm 15 70]
def iF:Abs.cA:=sR [0,2,4,13,14,15,16] aho (.seq (.ite (.t 16) .ep (.exit 0)) (.seq (.bL 1 (sR [0,2,4,6,7,13,14,15] ahp (sI [0,2,4,6,7,13,14,15,22] ahq 22 (.exit 1) .ep (sR [0,2,4,6,8,13,14,15] ahr (sR [0,2,4,6,8,13,14,15,33] ahs (.ite (.t 33) (sR [0,2,4,6,8,13,14,15] aht (.cm [0,2,4,13,14,15] ahu)) .ep)))))) (.cm [0,2,4,13,14,15] ahv)))
def lP:Abs.Fn:=⟨3,[],sR [0,2,4] ahm (sR [0,2,4,13,14,15] ahn (.bL 0 (.loop [0,2,4,13,14,15] false iF)))⟩
attribute [simp] ahm ahn aho ahp ahq ahr ahs aht ahu ahv
def ahw :=[qx 3 0,qi 4 0]
def ahx :=[qL 8 1 1,qO 9 (.ng (.t 8)),qF 10 0 9,qF 11 0 10,qF 12 0 11,qA 13 4 12,qA 14 2 3,qA 15 6 2,qC 16 ve [13,14,15],qM 7 16,qZ 17 7 0,qZ 18 7 1,qM 5 17,qm 6 18]
def ahy :=[qm 19 5,qm 4 19]
def mu:Abs.Fn:=⟨3,[.t 4],sR [1,2,3] ahw (sR [5] ahx (sR [4] ahy .ret))⟩
attribute [simp] ahw ahx ahy
def ahz :=[qx 3 0,qx 4 1,qx 5 2,qi 6 0,qi 7 0]
def ahA :=[qa 9 4 3,qo 10 (.xf cr [(.t 9)] []),qo 11 (.xf pf [] [(.t 3),(.t 4)]),qo 12 (.xf mU [] [(.t 3),(.t 5)]),qo 13 (.uH 3 1 [.ir,.ir,.ir] [(0,1,(.t 10)),(1,1,(.t 11)),(2,1,(.t 12))]),qc 14 mV [13],qm 8 14]
def ahB :=[qm 15 8,qn 16 .neq 15 0]
def ahC :=[qm 17 8,qi 6 0,qm 7 17]
def ahD :=[qA 18 4 3,qA 19 6 5,qC 20 jC [18,19],qA 21 2 4,qo 22 (.call false (.t 20) [(.t 21)]),qm 6 22,qi 7 0]
def xo:Abs.Fn:=⟨3,[.t 6,.t 7],sR [3,4,5] ahz (.seq (sR [3,4,5,8] ahA (sR [3,4,5,8,16] ahB (.ite (.t 16) (sR [6,7] ahC .ret) .ep))) (sR [6,7] ahD .ret))⟩
attribute [simp] ahz ahA ahB ahC ahD
def ahE :=[qo 6 (.mv (.c (.int .u8 0))),qo 7 (.mv (.c (.int .u8 0))),qi 8 0]
def ahF :=[qm 17 0,qe 18 17,qn 19 .gtr 18 20,qm 16 19]
def ahG :=[qo 6 (.mv (.c (.int .u8 0))),qo 7 (.mv (.c (.int .u8 0))),qi 8 3]
def ahH :=[qm 21 0,qo 22 (.call false (.c (.fn de [] [])) [(.t 21),(.c (.fn ei [] []))]),qu 23 22,qm 20 23]
def ahI :=[qo 6 (.mv (.c (.int .u8 0))),qo 7 (.mv (.c (.int .u8 0))),qi 8 1]
def ahJ :=[qm 25 1,qe 26 25,qn 27 .gtr 26 200,qm 24 27]
def ahK :=[qo 6 (.mv (.c (.int .u8 0))),qo 7 (.mv (.c (.int .u8 0))),qi 8 3]
def ahL :=[qm 29 1,qo 30 (.call false (.c (.fn cQ [] [])) [(.t 29),(.c (.fn dG [] []))]),qu 31 30,qm 28 31]
def ahM :=[qo 6 (.mv (.c (.int .u8 0))),qo 7 (.mv (.c (.int .u8 0))),qi 8 1]
def ahN :=[qm 33 2,qo 34 (.call false (.c (.fn bX [] [])) [(.t 33),(.c zI),(.c (.int .i64 1000000))]),qu 35 34,qm 32 35]
def Zb :=[qo 6 (.mv (.c (.int .u8 0))),qo 7 (.mv (.c (.int .u8 0))),qi 8 2]
def Zc :=[qm 36 0,qe 37 36,qi 38 0]
def Zd :=[qk 39 .lss 38 37]
def Ze :=[qj 40 10 36 38,qa 41 10 40,qo 10 (.dT [] [zI,zI,zI,zI,zI,zI,zI,zI,zI,(.int .u8 0)]),qs 10 10 10 41]
def Zf :=[qi 11 0,qi 12 0]
def Zg :=[qw 42 10 10 10,qo 43 (.xf dH [(.t 42)] []),qm 13 43]
def Zh :=[qm 44 1,qe 45 44,qi 46 0]
def Zi :=[qk 47 .lss 46 45]
def Zj :=[qj 48 2 44 46,qa 49 2 48,qo 15 (.dT [] [zI,.aI]),qs 15 2 15 49]
def Zk :=[qf 50 0 15,qv 51 15 1 50,qm 52 2,qk 53 .gtr 51 52,qm 54 53,qg 54 false (qf 55 0 15),qg 54 false (qv 56 15 1 55),qg 54 false (qm 57 2),qg 54 false (qf 58 7 10),qg 54 false (qv 59 10 1 58),qg 54 false (qk 60 .sub 57 59),qg 54 false (qk 61 .leq 56 60),qP 62 54 61]
def Zl :=[qf 63 1 15,qv 64 15 1 63,qm 65 13,qc 66 b8 [64,65]]
def Zm :=[qm 67 11,qn 68 .add 67 1,qm 11 68]
def Zn :=[qf 69 1 15,qv 70 15 1 69,qm 71 13,qc 72 ef [70,71]]
def Zo :=[qm 73 12,qn 74 .add 73 1,qm 12 74]
def Zp :=[qn 75 .add 46 1,qm 46 75]
def lk:Abs.cA:=sR [1,2,6,7,10,11,12,13,36,37,38,44,45,46,47] Zi (.seq (.ite (.t 47) .ep (.exit 3)) (.seq (.bL 4 (sR [1,2,6,7,10,11,12,13,15,36,37,38,44,45,46] Zj (sI [1,2,6,7,10,11,12,13,15,36,37,38,44,45,46,62] Zk 62 (.exit 4) .ep (sI [1,2,6,7,10,11,12,13,15,36,37,38,44,45,46,66] Zl 66 (.cm [1,2,6,7,10,11,12,13,15,36,37,38,44,45,46] Zm) .ep (sR [1,2,6,7,10,11,12,13,36,37,38,44,45,46,72] Zn (.ite (.t 72) (.cm [1,2,6,7,10,11,12,13,36,37,38,44,45,46] Zo) .ep)))))) (.cm [1,2,6,7,10,11,12,13,36,37,38,44,45,46] Zp)))
def Zq :=[qm 76 11,qf 77 8 10,qv 78 10 1 77,qk 79 .geq 76 78]
def Zr :=[qm 80 6,qf 81 9 10,qv 82 10 1 81,qo 83 (.mx (.t 80) (.t 82)),qm 6 83]
def Zs :=[qm 84 12,qf 85 8 10,qv 86 10 1 85,qk 87 .geq 84 86]
def Zt :=[qm 88 7,qf 89 9 10,qv 90 10 1 89,qo 91 (.mx (.t 88) (.t 90)),qm 7 91]
def Zu :=[qn 92 .add 38 1,qm 38 92]
def gg:Abs.cA:=sR [1,2,6,7,36,37,38,39] Zd (.seq (.ite (.t 39) .ep (.exit 1)) (.seq (.bL 2 (sR [1,2,6,7,10,36,37,38] Ze (sR [1,2,6,7,10,11,12,36,37,38] Zf (sR [1,2,6,7,10,11,12,13,36,37,38] Zg (sL [1,2,6,7,10,11,12,13,36,37,38,44,45,46] Zh 3 [1,2,6,7,10,11,12,13,36,37,38,44,45,46] false lk (sI [1,2,6,7,10,12,36,37,38,79] Zq 79 (.cm [1,2,6,7,10,12,36,37,38] Zr) .ep (sR [1,2,6,7,10,36,37,38,87] Zs (.ite (.t 87) (.cm [1,2,6,7,36,37,38] Zt) .ep)))))))) (.cm [1,2,6,7,36,37,38] Zu)))
def Zv :=[qm 93 6,qm 94 7,qm 6 93,qm 7 94,qi 8 0]
def nR:Abs.Fn:=⟨3,[.t 6,.t 7,.t 8],sR [0,1,2,6,7] ahE (.seq (.bL 0 (sR [0,1,2,6,7,16] ahF (.ite (.t 16) (sR [6,7,8] ahG .ret) (sR [0,1,2,6,7,20] ahH (.ite (.t 20) (sR [6,7,8] ahI .ret) (sR [0,1,2,6,7,24] ahJ (.ite (.t 24) (sR [6,7,8] ahK .ret) (sR [0,1,2,6,7,28] ahL (.ite (.t 28) (sR [6,7,8] ahM .ret) (sR [0,1,2,6,7,32] ahN (.ite (.t 32) (sR [6,7,8] Zb .ret) .ep))))))))))) (sL [1,2,6,7,36,37,38] Zc 1 [1,2,6,7,36,37,38] false gg (sR [6,7,8] Zv .ret)))⟩
attribute [simp] ahE ahF ahG ahH ahI ahJ ahK ahL ahM ahN Zb Zc Zd Ze Zf Zg Zh Zi Zj Zk Zl Zm Zn Zo Zp Zq Zr Zs Zt Zu Zv
def ahO :=[qx 6 2,qo 8 (.mv (.c .aI)),qi 9 0]
def ahP :=[qo 10 (.mv (.c (.fn jX [] [])))]
def ahQ :=[qm 15 0,qe 16 15,qn 17 .gtr 16 500,qm 14 17]
def ahR :=[qo 8 (.mv (.c .aI)),qi 9 3]
def ahS :=[qm 19 0,qm 20 10,qc 21 gD [19,20],qu 22 21,qm 23 22,qg 23 false (qm 24 1),qg 23 false (qe 25 24),qg 23 false (qm 26 0),qg 23 false (qe 27 26),qg 23 false (qk 28 .neq 25 27),qP 29 23 28,qm 30 29,qg 30 false (qm 31 1),qg 30 false (qo 32 (.call false (.c (.fn oR [] [])) [(.t 31),(.c (.fn pR [] []))])),qg 30 false (qu 33 32),qP 34 30 33,qm 35 34,qg 35 false (qm 36 10),qg 35 false (qm 37 3),qg 35 false (qo 38 (.call false (.t 36) [(.t 37)])),qg 35 false (qu 39 38),qP 40 35 39,qm 18 40]
def ahT :=[qo 8 (.mv (.c .aI)),qi 9 1]
def ahU :=[qo 42 (.AI 3 1 (.t 6) (.c (.int .u8 0))),ql 43 1 42,qn 44 .gtr 43 1000,qm 45 44,qg 45 false (qo 46 (.AI 3 1 (.t 6) (.c (.int .u8 1)))),qg 45 false (ql 47 1 46),qg 45 false (qo 48 (.AI 3 1 (.t 6) (.c (.int .u8 0)))),qg 45 false (ql 49 1 48),qg 45 false (qk 50 .gtr 47 49),qP 51 45 50,qm 52 51,qg 52 false (qo 53 (.AI 3 1 (.t 6) (.c (.int .u8 2)))),qg 52 false (ql 54 1 53),qg 52 false (qo 55 (.AI 3 1 (.t 6) (.c (.int .u8 1)))),qg 52 false (ql 56 1 55),qg 52 false (qk 57 .gtr 54 56),qP 58 52 57,qm 59 58,qg 59 false (qo 60 (.AI 3 1 (.t 6) (.c (.int .u8 2)))),qg 59 false (ql 61 1 60),qg 59 false (qn 62 .lss 61 0),qP 63 59 62,qm 41 63]
def ahV :=[qo 8 (.mv (.c .aI)),qi 9 1]
def ahW :=[qm 64 0,qe 65 64,qo 66 (.mks 1 8 [zI] (.t 65) (.t 65)),qm 11 66]
def ahX :=[qm 67 0,qe 68 67,qi 69 0]
def Zw :=[qk 70 .lss 69 68]
def Zx :=[qm 71 69,qj 72 1 67 69,ql 73 1 72,qm 12 71,qm 13 73]
def Zy :=[qm 74 11,qm 75 12,qm 76 13,qm 77 1,qm 78 12,qj 79 1 77 78,ql 80 1 79,qo 81 (.AI 3 1 (.t 6) (.t 80)),ql 82 1 81,qk 83 .mul 76 82,qn 84 .quo 83 1000,qj 85 1 74 75,qt 1 85 84]
def Zz :=[qm 86 12,qn 87 .gtr 86 0]
def ZA :=[qM 88 11,qM 89 12,qM 90 11,qM 91 12,qJ 92 1 90 91,qL 93 1 92,qM 94 11,qM 95 12,qN 96 .sub 95 1,qJ 97 1 94 96,qL 98 1 97,qM 99 3,qK 100 .add 98 99,qO 101 (.mn (.t 93) (.t 100)),qj 102 1 88 89,qt 1 102 101]
def ZB :=[qn 103 .add 69 1,qm 69 103]
def vI:Abs.cA:=sR [1,3,6,11,67,68,69,70] Zw (.seq (.ite (.t 70) .ep (.exit 1)) (.seq (.bL 2 (sR [1,3,6,11,12,13,67,68,69] Zx (sR [1,3,6,11,12,67,68,69] Zy (sR [1,3,6,11,12,67,68,69,87] Zz (.ite (.t 87) (.cm [1,3,6,11,67,68,69] ZA) .ep))))) (.cm [1,3,6,11,67,68,69] ZB)))
def ZC :=[qm 104 11,qm 8 104,qi 9 0]
def sk:Abs.Fn:=⟨4,[.t 8,.t 9],sR [0,1,3,6] ahO (sR [0,1,3,6,10] ahP (.seq (.bL 0 (sR [0,1,3,6,10,14] ahQ (.ite (.t 14) (sR [8,9] ahR .ret) (sR [0,1,3,6,18] ahS (.ite (.t 18) (sR [8,9] ahT .ret) (sR [0,1,3,6,41] ahU (.ite (.t 41) (sR [8,9] ahV .ret) .ep))))))) (sR [0,1,3,6,11] ahW (sL [1,3,6,11,67,68,69] ahX 1 [1,3,6,11,67,68,69] false vI (sR [8,9] ZC .ret)))))⟩
attribute [simp] ahO ahP ahQ ahR ahS ahT ahU ahV ahW ahX Zw Zx Zy Zz ZA ZB ZC
def ahY :=[qo 2 (.mv (.c .aI))]
def ahZ :=[qm 3 0,qo 4 (.ng (.t 3)),qf 5 0 4,qf 6 9 5,ql 7 1 6,qo 8 (.call false (.c (.fn dw [] [])) [(.t 7),(.c (.fn ek [] []))]),qm 2 8]
def nw:Abs.Fn:=⟨1,[.t 2],sR [0] ahY (sR [2] ahZ .ret)⟩
attribute [simp] ahY ahZ
def ah0 :=[qo 2 (.mv (.c (.int .u8 0)))]
def ah1 :=[qM 7 0,qO 8 (.ng (.t 7)),qF 9 0 8,qF 10 11 9,qL 11 1 10,qM 12 0,qO 13 (.ng (.t 12)),qF 14 0 13,qF 15 12 14,qL 16 1 15,qM 17 0,qO 18 (.ng (.t 17)),qF 19 0 18,qF 20 10 19,qL 21 1 20,qE 22 21,qC 23 gV [11,16,22],qM 6 23,qZ 24 6 0,qZ 25 6 1,qZ 26 6 2,qM 3 24,qM 4 25,qm 5 26]
def ah2 :=[qm 27 3,qm 2 27]
def lM:Abs.Fn:=⟨1,[.t 2],sR [0] ah0 (sR [3] ah1 (sR [2] ah2 .ret))⟩
attribute [simp] ah0 ah1 ah2
def ah3 :=[qo 2 (.rq 1)]
def ah4 :=[qm 3 0,qo 4 (.isn false false (.t 3))]
def ah5 :=[qo 2 (.rq 1)]
def ah6 :=[qo 5 (.K4 0 1 [] []),qm 6 0,qy 7 1 24 5 6,qm 2 7]
def jA:Abs.Fn:=⟨1,[.t 2],sR [0] ah3 (sE [0,4] ah4 4 [2] ah5 (sR [2] ah6 .ret))⟩
attribute [simp] ah3 ah4 ah5 ah6
def ah7 :=[qx 3 0,qx 4 1,qo 6 (.dT [] [.aI,.aI]),qo 7 (.G8 [] [zI])]
def ah8 :=[qa 10 9 3,qa 11 2 4,qc 12 sF [10,11],qm 9 12,qz 13 9 0,qz 14 9 1,qo 8 (.dT [] [zI,zI,zI,zI,.aI,zI,zI,zI,.aI,(.str []),.aI]),qs 8 11 8 13,qt 1 7 14]
def ah9 :=[ql 15 1 7,qn 16 .eql 15 0]
def aia :=[qa 17 9 3,qm 18 2,qc 19 mh [17,18],qt 1 7 19]
def aib :=[ql 20 1 7,qn 21 .neq 20 0]
def aic :=[qO 22 (.lf [.aI,.aI] []),qL 23 1 7,qS 6 2 6 22,qt 1 7 23]
def aid :=[qw 24 8 11 8,qm 25 2]
def aie :=[qs 6 2 6 26,⟨none,none,false,.st [] 1 (.t 7) (.c zI)⟩]
def wI:Abs.cA:=.seq (.gZ [6,7] aid ⟨some 26,none,false,.call false (.c (.fn gS [] [])) [(.t 24),(.t 25)]⟩ aie) .ret
def JR:uc:=⟨[(7,[6,7]),(6,[2,6,7,8]),(5,[6,7]),(4,[2,6,7,8,21]),(3,[2,6,7,8]),(2,[2,3,6,7,8,16]),(1,[2,3,6,7,8]),(0,[2,3,4,6,7])],[],[],[6,7,8],[6,8],[],[],[(0,[0])],[],[],[(7,some 2)]⟩
def sO:Abs.Fn:=⟨3,[.v 6 true 2,.c 7 false 1],.seq (.seq (.ck [0]) (.cm [2,3,4,6,7] ah7)) (sR [2,3,6,7,8] ah8 (sI [2,3,6,7,8,16] ah9 16 (.cm [2,6,7,8] aia) .ep (sE [2,6,7,8,21] aib 21 [6,7] aic (.OY (.c (.fn fg [] [])) [(.t 7)] wI))))⟩
attribute [simp] ah7 ah8 ah9 aia aib aic aid aie
def aif :=[qx 4 0,qo 8 (.rq 1),qo 9 (.rq 3),qo 10 (.G8 [] [zI])]
def aih :=[qa 22 9 4,qm 23 1,qm 24 2,qc 25 tN [22,23,24],qm 11 25]
def aii :=[qm 26 11,qn 27 .neq 26 0]
def aij :=[qm 28 11,qo 8 (.rq 1),qo 9 (.rq 3),qt 1 10 28]
def aik :=[qm 29 3,qe 30 29,qn 31 .gtr 30 40]
def ail :=[qo 8 (.rq 1),qo 9 (.rq 3),⟨none,none,false,.st [] 1 (.t 10) (.c (.int .i64 3))⟩]
def aim :=[qm 32 3,qe 33 32,qi 34 0]
def ain :=[qk 35 .lss 34 33]
def aio :=[qj 36 5 32 34,qa 37 5 36,qo 13 (.dT [] [zI,(.int .u8 0),zI,zI,zI]),qs 13 5 13 37]
def aip :=[qa 38 9 4,qw 39 13 5 13,qm 40 2,qe 41 40,qc 42 lD [38,39,41],qm 14 42]
def ZD :=[qm 43 14,qn 44 .neq 43 0]
def ZE :=[qm 45 14,qo 8 (.rq 1),qo 9 (.rq 3),qt 1 10 45]
def ZF :=[qn 46 .add 34 1,qm 34 46]
def oB:Abs.cA:=sR [1,2,3,4,8,9,10,32,33,34,35] ain (.seq (.ite (.t 35) .ep (.exit 0)) (.seq (.bL 1 (sR [1,2,3,4,8,9,10,13,32,33,34] aio (sR [1,2,3,4,8,9,10,14,32,33,34] aip (sR [1,2,3,4,8,9,10,14,32,33,34,44] ZD (.ite (.t 44) (sR [8,9,10] ZE .ret) .ep))))) (.cm [1,2,3,4,8,9,10,32,33,34] ZF)))
def ZG :=[qa 47 9 4,qm 48 1,qm 49 2]
def ZH :=[qm 15 50]
def ZI :=[qm 51 1,qe 52 51,qi 53 0]
def ZJ :=[qk 54 .lss 53 52]
def ZK :=[qm 55 53,qj 56 2 51 53,qa 57 2 56,qo 17 (.dT [] [(.str []),.aI]),qm 16 55,qs 17 2 17 57]
def ZL :=[qm 58 3,qe 59 58,qm 18 59]
def ZM :=[qm 60 3,qe 61 60,qi 62 0]
def ZN :=[qk 63 .lss 62 61]
def ZO :=[qm 64 62,qj 65 5 60 62,qa 66 5 65,qo 20 (.dT [] [zI,(.int .u8 0),zI,zI,zI]),qm 19 64,qs 20 5 20 66]
def ZP :=[qF 67 3 20,qW 68 20 2 67,qA 69 9 4,qW 70 17 2 17,qO 71 (.lf [zI,zI,zI,zI,.aI,zI,zI,zI,.aI,(.str []),.aI] [(0,9,(.t 69)),(9,2,(.t 70))]),qM 72 15,qM 73 16,qJ 74 2 72 73,qA 75 2 74,qW 76 20 5 20,qC 77 kl [71,75,76],qc 78 mO [68,77],qm 21 78]
def ZQ :=[qm 79 21,qn 80 .neq 79 0,qm 81 80,qg 81 true (qm 82 18),qg 81 true (qm 83 3),qg 81 true (qe 84 83),qg 81 true (qk 85 .eql 82 84),qp 86 81 85]
def ZR :=[qm 87 19,qm 18 87]
def ZS :=[qm 88 9,qm 89 16,qm 90 19,qm 91 21,qo 92 (.lf [zI,zI,zI] [(0,1,(.t 89)),(1,1,(.t 90)),(2,1,(.t 91))]),qo 93 (.uH 1 3 [zI,zI,zI] [(0,3,(.t 92))]),qy 94 3 24 88 93,qm 9 94]
def ZT :=[qn 95 .add 62 1,qm 62 95]
def oC:Abs.cA:=sR [3,4,8,9,10,15,16,17,18,51,52,53,60,61,62,63] ZN (.seq (.ite (.t 63) .ep (.exit 4)) (.seq (.bL 5 (sR [3,4,8,9,10,15,16,17,18,19,20,51,52,53,60,61,62] ZO (sR [3,4,8,9,10,15,16,17,18,19,21,51,52,53,60,61,62] ZP (sR [3,4,8,9,10,15,16,17,18,19,21,51,52,53,60,61,62,86] ZQ (.ite (.t 86) (sR [3,4,8,9,10,15,16,17,18,19,21,51,52,53,60,61,62] ZR (.cm [3,4,8,9,10,15,16,17,18,51,52,53,60,61,62] ZS)) .ep))))) (.cm [3,4,8,9,10,15,16,17,18,51,52,53,60,61,62] ZT)))
def ZU :=[qm 96 18,qm 97 3,qe 98 97,qk 99 .eql 96 98]
def ZV :=[qm 100 8,qm 101 16,qo 102 (.uH 1 1 [zI] [(0,1,(.t 101))]),qy 103 1 8 100 102,qm 8 103]
def ZW :=[qn 104 .add 53 1,qm 53 104]
def oD:Abs.cA:=sR [3,4,8,9,10,15,51,52,53,54] ZJ (.seq (.ite (.t 54) .ep (.exit 2)) (.seq (.bL 3 (sR [3,4,8,9,10,15,16,17,51,52,53] ZK (sR [3,4,8,9,10,15,16,17,18,51,52,53] ZL (sL [3,4,8,9,10,15,16,17,18,51,52,53,60,61,62] ZM 4 [3,4,8,9,10,15,16,17,18,51,52,53,60,61,62] false oC (sR [3,4,8,9,10,15,16,51,52,53,99] ZU (.ite (.t 99) (.cm [3,4,8,9,10,15,51,52,53] ZV) .ep)))))) (.cm [3,4,8,9,10,15,51,52,53] ZW)))
def ZX :=[qm 105 8,qm 106 9,qm 8 105,qm 9 106,⟨none,none,false,.st [] 1 (.t 10) (.c zI)⟩]
def sw:Abs.cA:=.seq (.gZ [1,3,4,8,9,10,15] ZG ⟨some 50,none,false,.call false (.c (.fn sU [] [])) [(.t 47),(.t 48),(.t 49)]⟩ ZH) (sL [3,4,8,9,10,15,51,52,53] ZI 2 [3,4,8,9,10,15,51,52,53] false oD (sR [8,9,10] ZX .ret))
def FX:uc:=⟨[(30,[8,9,10]),(29,[3,4,8,9,10,15,51,52,53]),(28,[3,4,8,9,10,15,51,52,53]),(27,[3,4,8,9,10,15,16,51,52,53,99]),(26,[3,4,8,9,10,15,16,17,18,51,52,53,60,61,62]),(25,[3,4,8,9,10,15,16,17,18,51,52,53,60,61,62]),(24,[3,4,8,9,10,15,16,17,18,19,21,51,52,53,60,61,62]),(23,[3,4,8,9,10,15,16,17,18,19,21,51,52,53,60,61,62,86]),(22,[3,4,8,9,10,15,16,17,18,19,21,51,52,53,60,61,62]),(21,[3,4,8,9,10,15,16,17,18,19,20,51,52,53,60,61,62]),(20,[3,4,8,9,10,15,16,17,18,51,52,53,60,61,62,63]),(19,[3,4,8,9,10,15,16,17,18,51,52,53,60,61,62]),(18,[3,4,8,9,10,15,16,17,18,51,52,53]),(17,[3,4,8,9,10,15,16,17,51,52,53]),(16,[3,4,8,9,10,15,51,52,53,54]),(15,[3,4,8,9,10,15,51,52,53]),(14,[1,3,4,8,9,10,15]),(13,[1,2,3,4,8,9,10]),(12,[1,2,3,4,8,9,10,32,33,34]),(11,[8,9,10]),(10,[1,2,3,4,8,9,10,14,32,33,34,44]),(9,[1,2,3,4,8,9,10,14,32,33,34]),(8,[1,2,3,4,8,9,10,13,32,33,34]),(7,[1,2,3,4,8,9,10,32,33,34,35]),(6,[1,2,3,4,8,9,10,32,33,34]),(5,[8,9,10]),(4,[1,2,3,4,8,9,10,31]),(3,[8,9,10]),(2,[1,2,3,4,8,9,10,11,27]),(1,[1,2,3,4,8,9,10,11]),(0,[1,2,3,4,8,9,10])],[(4,[3,4,8,9,10,15,16,17,18,51,52,53,60,61,62]),(2,[3,4,8,9,10,15,51,52,53]),(0,[1,2,3,4,8,9,10,32,33,34])],[0],[8,9,10,13,17,20],[13,17,20],[],[],[(0,[0,1000002])],[],[],[(14,some 3)]⟩
def nP:Abs.Fn:=⟨4,[.t 8,.t 9,.c 10 false 1],.seq (.seq (.ck [0,1000002]) (.cm [1,2,3,4,8,9,10] aif)) (.seq (sR [1,2,3,4,8,9,10,11] aih (sR [1,2,3,4,8,9,10,11,27] aii (.ite (.t 27) (sR [8,9,10] aij .ret) .ep))) (sE [1,2,3,4,8,9,10,31] aik 31 [8,9,10] ail (sL [1,2,3,4,8,9,10,32,33,34] aim 0 [1,2,3,4,8,9,10,32,33,34] true oB (.OY (.c (.fn fg [] [])) [(.t 10)] sw))))⟩
attribute [simp] aif aih aii aij aik ail aim ain aio aip ZD ZE ZF ZG ZH ZI ZJ ZK ZL ZM ZN ZO ZP ZQ ZR ZS ZT ZU ZV ZW ZX
def aiq :=[qx 4 0,qi 5 0]
def air :=[qL 10 1 1,qO 11 (.ng (.t 10)),qF 12 0 11,qF 13 0 12,qA 14 9 13,qA 15 2 4,qO 16 (.uH 1 2 [(.str []),.aI] [(0,2,(.t 15))]),qL 17 1 1,qO 18 (.ng (.t 17)),qF 19 0 18,qF 20 10 19,qL 21 1 20,qA 22 5 2,qO 23 (.uH 1 5 [zI,(.int .u8 0),zI,zI,zI] [(0,5,(.t 22))]),qC 24 lE [14,16,21,23],qM 9 24,qZ 25 9 0,qZ 26 9 1,qZ 27 9 2,qM 6 25,qM 7 26,qm 8 27]
def ais :=[qm 29 7,qe 30 29,qn 31 .eql 30 0,qm 28 31]
def ait :=[ql 32 1 3,qo 33 (.eI 1 (.t 32) (.c (.int .i64 2))),ql 34 1 33,qm 5 34]
def aiu :=[qm 36 7,qo 37 (.eI 3 (.t 36) (.c zI)),qf 38 2 37,ql 39 1 38,qn 40 .gtr 39 0,qm 35 40]
def aiv :=[qL 41 1 3,qO 42 (.eI 1 (.t 41) (.c (.int .i64 3))),qL 43 1 42,qM 44 7,qO 45 (.eI 3 (.t 44) (.c zI)),qF 46 2 45,qL 47 1 46,qk 48 .add 43 47,qm 5 48]
def aiw :=[qL 49 1 3,qO 50 (.eI 1 (.t 49) (.c (.int .i64 2))),qL 51 1 50,qM 52 7,qO 53 (.eI 3 (.t 52) (.c zI)),qF 54 2 53,qL 55 1 54,qk 56 .add 51 55,qm 5 56]
def lO:Abs.Fn:=⟨4,[.t 5],sR [1,2,3,4] aiq (sR [3,7] air (.seq (.bL 0 (sR [3,7,28] ais (.ite (.t 28) (sR [5] ait .ret) (sR [3,7,35] aiu (.ite (.t 35) (sR [5] aiv .ret) .ep))))) (sR [5] aiw .ret)))⟩
attribute [simp] aiq air ais ait aiu aiv aiw
def aix :=[qx 1 0,qi 2 0]
def aiy :=[qa 3 2 1,qc 4 iV [3],qu 5 4]
def aiz :=[qi 2 1]
def aiA :=[qi 2 0]
def pA:Abs.Fn:=⟨1,[.t 2],sR [1] aix (sE [5] aiy 5 [2] aiz (sR [2] aiA .ret))⟩
attribute [simp] aix aiy aiz aiA
def aiB :=[qx 5 2,qo 6 (.dT [] [zI,zI,zI,zI,zI,zI,zI,zI,zI,zI]),qi 7 0]
def aiC :=[qm 9 0,qc 10 iq [9],qu 11 10,qm 8 11]
def aiD :=[qo 12 (.lf [zI,zI,zI,zI,zI,zI,zI,zI,zI,zI] []),qs 6 10 6 12,qi 7 1]
def aiE :=[qm 14 0,qm 15 1,qc 16 mQ [14,15],qu 17 16,qm 13 17]
def aiF :=[qo 18 (.lf [zI,zI,zI,zI,zI,zI,zI,zI,zI,zI] []),qs 6 10 6 18,qi 7 2]
def aiG :=[qa 20 4 5,qc 21 gC [20],qu 22 21,qm 19 22]
def aiH :=[qo 23 (.lf [zI,zI,zI,zI,zI,zI,zI,zI,zI,zI] []),qs 6 10 6 23,qi 7 1]
def aiI :=[qM 24 0,qM 25 1,qC 26 nY [24,25],qA 27 4 5,qc 28 nZ [26,27],qs 6 10 6 28,qi 7 0]
def rT:Abs.Fn:=⟨3,[.v 6 true 10,.t 7],sR [0,1,5,6] aiB (.seq (.bL 0 (sR [0,1,5,6,8] aiC (.ite (.t 8) (sR [6,7] aiD .ret) (sR [0,1,5,6,13] aiE (.ite (.t 13) (sR [6,7] aiF .ret) (sR [0,1,5,6,19] aiG (.ite (.t 19) (sR [6,7] aiH .ret) .ep))))))) (sR [6,7] aiI .ret))⟩
attribute [simp] aiB aiC aiD aiE aiF aiG aiH aiI
def aiJ :=[qx 2 0,qo 3 (.D1 (.t 1)),qo 4 (.dT [] [zI,zI,zI,zI]),qi 5 0,qi 6 0]
def aiK :=[qa 8 2 2,qc 9 iV [8],qu 10 9,qm 11 10,qg 11 false (qw 12 3 4 3),qg 11 false (qo 13 (.uH 1 4 [zI,zI,zI,zI] [(0,4,(.t 12))])),qg 11 false (qc 14 rV [13]),qg 11 false (qu 15 14),qP 16 11 15,qm 7 16]
def aiL :=[qo 17 (.lf [zI,zI,zI,zI] []),qs 4 4 4 17,qi 5 0,qi 6 1]
def aiM :=[qF 19 0 3,qV 20 3 1 19,qA 21 2 2,qC 22 iO [21],qk 23 .gtr 20 22,qm 18 23]
def aiN :=[qo 24 (.lf [zI,zI,zI,zI] []),qs 4 4 4 24,qi 5 0,qi 6 2]
def aiO :=[qa 25 2 2,qf 26 0 3,qv 27 3 1 26,qc 28 lC [25,27],qm 5 28]
def aiP :=[qf 29 1 3,qv 30 3 1 29,qm 31 5,qk 32 .lss 30 31]
def aiQ :=[qo 33 (.lf [zI,zI,zI,zI] []),qs 4 4 4 33,qi 5 0,qi 6 9]
def aiR :=[qf 34 1 3,qv 35 3 1 34,qm 36 5,qk 37 .sub 35 36,qf 38 1 3,qs 3 1 38 37]
def aiS :=[qw 39 3 4 3,qm 40 5,qs 4 4 4 39,qm 5 40,qi 6 0]
def tz:Abs.Fn:=⟨2,[.v 4 true 4,.t 5,.t 6],sR [2,3,4] aiJ (.seq (.bL 0 (sR [2,3,4,7] aiK (.ite (.t 7) (sR [4,5,6] aiL .ret) (sR [2,3,4,18] aiM (.ite (.t 18) (sR [4,5,6] aiN .ret) .ep))))) (sR [3,4,5] aiO (sE [3,4,5,32] aiP 32 [4,5,6] aiQ (sR [3,4,5] aiR (sR [4,5,6] aiS .ret)))))⟩
attribute [simp] aiJ aiK aiL aiM aiN aiO aiP aiQ aiR aiS
def aiT :=[qo 2 (.dT [] [zI,zI])]
def aiU :=[qm 3 0,qc 4 nX [3],qm 5 0,qc 6 nW [5],qo 7 (.lf [zI,zI] [(0,1,(.t 4)),(1,1,(.t 6))]),qs 2 2 2 7]
def tx:Abs.Fn:=⟨1,[.v 2 true 2],sR [0,2] aiT (sR [2] aiU .ret)⟩
attribute [simp] aiT aiU
def aiV :=[qx 1 0,qi 2 0]
def aiW :=[qa 3 4 1,qc 4 kf [3],qu 5 4]
def aiX :=[qi 2 1]
def aiY :=[qi 2 0]
def nq:Abs.Fn:=⟨1,[.t 2],sR [1] aiV (sE [5] aiW 5 [2] aiX (sR [2] aiY .ret))⟩
attribute [simp] aiV aiW aiX aiY
def aiZ :=[qb 2 false]
def ai0 :=[qm 6 0,qe 7 6,qo 8 (.call false (.c (.fn cZ [] [])) [(.t 7),(.c (.int .i64 2)),(.c (.int .i64 20))]),qu 9 8,qm 10 9,qg 10 false (qm 11 0),qg 10 false (qo 12 (.call false (.c (.fn iP [] [])) [(.t 11),(.c (.fn jV [] []))])),qg 10 false (qu 13 12),qP 14 10 13]
def ai1 :=[qb 2 false]
def ai2 :=[qm 15 0,qo 16 (.K8 5 (.t 15) (some (.c (.int .i64 1))) none none),qe 17 16,qi 18 0]
def ai3 :=[qk 19 .lss 18 17]
def ai4 :=[qm 20 18,qj 21 5 16 18,qa 22 5 21,qo 4 (.dT [] [zI,zI,zI,zI,zI]),qm 3 20,qs 4 5 4 22]
def ai5 :=[qm 23 0,qm 24 3,qj 25 5 23 24,qa 26 5 25,qo 5 (.dT [] [zI,zI,zI,zI,zI]),qs 5 5 5 26]
def ai6 :=[qf 27 0 4,qv 28 4 1 27,qf 29 0 5,qv 30 5 1 29,qk 31 .leq 28 30,qm 32 31,qg 32 false (qf 33 1 4),qg 32 false (qv 34 4 1 33),qg 32 false (qf 35 1 5),qg 32 false (qv 36 5 1 35),qg 32 false (qk 37 .leq 34 36),qP 38 32 37,qm 39 38,qg 39 false (qf 40 2 4),qg 39 false (qv 41 4 1 40),qg 39 false (qf 42 2 5),qg 39 false (qv 43 5 1 42),qg 39 false (qk 44 .leq 41 43),qP 45 39 44,qm 46 45,qg 46 false (qf 47 4 4),qg 46 false (qv 48 4 1 47),qg 46 false (qf 49 4 5),qg 46 false (qv 50 5 1 49),qg 46 false (qk 51 .lss 48 50),qP 52 46 51]
def ai7 :=[qb 2 false]
def ai8 :=[qn 53 .add 18 1,qm 18 53]
def jS:Abs.cA:=sR [0,16,17,18,19] ai3 (.seq (.ite (.t 19) .ep (.exit 0)) (.seq (.bL 1 (sR [0,3,4,16,17,18] ai4 (sR [0,4,5,16,17,18] ai5 (sR [0,16,17,18,52] ai6 (.ite (.t 52) (sR [2] ai7 .ret) .ep))))) (.cm [0,16,17,18] ai8)))
def ZY :=[qb 2 true]
def nK:Abs.Fn:=⟨1,[.t 2],sR [0] aiZ (sE [0,14] ai0 14 [2] ai1 (sL [0,16,17,18] ai2 0 [0,16,17,18] false jS (sR [2] ZY .ret)))⟩
attribute [simp] aiZ ai0 ai1 ai2 ai3 ai4 ai5 ai6 ai7 ai8 ZY
def ai9 :=[qx 1 0,qb 2 false]
def aja :=[qf 4 0 1,qa 5 4 4,qc 6 iU [5],qn 7 .neq 6 0,qm 8 7,qg 8 false (qf 9 0 1),qg 8 false (qf 10 3 9),qg 8 false (ql 11 1 10),qg 8 false (qn 12 .lss 11 4),qP 13 8 12,qm 14 13,qg 14 false (qf 15 4 1),qg 14 false (ql 16 1 15),qg 14 false (qc 17 je [16]),qg 14 false (qn 18 .neq 17 0),qP 19 14 18,qm 20 19,qg 20 false (qf 21 5 1),qg 20 false (ql 22 1 21),qg 20 false (qo 23 (.call false (.c (.fn bY [] [])) [(.t 22),(.c (.int .i64 1)),(.c (.int .i64 100000))])),qg 20 false (qu 24 23),qP 25 20 24,qm 26 25,qg 26 false (qf 27 6 1),qg 26 false (ql 28 1 27),qg 26 false (qo 29 (.call false (.c (.fn bY [] [])) [(.t 28),(.c zI),(.c (.int .i64 1000))])),qg 26 false (qu 30 29),qP 31 26 30,qm 32 31,qg 32 false (qf 33 7 1),qg 32 false (ql 34 1 33),qg 32 false (qo 35 (.call false (.c (.fn bY [] [])) [(.t 34),(.c zI),(.c (.int .i64 3000))])),qg 32 false (qu 36 35),qP 37 32 36,qm 38 37,qg 38 false (qf 39 8 1),qg 38 false (ql 40 1 39),qg 38 false (qe 41 40),qg 38 false (qn 42 .gtr 41 8),qP 43 38 42]
def ajb :=[qb 2 false]
def ajc :=[qa 44 9 1,qc 45 cV [44],qo 46 (.mks 1 1 [(.bool false)] (.t 45) (.t 45)),qo 3 (.G8 [] [.aI]),qt 1 3 46]
def ajd :=[qf 47 8 1,ql 48 1 47,qo 49 (.xf eW [] [(.t 3)]),qc 50 jF [48,49],qm 2 50]
def ri:Abs.Fn:=⟨1,[.t 2],sR [1] ai9 (sE [1,43] aja 43 [2] ajb (sR [1,3] ajc (sR [2] ajd .ret)))⟩
attribute [simp] ai9 aja ajb ajc ajd
def asd :=[qi 4 0]
def ase :=[qm 6 0,qe 7 6,qi 8 0]
def asf :=[qk 9 .lss 8 7]
def ash :=[qm 10 8,qm 5 10]
def asi :=[qm 11 1,qm 12 0,qm 13 5,qj 14 4 12 13,qa 15 4 14,qo 16 (.call false (.t 11) [(.t 15)])]
def asj :=[qm 17 5,qm 4 17]
def asl :=[qn 18 .add 8 1,qm 8 18]
def rR:Abs.cA:=sR [0,1,7,8,9] asf (.seq (.ite (.t 9) .ep (.exit 0)) (.seq (.bL 1 (sR [0,1,5,7,8] ash (sR [0,1,5,7,8,16] asi (.ite (.t 16) (sR [4] asj .ret) .ep)))) (.cm [0,1,7,8] asl)))
def asm :=[qi 4 (-1)]
def mF:Abs.Fn:=⟨2,[.t 4],sR [0,1] asd (sL [0,1,7,8] ase 0 [0,1,7,8] false rR (sR [4] asm .ret))⟩
def aje :=[qx 2 0,qx 3 1,qo 4 (.dT [] [zI,zI,zI,zI,.aI,zI,zI,zI,.aI,(.str []),.aI]),qi 5 0]
def ajf :=[qa 7 9 2,qa 8 2 3,qo 9 (.lf [zI,zI,zI,zI,.aI,zI,zI,zI,.aI,(.str []),.aI] [(0,9,(.t 7)),(9,2,(.t 8))]),qo 6 (.dT [] [zI,zI,zI,zI,.aI,zI,zI,zI,.aI,(.str []),.aI]),qs 6 11 6 9]
def ajg :=[qa 10 9 2,qc 11 iY [10],qu 12 11,qm 13 12,qg 13 false (qw 14 6 11 6),qg 13 false (qc 15 jc [14]),qg 13 false (qu 16 15),qP 17 13 16]
def ajh :=[qo 18 (.lf [zI,zI,zI,zI,.aI,zI,zI,zI,.aI,(.str []),.aI] []),qs 4 11 4 18,qi 5 1]
def aji :=[qw 19 6 11 6,qs 4 11 4 19,qi 5 0]
def wJ:Abs.Fn:=⟨2,[.v 4 true 11,.t 5],sR [2,3,4] aje (sR [2,4,6] ajf (sE [4,6,17] ajg 17 [4,5] ajh (sR [4,5] aji .ret)))⟩
attribute [simp] aje ajf ajg ajh aji
def Rc :=[qx 1 0,qo 2 (.rq 3)]
def Re :=[qf 4 0 1,qa 5 9 4,qc 6 cV [5],qi 7 0]
def Rf :=[qk 8 .lss 7 6]
def Rh :=[qm 9 7,qm 3 9]
def Ri :=[qM 10 2,qA 11 11 1,qM 12 3,qC 13 eZ [11,12],qA 14 11 1,qM 15 3,qC 16 eZ [14,15],qA 17 11 1,qM 18 3,qC 19 lG [17,18],qK 20 .mul 16 19,qO 21 (.lf [zI,zI,zI] [(0,1,(.t 13)),(1,1,(.t 20))]),qO 22 (.uH 1 3 [zI,zI,zI] [(0,3,(.t 21))]),qy 23 3 24 10 22,qm 2 23]
def Rj :=[qn 24 .add 7 1,qm 7 24]
def kG:Abs.cA:=sR [1,2,6,7,8] Rf (.seq (.ite (.t 8) .ep (.exit 0)) (.seq (.bL 1 (sR [1,2,3,6,7] Rh (.cm [1,2,6,7] Ri))) (.cm [1,2,6,7] Rj)))
def Rk :=[qm 25 2,qm 2 25]
def nD:Abs.Fn:=⟨1,[.t 2],sR [1,2] Rc (sL [1,2,6,7] Re 0 [1,2,6,7] false kG (sR [2] Rk .ret))⟩
attribute [simp] Rc Re Rf Rh Ri Rj Rk
def Rm :=[qi 2 0]
def Rn :=[qm 6 0,qe 7 6,qi 8 0]
def Ro :=[qk 9 .lss 8 7]
def Rp :=[qj 10 1 6 8,ql 11 1 10,qm 4 11]
def Rq :=[qm 12 4,qo 13 (.call false (.t 12) []),qm 5 13]
def Rr :=[qm 14 5,qn 15 .neq 14 0]
def Rt :=[qm 16 5,qm 2 16]
def Ru :=[qn 17 .add 8 1,qm 8 17]
def qQ:Abs.cA:=sR [6,7,8,9] Ro (.seq (.ite (.t 9) .ep (.exit 0)) (.seq (.bL 1 (sR [4,6,7,8] Rp (sR [5,6,7,8] Rq (sR [5,6,7,8,15] Rr (.ite (.t 15) (sR [2] Rt .ret) .ep))))) (.cm [6,7,8] Ru)))
def Rx :=[qi 2 0]
def uL:Abs.Fn:=⟨1,[.t 2],sR [0] Rm (sL [6,7,8] Rn 0 [6,7,8] false qQ (sR [2] Rx .ret))⟩
attribute [simp] Rm Rn Ro Rp Rq Rr Rt Ru Rx
def Ry :=[qi 2 0]
def Rz :=[qa 3 4 0,ql 4 1 1,qc 5 gN [3,4],qm 2 5]
def jK:Abs.Fn:=⟨2,[.t 2],sR [0,1] Ry (sR [2] Rz .ret)⟩
attribute [simp] Ry Rz
def RA :=[qx 2 0,qi 4 0]
def RB :=[qm 5 1,qe 6 5,qn 7 .gtr 6 12]
def RC :=[qi 4 3]
def RD :=[qm 8 1,qo 9 (.xf dc [] [(.t 2)]),qc 10 eQ [8,9],qm 4 10]
def ku:Abs.Fn:=⟨2,[.t 4],sR [1,2] RA (sE [1,2,7] RB 7 [4] RC (sR [4] RD .ret))⟩
attribute [simp] RA RB RC RD
def RE :=[qi 2 0]
def RF :=[qa 3 4 0,qa 4 2 1,qc 5 ic [3,4],qm 2 5]
def uJ:Abs.Fn:=⟨2,[.t 2],sR [0,1] RE (sR [2] RF .ret)⟩
attribute [simp] RE RF
def RG :=[qx 2 0,qx 3 1,qi 4 0]
def RH :=[qf 6 0 3,ql 7 1 6,qc 8 pg [7],qu 9 8,qm 5 9]
def RI :=[qi 4 5]
def RJ :=[qF 11 1 3,qL 12 1 11,qE 13 12,qF 14 3 2,qL 15 1 14,qA 16 4 2,qC 17 cY [16],qK 18 .mul 15 17,qk 19 .neq 13 18,qm 20 19,qg 20 false (qf 21 1 3),qg 20 false (ql 22 1 21),qg 20 false (qo 23 (.call false (.c (.fn o4 [] [])) [(.t 22),(.c (.fn fO [] []))])),qg 20 false (qu 24 23),qP 25 20 24,qm 10 25]
def RL :=[qi 4 1]
def RM :=[qi 4 0]
def nk:Abs.Fn:=⟨2,[.t 4],sR [2,3] RG (.seq (.bL 0 (sR [2,3,5] RH (.ite (.t 5) (sR [4] RI .ret) (sR [10] RJ (.ite (.t 10) (sR [4] RL .ret) .ep))))) (sR [4] RM .ret))⟩
attribute [simp] RG RH RI RJ RL RM
def RN :=[qi 2 0]
def RO :=[qa 3 4 0,qa 4 6 1,qc 5 fN [3,4],qm 2 5]
def uK:Abs.Fn:=⟨2,[.t 2],sR [0,1] RN (sR [2] RO .ret)⟩
attribute [simp] RN RO
def RP :=[qx 2 0,qx 3 1,qi 4 0]
def RQ :=[qf 6 0 3,ql 7 1 6,qc 8 pg [7],qu 9 8,qm 5 9]
def RR :=[qi 4 5]
def RS :=[qa 11 4 2,qf 12 1 3,ql 13 1 12,qf 14 2 3,ql 15 1 14,qf 16 3 3,ql 17 1 16,qc 18 lq [11,13,15,17],qu 19 18,qm 20 19,qg 20 false (qf 21 4 3),qg 20 false (qa 22 2 21),qg 20 false (qc 23 lr [22]),qg 20 false (qu 24 23),qP 25 20 24,qm 10 25]
def RT :=[qi 4 1]
def RU :=[qi 4 0]
def lJ:Abs.Fn:=⟨2,[.t 4],sR [2,3] RP (.seq (.bL 0 (sR [2,3,5] RQ (.ite (.t 5) (sR [4] RR .ret) (sR [10] RS (.ite (.t 10) (sR [4] RT .ret) .ep))))) (sR [4] RU .ret))⟩
attribute [simp] RP RQ RR RS RT RU
def RV :=[qx 2 0,qx 3 1,qo 4 (.mv (.c .ir))]
def RW :=[qa 5 4 2,qf 6 1 3,ql 7 1 6,qf 8 2 3,ql 9 1 8,qf 10 3 3,ql 11 1 10,qo 12 (.lf [zI,zI,zI,zI,zI,.aI,.aI] [(0,4,(.t 5)),(4,1,(.t 7)),(5,1,(.t 9)),(6,1,(.t 11))]),qo 13 (.xf kW [(.t 12)] []),qm 4 13]
def mr:Abs.Fn:=⟨2,[.t 4],sR [2,3] RV (sR [4] RW .ret)⟩
attribute [simp] RV RW
def akN :=[qx 3 1,qb 4 false]
def akO :=[qm 5 0,qo 6 (.xf ff [] [(.t 3)]),qc 7 cM [5,6],qu 8 7,qm 4 8]
def mS:Abs.Fn:=⟨2,[.t 4],sR [0,3] akN (sR [4] akO .ret)⟩
def R6 :=[qx 1 0,qb 2 false]
def R7 :=[qf 3 0 1,qa 4 3 3,qf 5 3 1,qa 6 3 5,qc 7 tP [4,6],qm 8 7,qg 8 true (qf 9 6 1),qg 8 true (ql 10 1 9),qg 8 true (qo 11 (.call false (.c (.fn bX [] [])) [(.t 10),(.c zI),(.c (.int .i64 160))])),qp 12 8 11,qm 13 12,qg 13 true (qf 14 7 1),qg 13 true (ql 15 1 14),qg 13 true (qo 16 (.call false (.c (.fn bX [] [])) [(.t 15),(.c (.int .i64 1)),(.c (.int .i64 1000000))])),qp 17 13 16,qm 18 17,qg 18 true (qf 19 8 1),qg 18 true (ql 20 1 19),qg 18 true (qo 21 (.call false (.c (.fn bX [] [])) [(.t 20),(.c (.int .i64 1)),(.c (.int .i64 200))])),qp 22 18 21,qm 23 22,qg 23 true (qf 24 9 1),qg 23 true (ql 25 1 24),qg 23 true (qo 26 (.bin .eql (.t 25) (.c (.int .u8 1)))),qg 23 true (qm 27 26),qg 27 false (qf 28 9 1),qg 27 false (ql 29 1 28),qg 27 false (qo 30 (.bin .eql (.t 29) (.c (.int .u8 2)))),qg 23 true (qP 31 27 30),qp 32 23 31,qm 2 32]
def nM:Abs.Fn:=⟨1,[.t 2],sR [1] R6 (sR [2] R7 .ret)⟩
attribute [simp] R6 R7
def akP :=[qx 3 1,qb 4 false]
def akQ :=[qm 5 0,qo 6 (.xf eF [] [(.t 3)]),qc 7 cJ [5,6],qu 8 7,qm 4 8]
def l8:Abs.Fn:=⟨2,[.t 4],sR [0,3] akP (sR [4] akQ .ret)⟩
def R8 :=[qx 1 0,qb 2 false]
def R9 :=[qf 3 0 1,ql 4 1 3,qo 5 (.call false (.c (.fn bX [] [])) [(.t 4),(.c zI),(.c (.int .i64 1000000))]),qm 6 5,qg 6 true (qf 7 1 1),qg 6 true (ql 8 1 7),qg 6 true (qe 9 8),qg 6 true (qo 10 (.call false (.c (.fn bX [] [])) [(.t 9),(.c (.int .i64 1)),(.c (.int .i64 2000))])),qp 11 6 10,qm 12 11,qg 12 true (qf 13 1 1),qg 12 true (ql 14 1 13),qg 12 true (qo 15 (.call false (.c (.fn ef [] [])) [(.t 14),(.c (.fn ft [] []))])),qp 16 12 15,qm 2 16]
def mH:Abs.Fn:=⟨1,[.t 2],sR [1] R8 (sR [2] R9 .ret)⟩
attribute [simp] R8 R9
def Sa :=[qb 6 false]
def Sb :=[qm 7 1,qm 8 0,qk 9 .leq 7 8,qm 10 9,qg 10 true (qm 11 0),qg 10 true (qm 12 2),qg 10 true (qk 13 .leq 11 12),qp 14 10 13,qm 6 14]
def sn:Abs.Fn:=⟨3,[.t 6],sR [0,1,2] Sa (sR [6] Sb .ret)⟩
attribute [simp] Sa Sb
def Sc :=[qx 2 0,qx 3 1,qb 4 false]
def Sd :=[qf 6 0 3,qa 7 3 6,qo 5 (.dT [] [zI,zI,zI]),qs 5 3 5 7]
def Se :=[qf 8 3 3,ql 9 1 8,qf 10 6 2,ql 11 1 10,qk 12 .geq 9 11,qm 13 12,qg 13 true (qf 14 0 5),qg 13 true (qv 15 5 1 14),qg 13 true (qf 16 0 2),qg 13 true (qf 17 0 16),qg 13 true (ql 18 1 17),qg 13 true (qf 19 3 2),qg 13 true (qf 20 0 19),qg 13 true (ql 21 1 20),qg 13 true (qc 22 bX [15,18,21]),qp 23 13 22,qm 24 23,qg 24 true (qf 25 1 5),qg 24 true (qv 26 5 1 25),qg 24 true (qf 27 0 2),qg 24 true (qf 28 1 27),qg 24 true (ql 29 1 28),qg 24 true (qf 30 3 2),qg 24 true (qf 31 1 30),qg 24 true (ql 32 1 31),qg 24 true (qc 33 bX [26,29,32]),qp 34 24 33,qm 35 34,qg 35 true (qf 36 2 5),qg 35 true (qv 37 5 1 36),qg 35 true (qf 38 0 2),qg 35 true (qf 39 2 38),qg 35 true (ql 40 1 39),qg 35 true (qf 41 3 2),qg 35 true (qf 42 2 41),qg 35 true (ql 43 1 42),qg 35 true (qc 44 bX [37,40,43]),qp 45 35 44,qm 4 45]
def mJ:Abs.Fn:=⟨2,[.t 4],sR [2,3] Sc (sR [2,3,5] Sd (sR [4] Se .ret))⟩
attribute [simp] Sc Sd Se
def akR :=[qb 4 false]
def akS :=[qm 5 0,qm 6 1,qc 7 fq [5,6],qn 8 .geq 7 0,qm 4 8]
def gG:Abs.Fn:=⟨2,[.t 4],sR [0,1] akR (sR [4] akS .ret)⟩
def akT :=[qx 3 1,qb 4 false]
def akU :=[qm 5 0,qo 6 (.xf gW [] [(.t 3)]),qc 7 b8 [5,6],qu 8 7,qm 4 8]
def mT:Abs.Fn:=⟨2,[.t 4],sR [0,3] akT (sR [4] akU .ret)⟩
def Sf :=[qb 2 false]
def Sg :=[qm 3 0,qo 4 (.call false (.c (.fn bX [] [])) [(.t 3),(.c zI),(.c (.int .i64 1000000000))]),qm 2 4]
def pO:Abs.Fn:=⟨1,[.t 2],sR [0] Sf (sR [2] Sg .ret)⟩
attribute [simp] Sf Sg
def akV :=[qx 3 1,qb 4 false]
def akW :=[qm 5 0,qo 6 (.xf oQ [] [(.t 3)]),qc 7 bJ [5,6],qu 8 7,qm 4 8]
def uB:Abs.Fn:=⟨2,[.t 4],sR [0,3] akV (sR [4] akW .ret)⟩
def akX :=[qx 3 1,qb 4 false]
def akY :=[qm 5 0,qo 6 (.xf qD [] [(.t 3)]),qc 7 kP [5,6],qu 8 7,qm 4 8]
def wK:Abs.Fn:=⟨2,[.t 4],sR [0,3] akX (sR [4] akY .ret)⟩
def akZ :=[qb 2 false]
def ak0 :=[qm 3 0,qo 4 (.bin .leq (.t 3) (.c (.int .u8 2))),qm 2 4]
def xz:Abs.Fn:=⟨1,[.t 2],sR [0] akZ (sR [2] ak0 .ret)⟩
def Sh :=[qo 4 (.rq 4)]
def Si :=[qm 7 0,qe 8 7,qi 9 0]
def Sj :=[qk 10 .lss 9 8]
def Sk :=[qj 11 4 7 9,qa 12 4 11,qo 6 (.dT [] [(.str []),.aI,(.bool false),zI]),qs 6 4 6 12]
def Sl :=[qm 13 1,qw 14 6 4 6,qo 15 (.call false (.t 13) [(.t 14)])]
def Sm :=[qm 16 4,qw 17 6 4 6,qo 18 (.uH 1 4 [(.str []),.aI,(.bool false),zI] [(0,4,(.t 17))]),qy 19 4 56 16 18,qm 4 19]
def Sn :=[qn 20 .add 9 1,qm 9 20]
def dX:Abs.cA:=sR [1,4,7,8,9,10] Sj (.seq (.ite (.t 10) .ep (.exit 0)) (.seq (.bL 1 (sR [1,4,6,7,8,9] Sk (sR [1,4,6,7,8,9,15] Sl (.ite (.t 15) (.cm [1,4,7,8,9] Sm) .ep)))) (.cm [1,4,7,8,9] Sn)))
def Sp :=[qm 21 4,qm 4 21]
def fj:Abs.Fn:=⟨2,[.t 4],sR [0,1,4] Sh (sL [1,4,7,8,9] Si 0 [1,4,7,8,9] false dX (sR [4] Sp .ret))⟩
attribute [simp] Sh Si Sj Sk Sl Sm Sn Sp
def Sq :=[qx 1 0,qb 2 false]
def Sr :=[qf 3 2 1,ql 4 1 3,qm 2 4]
def lN:Abs.Fn:=⟨1,[.t 2],sR [1] Sq (sR [2] Sr .ret)⟩
attribute [simp] Sq Sr
def Ss :=[qx 2 0,qi 4 0]
def Su :=[qm 8 1,qe 9 8,qn 10 .gtr 9 200]
def Sw :=[qi 4 3]
def Sx :=[qm 11 1,qe 12 11,qi 13 0]
def Sy :=[qk 14 .lss 13 12]
def SA :=[qj 15 1 11 13,ql 16 1 15,qm 6 16]
def SB :=[qa 17 9 2,qm 18 6,qc 19 nT [17,18],qm 7 19]
def SC :=[qm 20 7,qn 21 .neq 20 0]
def SD :=[qm 22 7,qm 4 22]
def SE :=[qn 23 .add 13 1,qm 13 23]
def nB:Abs.cA:=sR [2,11,12,13,14] Sy (.seq (.ite (.t 14) .ep (.exit 0)) (.seq (.bL 1 (sR [2,6,11,12,13] SA (sR [2,7,11,12,13] SB (sR [2,7,11,12,13,21] SC (.ite (.t 21) (sR [4] SD .ret) .ep))))) (.cm [2,11,12,13] SE)))
def M4 :=[qi 4 0]
def sh:Abs.Fn:=⟨2,[.t 4],sR [1,2] Ss (sE [1,2,10] Su 10 [4] Sw (sL [2,11,12,13] Sx 0 [2,11,12,13] false nB (sR [4] M4 .ret)))⟩
attribute [simp] Ss Su Sw Sx Sy SA SB SC SD SE M4
def tF1:List (Nat×uc×Abs.Fn):=[A4 [] fC j8 [] [7] [] [] [] [] [] [] [(2,some 3),(3,some 4),(6,some 1)],A4 [] fG kc [] [0,6] [6] [(1005,[(1,2)]),(5012,[(0,2)]),(7012,[(0,2)])] [] [(6,[6,1000006]),(6,[6])] [] [] [(0,some 7),(6,some 2)],A4 [] fE ka [] [0,11,13,14,16,17,18,20] [13,14,16,17,18,20] [(18029,[(0,6)])] [] [(17,[11])] [] [] [(1,some 12),(3,some 37),(9,some 1),(12,some 1),(14,some 1)],A0 cI qX,A0 iU oi,A4 [] bO pY [] [] [] [] [] [] [] [] [(0,some 3)],A0 je oN,A4 [] mi sj [] [] [] [] [] [(0,[0])] [] [] [],A2 [] ed fR [] [2,5],A0 dB kR,A0 dL kD,A4 [] tM tC [] [6] [6] [] [] [(0,[0])] [] [] [],A0 iM lH,A3 [] fP lP [] [7] [7] [] [],A0 eS mu,A0 ve xo,A3 [] gV nR [] [10,15] [10,15] [] [],A0 o7 sk,A0 fB nw,A0 iN lM,A2 [] gB jA [] [2,5],(sT,JR,sO),(lE,FX,nP),A0 eo lO,A0 mK pA,A3 [] pj rT [] [6] [6] [] [],A3 [] qq tz [] [3,4] [3,4] [] [],A3 [] qh tx [] [2] [2] [] [],A0 cr nq,A3 [] iq nK [] [4,5] [4,5] [] [],A2 [] iY ri [] [3],A0 eE mF,A3 [] sF wJ [] [4,6] [4,6] [] [],A2 [] ij nD [] [2],A0 mV uL,A0 dt jK,A0 gN ku,A0 pf uJ,A0 ic nk,A0 mU uK,A0 fN lJ,A0 jC mr,A0 de mS,A0 ei nM,A0 cQ l8,A0 dG mH,A0 bX sn,A3 [] dH mJ [] [5] [5] [] [],A0 b8 gG,A0 ef mT,A0 jX pO,A0 gD uB,A0 oR wK,A0 pR xz,A3 [] dw fj [] [4,6] [6] [] [],A0 ek lN,A0 mh sh]
theorem kF1:(tF1.map fun p=>chk p)=tF1.map fun p=>some p.2.2:=by kernel_rfl
end Go.Proofs.YtklfdfnoebnciaaGreatDoor
