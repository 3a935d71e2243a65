import Derived.Test.YtfgljaglidhjiaaGreatDoorIds
set_option linter.all false
set_option maxRecDepth 100000
namespace Go.Proofs.YtfgljaglidhjiaaGreatDoor
open Go Go.Abs
def Y2 :=[qm 10 0,qo 11 (.mo (.t 10)),qf 12 0 11,qf 13 12 12,ql 14 1 13,qe 15 14,qn 16 .lss 15 200]
def Y3:List Abs.Op:=[]
def Y4 :=[qm 18 0,qo 19 (.mo (.t 18)),qf 20 0 19,qf 21 10 20,ql 22 1 21,qe 23 22,qo 24 (.lq [zI,.aF] [(0,1,(.t 23))]),qo 6 (.dY [] [zI,.aF]),⟨none,none,false,.FV 6 [(1,4)] 2 6 (.t 24)⟩]
def Y5 :=[qm 25 2,qe 26 25,qn 27 .gtr 26 0]
def Y6 :=[qF 30 1 6,qV 31 6 1 30,qM 32 2,qO 33 (.dP 1 (.t 32) (.c zI)),qL 34 1 33,qM 35 2,qO 36 (.dP 1 (.t 35) (.c (.int .i64 1))),qL 37 1 36,qM 38 2,qO 39 (.dP 1 (.t 38) (.c (.int .i64 2))),qL 40 1 39,qO 41 (.lq [zI,zI,zI] [(0,1,(.t 34)),(1,1,(.t 37)),(2,1,(.t 40))]),qM 42 2,qO 43 (.dP 1 (.t 42) (.c (.int .i64 3))),qL 44 1 43,qO 45 (.lq [zI,zI,zI,zI] [(0,3,(.t 41)),(3,1,(.t 44))]),qO 46 (.ur 1 4 [zI,zI,zI,zI] [(0,4,(.t 45))]),qy 47 4 32 31 46,qf 48 1 6,⟨none,none,false,.FV 6 [(0,4)] 1 48 (.t 47)⟩]
def Y7 :=[qm 28 2,qo 29 (.JV 1 (.t 28) (some (.c (.int .i64 4))) none none),qm 2 29]
def j8:Abs.cH:=sI [0,2,6,27] Y5 27 .dQ (.exit 0) (.seq (.bO 1 (.cg [0,2,6] Y6)) (.cg [0,2,6] Y7))
def Y8 :=[qw 50 6 2 6,qo 51 (.ur 1 2 [zI,.aF] [(0,2,(.t 50))]),qo 52 (.call false (.c (.fn iC [] [])) [(.c .aF),(.t 51),(.c zI)]),qm 49 52,qz 53 49 0,qz 54 49 1,qz 55 49 2,qm 7 53,qm 8 54,qm 9 55]
def Y9 :=[qm 56 9]
def Za:List Abs.Op:=[]
def OD :=[qM 58 0,qM 59 0,qO 60 (.mo (.t 59)),qF 61 0 60,qF 62 12 61,qL 63 1 62,qW 64 6 2 6,qO 65 (.ur 1 2 [zI,.aF] [(0,2,(.t 64))]),qO 66 (.app 2 32 (.t 63) (.t 65)),qo 67 (.mo (.t 58)),qf 68 0 67,qf 69 12 68,⟨none,none,false,.st [(0,2)] 1 (.t 69) (.t 66)⟩]
def jS:Abs.Fn:=⟨3,[],.seq (.iG [0,2] Y2 ⟨some 17,none,false,.call false (.c (.fn bd [] [])) [(.t 16),(.c (.int .i64 3))]⟩ Y3) (sR [0,2,6] Y4 (.seq (.bO 0 (.loop [0,2,6] false j8)) (.seq (.seq (.cz [6,1000006]) (.cg [0,6,9] Y8)) (.seq (.iG [0,6] Y9 ⟨some 57,none,false,.call false (.c (.fn bU [] [])) [(.t 56)]⟩ Za) (.cg [] OD)))))⟩
attribute [simp] Y2 Y3 Y4 Y5 Y6 Y7 Y8 Y9 Za OD
def Zb :=[qm 16 0,qc 17 fV [16],qm 6 17]
def Zc :=[qm 18 6,qe 19 18,qn 20 .gtr 19 0]
def Zd:List Abs.Op:=[]
def Ze :=[qm 22 0,qo 23 (.mo (.t 22)),qf 24 0 23,qf 25 10 24,ql 26 1 25,qe 27 26,qn 28 .lss 27 200]
def Zf:List Abs.Op:=[]
def Zg :=[qm 30 2,qe 31 30,qm 32 0,qo 33 (.mo (.t 32)),qf 34 0 33,qf 35 0 34,qf 36 8 35,ql 37 1 36,qe 38 37,qk 39 .eql 31 38]
def Zh:List Abs.Op:=[]
def Zi :=[qM 41 0,qM 42 0,qC 43 gl [42],qO 44 (.mo (.t 41)),qF 45 0 44,qF 46 13 45,qo 47 (.Bc 3 1 (.t 46) (.t 43)),ql 48 1 47,qm 7 48]
def Zj :=[qo 8 (.pq 1)]
def Zk :=[qm 49 2,qe 50 49,qi 51 0]
def OE :=[qk 52 .lss 51 50]
def OF :=[qj 53 1 49 51,ql 54 1 53,qm 10 54]
def OG :=[qm 55 10,qo 56 (.call false (.c (.fn ct [] [])) [(.t 55),(.c (.int .i64 (-100000))),(.c (.int .i64 100000))])]
def OH:List Abs.Op:=[]
def OI :=[qm 58 10,qn 59 .lss 58 0]
def OJ :=[qm 60 10,qo 61 (.un .neg (.t 60)),qm 62 7,qk 63 .mul 61 62,qn 64 .quo 63 1000,qo 65 (.un .neg (.t 64)),qm 10 65]
def OK :=[qm 66 8,qm 67 10,qo 68 (.ur 1 1 [zI] [(0,1,(.t 67))]),qy 69 1 8 66 68,qm 8 69]
def OL :=[qn 70 .add 51 1,qm 51 70]
def kb:Abs.cH:=sR [0,6,7,8,49,50,51,52] OE (.seq (.ite (.t 52) .dQ (.exit 0)) (.seq (.bO 1 (sR [0,6,7,8,10,49,50,51] OF (.seq (.iG [0,6,7,8,10,49,50,51] OG ⟨some 57,none,false,.call false (.c (.fn bd [] [])) [(.t 56),(.c (.int .i64 2))]⟩ OH) (sI [0,6,7,8,10,49,50,51,59] OI 59 (.cg [0,6,7,8,10,49,50,51] OJ) .dQ (.cg [0,6,7,8,49,50,51] OK))))) (.cg [0,6,7,8,49,50,51] OL)))
def OM :=[qm 71 0,qo 72 (.mo (.t 71)),qf 73 0 72,qf 74 10 73,ql 75 1 74,qo 76 (.call true (.c (.fn gT [] [])) [(.t 75)]),qm 77 8,qo 78 (.ur 1 1 [.aF] [(0,1,(.t 77))]),qy 79 1 24 76 78,qm 11 79]
def ON :=[qm 80 6,qe 81 80,qi 82 0]
def OO :=[qk 83 .lss 82 81]
def OP :=[qj 84 4 80 82,qa 85 4 84,qo 13 (.dY [] [(.str []),.aF,(.bool false),zI]),qs 13 4 13 85]
def OQ :=[qM 87 0,qO 88 (.mo (.t 87)),qF 89 0 88,qF 90 0 89,qA 91 9 90,qF 92 0 13,qW 93 13 2 92,qM 94 11,qC 95 qY [91,93,94],qM 86 95,qZ 96 86 0,qZ 97 86 1,qO 14 (.dY [] [.aF,.aF]),qS 14 2 14 96,qm 15 97]
def OR :=[qm 98 15]
def OS:List Abs.Op:=[]
def OT :=[qn 100 .add 82 1,qm 82 100]
def kc:Abs.cH:=sR [0,11,80,81,82,83] OO (.seq (.ite (.t 83) .dQ (.exit 2)) (.seq (.bO 3 (sR [0,11,13,80,81,82] OP (sR [0,11,15,80,81,82] OQ (.iG [0,11,80,81,82] OR ⟨some 99,none,false,.call false (.c (.fn bU [] [])) [(.t 98)]⟩ OS)))) (.cg [0,11,80,81,82] OT)))
def OU :=[qm 101 0,qm 102 11,qo 103 (.mo (.t 101)),qf 104 0 103,qf 105 10 104,qt 1 105 102]
def kG:Abs.Fn:=⟨3,[],sR [0,2,6] Zb (.seq (.iG [0,2,6] Zc ⟨some 21,none,false,.call false (.c (.fn bd [] [])) [(.t 20),(.c (.int .i64 8))]⟩ Zd) (.seq (.iG [0,2,6] Ze ⟨some 29,none,false,.call false (.c (.fn bd [] [])) [(.t 28),(.c (.int .i64 3))]⟩ Zf) (.seq (.iG [0,2,6] Zg ⟨some 40,none,false,.call false (.c (.fn bd [] [])) [(.t 39),(.c (.int .i64 1))]⟩ Zh) (sR [0,2,6,7] Zi (sR [0,2,6,7,8] Zj (sL [0,6,7,8,49,50,51] Zk 0 [0,6,7,8,49,50,51] false kb (sR [0,6,11] OM (.seq (.seq (.seq (.cz [11]) (.cg [0,11,80,81,82] ON)) (.bO 2 (.loop [0,11,80,81,82] false kc))) (.cg [] OU)))))))))⟩
attribute [simp] Zb Zc Zd Ze Zf Zg Zh Zi Zj Zk OE OF OG OH OI OJ OK OL OM ON OO OP OQ OR OS OT OU
def Zl :=[qx 3 0,qx 5 2]
def Zm :=[ql 11 1 3,qc 12 fV [11],qm 6 12]
def Zn :=[qm 13 6,qe 14 13,qn 15 .gtr 14 0]
def Zo:List Abs.Op:=[]
def Zp :=[ql 17 1 5,qo 18 (.dP 1 (.t 17) (.c zI)),ql 19 1 18,qo 20 (.call false (.c (.fn ct [] [])) [(.t 19),(.c zI),(.c (.int .i64 255))])]
def Zq:List Abs.Op:=[]
def Zr :=[qL 22 1 3,qO 23 (.mo (.t 22)),qF 24 0 23,qF 25 10 24,qL 26 1 25,qE 27 26,qL 28 1 5,qO 29 (.dP 1 (.t 28) (.c zI)),qL 30 1 29,qO 31 (.KF .u8 (.t 30)),qL 32 1 5,qO 33 (.dP 1 (.t 32) (.c (.int .i64 1))),qL 34 1 33,qL 35 1 5,qO 36 (.dP 1 (.t 35) (.c (.int .i64 2))),qL 37 1 36,qL 38 1 5,qO 39 (.dP 1 (.t 38) (.c (.int .i64 3))),qL 40 1 39,qO 41 (.lq [zI,zI] [(0,1,(.t 37)),(1,1,(.t 40))]),qO 42 (.lq [zI,(.int .u8 0),zI,zI,zI] [(0,1,(.t 27)),(1,1,(.t 31)),(2,1,(.t 34)),(3,2,(.t 41))]),qO 7 (.HM [] [zI,(.int .u8 0),zI,zI,zI]),qt 5 7 42]
def Zs :=[qL 44 1 3,qO 45 (.mo (.t 44)),qF 46 0 45,qF 47 0 46,qA 48 9 47,qM 49 6,qO 50 (.dP 4 (.t 49) (.c zI)),qF 51 0 50,qA 52 2 51,qO 53 (.ur 1 2 [(.str []),.aF] [(0,2,(.t 52))]),qL 54 1 3,qO 55 (.mo (.t 54)),qF 56 0 55,qF 57 10 56,qL 58 1 57,qA 59 5 7,qO 60 (.ur 1 5 [zI,(.int .u8 0),zI,zI,zI] [(0,5,(.t 59))]),qC 61 lS [48,53,58,60],qM 43 61,qZ 62 43 0,qZ 63 43 1,qZ 64 43 2,qM 8 62,qM 9 63,qm 10 64]
def Zt :=[qm 65 10]
def Zu:List Abs.Op:=[]
def OV :=[qL 67 1 3,qL 68 1 5,qO 69 (.dP 1 (.t 68) (.c (.int .i64 2))),qL 70 1 69,qL 71 1 5,qO 72 (.dP 1 (.t 71) (.c (.int .i64 3))),qL 73 1 72,qO 74 (.lq [zI,zI] [(0,1,(.t 70)),(1,1,(.t 73))]),qO 75 (.xT eR [] [(.t 3),(.t 7),(.t 5)]),qc 76 gn [67,74,75]]
def kD:Abs.Fn:=⟨3,[],sR [3,5] Zl (sR [3,5,6] Zm (.seq (.iG [3,5,6] Zn ⟨some 16,none,false,.call false (.c (.fn bd [] [])) [(.t 15),(.c (.int .i64 8))]⟩ Zo) (.seq (.iG [3,5,6] Zp ⟨some 21,none,false,.call false (.c (.fn bd [] [])) [(.t 20),(.c (.int .i64 1))]⟩ Zq) (sR [3,5,6,7] Zr (sR [3,5,7,10] Zs (.seq (.iG [3,5,7] Zt ⟨some 66,none,false,.call false (.c (.fn bU [] [])) [(.t 65)]⟩ Zu) (.cg [] OV)))))))⟩
attribute [simp] Zl Zm Zn Zo Zp Zq Zr Zs Zt Zu OV
def Zv :=[qm 7 0,qo 8 (.mo (.t 7)),qf 9 0 8,qf 10 16 9,ql 11 1 10,qe 12 11,qn 13 .lss 12 10]
def Zw:List Abs.Op:=[]
def Zx :=[qm 15 2,qo 16 (.dP 1 (.t 15) (.c zI)),ql 17 1 16,qo 18 (.lq [zI,.aF] [(0,1,(.t 17))]),qo 6 (.dY [] [zI,.aF]),⟨none,none,false,.FV 6 [(1,2)] 2 6 (.t 18)⟩]
def Zy :=[qm 19 2,qo 20 (.JV 1 (.t 19) (some (.c (.int .i64 1))) none none),qm 2 20]
def Zz :=[qm 21 2,qe 22 21,qn 23 .gtr 22 0]
def ZA :=[qF 26 1 6,qV 27 6 1 26,qM 28 2,qO 29 (.dP 1 (.t 28) (.c zI)),qL 30 1 29,qM 31 2,qO 32 (.dP 1 (.t 31) (.c (.int .i64 1))),qL 33 1 32,qO 34 (.lq [zI,zI] [(0,1,(.t 30)),(1,1,(.t 33))]),qO 35 (.ur 1 2 [zI,zI] [(0,2,(.t 34))]),qy 36 2 16 27 35,qf 37 1 6,⟨none,none,false,.FV 6 [(0,2)] 1 37 (.t 36)⟩]
def ZB :=[qm 24 2,qo 25 (.JV 1 (.t 24) (some (.c (.int .i64 2))) none none),qm 2 25]
def kW:Abs.cH:=sI [0,2,6,23] Zz 23 .dQ (.exit 0) (.seq (.bO 1 (.cg [0,2,6] ZA)) (.cg [0,2,6] ZB))
def ZC :=[qw 38 6 2 6,qc 39 nc [38]]
def ZD:List Abs.Op:=[]
def OW :=[qM 41 0,qM 42 0,qO 43 (.mo (.t 42)),qF 44 0 43,qF 45 16 44,qL 46 1 45,qW 47 6 2 6,qO 48 (.ur 1 2 [zI,.aF] [(0,2,(.t 47))]),qO 49 (.app 2 32 (.t 46) (.t 48)),qo 50 (.mo (.t 41)),qf 51 0 50,qf 52 16 51,⟨none,none,false,.st [(0,2)] 1 (.t 52) (.t 49)⟩]
def kH:Abs.Fn:=⟨3,[],.seq (.iG [0,2] Zv ⟨some 14,none,false,.call false (.c (.fn bd [] [])) [(.t 13),(.c (.int .i64 3))]⟩ Zw) (sR [0,2,6] Zx (sL [0,2,6] Zy 0 [0,2,6] false kW (.seq (.seq (.cz [6,1000006]) (.iG [0,6] ZC ⟨some 40,none,false,.call false (.c (.fn bU [] [])) [(.t 39)]⟩ ZD)) (.cg [] OW))))⟩
attribute [simp] Zv Zw Zx Zy Zz ZA ZB ZC ZD OW
def aah :=[qm 21 0,qc 22 fV [21],qm 6 22]
def aai :=[qm 23 6,qe 24 23,qn 25 .gtr 24 0,qm 26 25,qg 26 true (qm 27 0),qg 26 true (qo 28 (.mo (.t 27))),qg 26 true (qf 29 0 28),qg 26 true (qf 30 10 29),qg 26 true (ql 31 1 30),qg 26 true (qe 32 31),qg 26 true (qn 33 .gtr 32 0),qp 34 26 33]
def aaj:List Abs.Op:=[]
def aak :=[qM 36 2,qO 37 (.dP 1 (.t 36) (.c zI)),qL 38 1 37,qM 39 2,qO 40 (.dP 1 (.t 39) (.c (.int .i64 1))),qL 41 1 40,qM 42 2,qO 43 (.dP 1 (.t 42) (.c (.int .i64 2))),qL 44 1 43,qM 45 2,qO 46 (.dP 1 (.t 45) (.c (.int .i64 3))),qL 47 1 46,qM 7 38,qM 8 41,qM 9 44,qm 10 47]
def aal :=[qm 48 7,qm 49 0,qo 50 (.mo (.t 49)),qf 51 0 50,qf 52 0 51,qf 53 8 52,ql 54 1 53,qe 55 54,qn 56 .sub 55 1,qo 57 (.call false (.c (.fn ct [] [])) [(.t 48),(.c zI),(.t 56)]),qm 58 57,qg 58 true (qm 59 8),qg 58 true (qm 60 0),qg 58 true (qo 61 (.mo (.t 60))),qg 58 true (qf 62 0 61),qg 58 true (qf 63 0 62),qg 58 true (qf 64 4 63),qg 58 true (ql 65 1 64),qg 58 true (qe 66 65),qg 58 true (qn 67 .sub 66 1),qg 58 true (qo 68 (.call false (.c (.fn ct [] [])) [(.t 59),(.c zI),(.t 67)])),qp 69 58 68,qm 70 69,qg 70 true (qm 71 9),qg 70 true (qm 72 0),qg 70 true (qo 73 (.mo (.t 72))),qg 70 true (qf 74 0 73),qg 70 true (qf 75 16 74),qg 70 true (ql 76 1 75),qg 70 true (qe 77 76),qg 70 true (qn 78 .sub 77 1),qg 70 true (qo 79 (.call false (.c (.fn ct [] [])) [(.t 71),(.c zI),(.t 78)])),qp 80 70 79,qm 81 80,qg 81 true (qm 82 10),qg 81 true (qo 83 (.call false (.c (.fn ct [] [])) [(.t 82),(.c zI),(.c (.int .i64 1000))])),qp 84 81 83]
def aam:List Abs.Op:=[]
def aan :=[qo 11 (.pq 1)]
def aao :=[qm 86 6,qe 87 86,qi 88 0]
def aap :=[qk 89 .lss 88 87]
def aaq :=[qj 90 4 86 88,qa 91 4 90,qo 13 (.dY [] [(.str []),.aF,(.bool false),zI]),qs 13 4 13 91]
def OX :=[qM 93 0,qO 94 (.mo (.t 93)),qF 95 0 94,qF 96 0 95,qA 97 9 96,qF 98 0 13,qW 99 13 2 98,qM 100 0,qO 101 (.mo (.t 100)),qF 102 0 101,qF 103 10 102,qL 104 1 103,qC 105 qY [97,99,104],qM 92 105,qZ 106 92 0,qZ 107 92 1,qO 14 (.dY [] [.aF,.aF]),qS 14 2 14 106,qm 15 107]
def OY :=[qm 108 15]
def OZ:List Abs.Op:=[]
def O0 :=[qF 110 1 14,qV 111 14 1 110,qM 112 0,qO 113 (.mo (.t 112)),qF 114 0 113,qF 115 10 114,qL 116 1 115,qE 117 116,qN 118 .sub 117 1,qJ 119 1 111 118,qL 120 1 119,qM 121 7,qJ 122 3 120 121,qA 123 3 122,qO 16 (.dY [] [zI,zI,zI]),qs 16 3 16 123]
def O1 :=[qM 125 0,qO 126 (.mo (.t 125)),qF 127 0 126,qF 128 0 127,qF 129 4 128,qL 130 1 129,qM 131 8,qF 132 0 16,qV 133 16 1 132,qF 134 1 16,qV 135 16 1 134,qO 136 (.lq [zI,zI,zI,zI] [(0,1,(.t 133)),(1,1,(.t 135))]),qC 137 nw [130,131,136],qM 124 137,qZ 138 124 0,qZ 139 124 1,qO 17 (.dY [] [zI,zI,zI,zI,zI,zI,zI,zI,zI,zI]),qS 17 10 17 138,qm 15 139]
def O2 :=[qm 140 15]
def O3:List Abs.Op:=[]
def O4 :=[qM 143 0,qO 144 (.mo (.t 143)),qF 145 0 144,qF 146 16 145,qL 147 1 146,qM 148 9,qJ 149 2 147 148,qA 150 2 149,qF 151 0 17,qW 152 17 4 151,qC 153 n9 [150,152],qM 142 153,qZ 154 142 0,qZ 155 142 1,qZ 156 142 2,qO 18 (.dY [] [zI,zI,zI,zI]),qS 18 4 18 154,qM 19 155,qm 15 156]
def O5 :=[qm 157 15]
def O6:List Abs.Op:=[]
def O7 :=[qm 159 11,qm 160 19,qo 161 (.ur 1 1 [zI] [(0,1,(.t 160))]),qy 162 1 8 159 161,qm 11 162]
def O8 :=[qn 163 .add 88 1,qm 88 163]
def j9:Abs.cH:=sR [0,7,8,9,10,11,86,87,88,89] aap (.seq (.ite (.t 89) .dQ (.exit 0)) (.seq (.bO 1 (sR [0,7,8,9,10,11,13,86,87,88] aaq (sR [0,7,8,9,10,11,14,15,86,87,88] OX (.seq (.iG [0,7,8,9,10,11,14,86,87,88] OY ⟨some 109,none,false,.call false (.c (.fn bU [] [])) [(.t 108)]⟩ OZ) (sR [0,7,8,9,10,11,16,86,87,88] O0 (sR [0,7,8,9,10,11,15,17,86,87,88] O1 (.seq (.iG [0,7,8,9,10,11,17,86,87,88] O2 ⟨some 141,none,false,.call false (.c (.fn bU [] [])) [(.t 140)]⟩ O3) (sR [0,7,8,9,10,11,15,19,86,87,88] O4 (.seq (.iG [0,7,8,9,10,11,19,86,87,88] O5 ⟨some 158,none,false,.call false (.c (.fn bU [] [])) [(.t 157)]⟩ O6) (.cg [0,7,8,9,10,11,86,87,88] O7)))))))))) (.cg [0,7,8,9,10,11,86,87,88] O8)))
def O9 :=[qm 164 11,qc 165 qX [164],qo 20 (.dY [] [zI,zI]),qs 20 2 20 165]
def Pa :=[qM 166 0,qM 167 0,qO 168 (.mo (.t 167)),qF 169 0 168,qF 170 17 169,qL 171 1 170,qM 172 0,qO 173 (.mo (.t 172)),qF 174 0 173,qF 175 10 174,qL 176 1 175,qE 177 176,qM 178 7,qW 179 20 2 20,qF 180 0 20,qV 181 20 1 180,qM 182 10,qK 183 .mul 181 182,qF 184 1 20,qV 185 20 1 184,qM 186 10,qK 187 .mul 185 186,qO 188 (.lq [zI,zI] [(0,1,(.t 183)),(1,1,(.t 187))]),qO 189 (.lq [zI,zI,zI,zI,zI,zI] [(0,1,(.t 177)),(1,1,(.t 178)),(2,2,(.t 179)),(4,2,(.t 188))]),qO 190 (.ur 1 6 [zI,zI,zI,zI,zI,zI] [(0,6,(.t 189))]),qO 191 (.app 6 48 (.t 171) (.t 190)),qo 192 (.mo (.t 166)),qf 193 0 192,qf 194 17 193,⟨none,none,false,.st [(0,6)] 1 (.t 194) (.t 191)⟩]
def kF:Abs.Fn:=⟨3,[],sR [0,2,6] aah (.seq (.iG [0,2,6] aai ⟨some 35,none,false,.call false (.c (.fn bd [] [])) [(.t 34),(.c (.int .i64 8))]⟩ aaj) (sR [0,6,7,8,9,10] aak (.seq (.iG [0,6,7,8,9,10] aal ⟨some 85,none,false,.call false (.c (.fn bd [] [])) [(.t 84),(.c (.int .i64 2))]⟩ aam) (sR [0,6,7,8,9,10,11] aan (sL [0,7,8,9,10,11,86,87,88] aao 0 [0,7,8,9,10,11,86,87,88] false j9 (.seq (.seq (.cz [11]) (.cg [0,7,10,20] O9)) (.cg [] Pa)))))))⟩
attribute [simp] aah aai aaj aak aal aam aan aao aap aaq OX OY OZ O0 O1 O2 O3 O4 O5 O6 O7 O8 O9 Pa
def apO :=[qi 4 0]
def apP :=[qm 6 0,qe 7 6,qi 8 0]
def apQ :=[qk 9 .lss 8 7]
def apR :=[qm 10 8,qm 5 10]
def apS :=[qm 11 1,qm 12 0,qm 13 5,qj 14 3 12 13,qa 15 3 14,qo 16 (.call false (.t 11) [(.t 15)])]
def apT :=[qm 17 5,qm 4 17]
def apU :=[qn 18 .add 8 1,qm 8 18]
def uj:Abs.cH:=sR [0,1,7,8,9] apQ (.seq (.ite (.t 9) .dQ (.exit 0)) (.seq (.bO 1 (sR [0,1,5,7,8] apR (sR [0,1,5,7,8,16] apS (.ite (.t 16) (sR [4] apT .ret) .dQ)))) (.cg [0,1,7,8] apU)))
def apV :=[qi 4 (-1)]
def pc:Abs.Fn:=⟨2,[.t 4],sR [0,1] apO (sL [0,1,7,8] apP 0 [0,1,7,8] false uj (sR [4] apV .ret))⟩
def aaM :=[qF 6 0 1,qF 7 0 6,qL 8 1 7,qF 9 0 1,qF 10 1 9,qL 11 1 10,qM 3 8,qm 4 11]
def aaN :=[qa 12 9 1,qc 13 de [12],qi 14 0]
def aaO :=[qk 15 .lss 14 13]
def aaP :=[qm 16 14,qm 5 16]
def aaQ :=[qm 17 5,qn 18 .add 17 1,qm 19 3,qk 20 .rem 18 19,qn 21 .neq 20 0,qm 22 21,qg 22 true (qm 23 0),qg 22 true (qm 24 5),qg 22 true (qm 25 5),qg 22 true (qn 26 .add 25 1),qg 22 true (qo 27 (.lq [zI,zI] [(0,1,(.t 24)),(1,1,(.t 26))])),qg 22 true (qo 28 (.call false (.t 23) [(.t 27)])),qg 22 true (qu 29 28),qp 30 22 29]
def aaR :=[qm 31 5,qm 32 3,qk 33 .quo 31 32,qm 34 4,qk 35 .rem 33 34,qm 36 4,qn 37 .sub 36 1,qk 38 .neq 35 37,qm 39 38,qg 39 true (qm 40 0),qg 39 true (qm 41 5),qg 39 true (qm 42 5),qg 39 true (qm 43 3),qg 39 true (qk 44 .add 42 43),qg 39 true (qo 45 (.lq [zI,zI] [(0,1,(.t 41)),(1,1,(.t 44))])),qg 39 true (qo 46 (.call false (.t 40) [(.t 45)])),qg 39 true (qu 47 46),qp 48 39 47]
def aaS :=[qm 49 5,qm 50 3,qm 51 4,qk 52 .mul 50 51,qk 53 .add 49 52,qa 54 9 1,qc 55 de [54],qk 56 .lss 53 55,qm 57 56,qg 57 true (qm 58 0),qg 57 true (qm 59 5),qg 57 true (qm 60 5),qg 57 true (qm 61 3),qg 57 true (qm 62 4),qg 57 true (qk 63 .mul 61 62),qg 57 true (qk 64 .add 60 63),qg 57 true (qo 65 (.lq [zI,zI] [(0,1,(.t 59)),(1,1,(.t 64))])),qg 57 true (qo 66 (.call false (.t 58) [(.t 65)])),qg 57 true (qu 67 66),qp 68 57 67]
def aaT :=[qn 69 .add 14 1,qm 14 69]
def mc:Abs.cH:=sR [0,1,3,4,13,14,15] aaO (.seq (.ite (.t 15) .dQ (.exit 0)) (.seq (.bO 1 (sR [0,1,3,4,5,13,14] aaP (sI [0,1,3,4,5,13,14,30] aaQ 30 .ret .dQ (sI [0,1,3,4,5,13,14,48] aaR 48 .ret .dQ (sR [0,1,3,4,13,14,68] aaS (.ite (.t 68) .ret .dQ)))))) (.cg [0,1,3,4,13,14] aaT)))
def oI:Abs.Fn:=⟨2,[],sR [0,1,3,4] aaM (sR [0,1,3,4,13,14] aaN (.bO 0 (.loop [0,1,3,4,13,14] false mc)))⟩
attribute [simp] aaM aaN aaO aaP aaQ aaR aaS aaT
def apW :=[qb 4 false]
def apX :=[qm 5 0,qm 6 1,qc 7 gg [5,6],qn 8 .geq 7 0,qm 4 8]
def mU:Abs.Fn:=⟨2,[.t 4],sR [0,1] apW (sR [4] apX .ret)⟩
def apY :=[qx 2 0,qb 3 false]
def apZ :=[ql 4 1 1,qa 5 3 2,qo 6 (.call false (.t 4) [(.t 5)]),qu 7 6,qm 3 7]
def sZ:Abs.Fn:=⟨2,[.t 3],sR [1,2] apY (sR [3] apZ .ret)⟩
def aaU :=[qm 2 0,qn 3 .eql 2 0,qm 4 0]
def aaV:List Abs.Op:=[]
def qQ:Abs.Fn:=⟨1,[],.iG [] aaU ⟨some 5,none,false,.call false (.c (.fn bd [] [])) [(.t 3),(.t 4)]⟩ aaV⟩
attribute [simp] aaU aaV
def aaW :=[qx 1 0,qi 2 0]
def aaX :=[qa 3 9 1,qc 4 jq [3],qu 5 4]
def aaY :=[qi 2 1]
def aaZ :=[qi 2 0]
def sA:Abs.Fn:=⟨1,[.t 2],.seq (.seq (.cz [0]) (.cg [1] aaW)) (sE [5] aaX 5 [2] aaY (sR [2] aaZ .ret))⟩
attribute [simp] aaW aaX aaY aaZ
def aa0 :=[qo 2 (.pq 3)]
def aa1 :=[qm 3 0,qo 4 (.RQ false false (.t 3))]
def aa2 :=[qo 2 (.pq 3)]
def aa3 :=[qo 5 (.Kw 0 3 [] []),qm 6 0,qy 7 3 24 5 6,qm 2 7]
def gq:Abs.Fn:=⟨1,[.t 2],sR [0] aa0 (sE [0,4] aa1 4 [2] aa2 (sR [2] aa3 .ret))⟩
attribute [simp] aa0 aa1 aa2 aa3
def ap0 :=[qb 4 false]
def ap1 :=[qm 5 0,qm 6 1,qc 7 dk [5,6],qn 8 .geq 7 0,qm 4 8]
def lr:Abs.Fn:=⟨2,[.t 4],sR [0,1] ap0 (sR [4] ap1 .ret)⟩
def abp :=[qx 2 0,qb 3 false]
def abq :=[qf 4 0 2,qf 5 0 4,ql 6 1 5,ql 7 1 1,qo 8 (.ri (.seq false) [(.t 6),(.t 7)]),qm 3 8]
def kV:Abs.Fn:=⟨2,[.t 3],sR [1,2] abp (sR [3] abq .ret)⟩
attribute [simp] abp abq
def abr :=[qx 2 0,qx 3 1,qo 4 (.mv (.c .aF)),qi 5 0]
def abt :=[qa 9 9 2,qa 10 2 3,qc 11 sQ [9,10],qm 8 11,qz 12 8 0,qz 13 8 1,qo 6 (.dY [] [zI,zI,zI,zI,.aF,zI,zI,zI,.aF,(.str []),.aF]),qs 6 11 6 12,qm 7 13]
def abu :=[qm 14 7,qn 15 .neq 14 0]
def abv :=[qm 16 7,qo 4 (.mv (.c .aF)),qm 5 16]
def abw :=[qw 17 6 11 6,qc 18 iN [17],qm 4 18,qi 5 0]
def tI:Abs.Fn:=⟨2,[.t 4,.t 5],.seq (.seq (.cz [0]) (.cg [2,3] abr)) (sR [6,7] abt (sE [6,7,15] abu 15 [4,5] abv (sR [4,5] abw .ret)))⟩
attribute [simp] abr abt abu abv abw
def abx :=[qx 2 0,qx 3 1,qi 4 0]
def aby :=[qa 5 4 2,qo 6 (.xT cJ [(.t 5)] []),qo 7 (.xT dL [] [(.t 2),(.t 3)]),qo 8 (.ur 2 1 [.iP,.iP] [(0,1,(.t 6)),(1,1,(.t 7))]),qc 9 nu [8],qm 4 9]
def lV:Abs.Fn:=⟨2,[.t 4],sR [2,3] abx (sR [4] aby .ret)⟩
attribute [simp] abx aby
def abz :=[qx 4 1]
def abA :=[qm 9 0,qo 10 (.mo (.t 9)),qf 11 0 10,qf 12 9 11,ql 13 1 12,qe 14 13,qi 15 0]
def abB :=[qk 16 .lss 15 14]
def abC :=[qm 17 15,qj 18 4 13 15,qa 19 4 18,qo 7 (.dY [] [(.str []),.aF,(.bool false),zI]),qm 6 17,qs 7 4 7 19]
def abD :=[qf 20 2 7,qv 21 7 1 20,qu 22 21]
def abE :=[qm 23 2,qf 24 0 7,qw 25 7 2 24,qo 26 (.call false (.t 23) [(.t 25)]),qm 8 26]
def abF :=[qm 27 8,qf 28 0 4,ql 29 1 28,qf 30 1 4,ql 31 1 30,qc 32 ct [27,29,31],qu 33 32]
def abG :=[qM 34 0,qO 35 (.mo (.t 34)),qF 36 0 35,qF 37 9 36,qL 38 1 37,qM 39 6,qM 40 0,qO 41 (.mo (.t 40)),qF 42 0 41,qF 43 9 42,qL 44 1 43,qM 45 6,qM 46 0,qO 47 (.mo (.t 46)),qF 48 20 47,qL 49 1 48,qJ 50 4 38 39,qF 51 2 50,⟨none,none,true,.st [] 1 (.t 51) (.c (.bool false))⟩,qj 52 4 44 45,qf 53 3 52,qt 1 53 49]
def abH :=[qM 54 0,qO 55 (.mo (.t 54)),qF 56 19 55,qL 57 1 56,qM 58 6,qM 59 0,qO 60 (.mo (.t 59)),qF 61 20 60,qL 62 1 61,qM 63 8,qF 64 0 4,qL 65 1 64,qF 66 1 4,qL 67 1 66,qO 68 (.lq [zI,zI,zI,zI] [(0,1,(.t 62)),(1,1,(.t 63)),(2,1,(.t 65)),(3,1,(.t 67))]),qj 69 4 57 58,qt 4 69 68]
def abI :=[qn 70 .add 15 1,qm 15 70]
def iW:Abs.cH:=sR [0,2,4,13,14,15,16] abB (.seq (.ite (.t 16) .dQ (.exit 0)) (.seq (.bO 1 (sR [0,2,4,6,7,13,14,15] abC (sI [0,2,4,6,7,13,14,15,22] abD 22 (.exit 1) .dQ (sR [0,2,4,6,8,13,14,15] abE (sR [0,2,4,6,8,13,14,15,33] abF (.ite (.t 33) (sR [0,2,4,6,8,13,14,15] abG (.cg [0,2,4,13,14,15] abH)) .dQ)))))) (.cg [0,2,4,13,14,15] abI)))
def l7:Abs.Fn:=⟨3,[],sR [0,2,4] abz (sR [0,2,4,13,14,15] abA (.bO 0 (.loop [0,2,4,13,14,15] false iW)))⟩
attribute [simp] abz abA abB abC abD abE abF abG abH abI
def abJ :=[qx 3 0,qi 4 0]
def abK :=[qL 8 1 1,qO 9 (.mo (.t 8)),qF 10 0 9,qF 11 0 10,qF 12 0 11,qA 13 4 12,qA 14 2 3,qA 15 6 2,qC 16 vt [13,14,15],qM 7 16,qZ 17 7 0,qZ 18 7 1,qM 5 17,qm 6 18]
def abL :=[qm 19 5,qm 4 19]
def mN:Abs.Fn:=⟨3,[.t 4],sR [1,2,3] abJ (sR [5] abK (sR [4] abL .ret))⟩
attribute [simp] abJ abK abL
def abM :=[qx 6 2,qo 8 (.mv (.c .aF)),qi 9 0]
def abN :=[qo 10 (.mv (.c (.fn km [] [])))]
def abO :=[qm 15 0,qe 16 15,qn 17 .gtr 16 500,qm 14 17]
def abP :=[qo 8 (.mv (.c .aF)),qi 9 3]
def abQ :=[qm 19 0,qm 20 10,qc 21 gV [19,20],qu 22 21,qm 23 22,qg 23 false (qm 24 1),qg 23 false (qe 25 24),qg 23 false (qm 26 0),qg 23 false (qe 27 26),qg 23 false (qk 28 .neq 25 27),qP 29 23 28,qm 30 29,qg 30 false (qm 31 1),qg 30 false (qo 32 (.call false (.c (.fn o5 [] [])) [(.t 31),(.c (.fn qh [] []))])),qg 30 false (qu 33 32),qP 34 30 33,qm 35 34,qg 35 false (qm 36 10),qg 35 false (qm 37 3),qg 35 false (qo 38 (.call false (.t 36) [(.t 37)])),qg 35 false (qu 39 38),qP 40 35 39,qm 18 40]
def abR :=[qo 8 (.mv (.c .aF)),qi 9 1]
def abS :=[qo 42 (.Bc 3 1 (.t 6) (.c (.int .u8 0))),ql 43 1 42,qn 44 .gtr 43 1000,qm 45 44,qg 45 false (qo 46 (.Bc 3 1 (.t 6) (.c (.int .u8 1)))),qg 45 false (ql 47 1 46),qg 45 false (qo 48 (.Bc 3 1 (.t 6) (.c (.int .u8 0)))),qg 45 false (ql 49 1 48),qg 45 false (qk 50 .gtr 47 49),qP 51 45 50,qm 52 51,qg 52 false (qo 53 (.Bc 3 1 (.t 6) (.c (.int .u8 2)))),qg 52 false (ql 54 1 53),qg 52 false (qo 55 (.Bc 3 1 (.t 6) (.c (.int .u8 1)))),qg 52 false (ql 56 1 55),qg 52 false (qk 57 .gtr 54 56),qP 58 52 57,qm 59 58,qg 59 false (qo 60 (.Bc 3 1 (.t 6) (.c (.int .u8 2)))),qg 59 false (ql 61 1 60),qg 59 false (qn 62 .lss 61 0),qP 63 59 62,qm 41 63]
def abT :=[qo 8 (.mv (.c .aF)),qi 9 1]
def abU :=[qm 64 0,qe 65 64,qo 66 (.mks 1 8 [zI] (.t 65) (.t 65)),qm 11 66]
def abV :=[qm 67 0,qe 68 67,qi 69 0]
def Pb :=[qk 70 .lss 69 68]
def Pc :=[qm 71 69,qj 72 1 67 69,ql 73 1 72,qm 12 71,qm 13 73]
def Pd :=[qm 74 11,qm 75 12,qm 76 13,qm 77 1,qm 78 12,qj 79 1 77 78,ql 80 1 79,qo 81 (.Bc 3 1 (.t 6) (.t 80)),ql 82 1 81,qk 83 .mul 76 82,qn 84 .quo 83 1000,qj 85 1 74 75,qt 1 85 84]
def Pe :=[qm 86 12,qn 87 .gtr 86 0]
def Pf :=[qM 88 11,qM 89 12,qM 90 11,qM 91 12,qJ 92 1 90 91,qL 93 1 92,qM 94 11,qM 95 12,qN 96 .sub 95 1,qJ 97 1 94 96,qL 98 1 97,qM 99 3,qK 100 .add 98 99,qO 101 (.mn (.t 93) (.t 100)),qj 102 1 88 89,qt 1 102 101]
def Pg :=[qn 103 .add 69 1,qm 69 103]
def vT:Abs.cH:=sR [1,3,6,11,67,68,69,70] Pb (.seq (.ite (.t 70) .dQ (.exit 1)) (.seq (.bO 2 (sR [1,3,6,11,12,13,67,68,69] Pc (sR [1,3,6,11,12,67,68,69] Pd (sR [1,3,6,11,12,67,68,69,87] Pe (.ite (.t 87) (.cg [1,3,6,11,67,68,69] Pf) .dQ))))) (.cg [1,3,6,11,67,68,69] Pg)))
def Ph :=[qm 104 11,qm 8 104,qi 9 0]
def sB:Abs.Fn:=⟨4,[.t 8,.t 9],sR [0,1,3,6] abM (sR [0,1,3,6,10] abN (.seq (.bO 0 (sR [0,1,3,6,10,14] abO (.ite (.t 14) (sR [8,9] abP .ret) (sR [0,1,3,6,18] abQ (.ite (.t 18) (sR [8,9] abR .ret) (sR [0,1,3,6,41] abS (.ite (.t 41) (sR [8,9] abT .ret) .dQ))))))) (sR [0,1,3,6,11] abU (sL [1,3,6,11,67,68,69] abV 1 [1,3,6,11,67,68,69] false vT (sR [8,9] Ph .ret)))))⟩
attribute [simp] abM abN abO abP abQ abR abS abT abU abV Pb Pc Pd Pe Pf Pg Ph
def abW :=[qo 2 (.mv (.c .aF))]
def abX :=[qm 3 0,qo 4 (.mo (.t 3)),qf 5 0 4,qf 6 9 5,ql 7 1 6,qo 8 (.call false (.c (.fn dN [] [])) [(.t 7),(.c (.fn eQ [] []))]),qm 2 8]
def nI:Abs.Fn:=⟨1,[.t 2],sR [0] abW (sR [2] abX .ret)⟩
attribute [simp] abW abX
def abY :=[qo 2 (.pq 1)]
def abZ :=[qm 3 0,qo 4 (.RQ false false (.t 3))]
def ab0 :=[qo 2 (.pq 1)]
def ab1 :=[qo 5 (.Kw 0 1 [] []),qm 6 0,qy 7 1 24 5 6,qm 2 7]
def jU:Abs.Fn:=⟨1,[.t 2],sR [0] abY (sE [0,4] abZ 4 [2] ab0 (sR [2] ab1 .ret))⟩
attribute [simp] abY abZ ab0 ab1
def ab2 :=[qx 4 0,qi 5 0]
def ab3 :=[qL 10 1 1,qO 11 (.mo (.t 10)),qF 12 0 11,qF 13 0 12,qA 14 9 13,qA 15 2 4,qO 16 (.ur 1 2 [(.str []),.aF] [(0,2,(.t 15))]),qL 17 1 1,qO 18 (.mo (.t 17)),qF 19 0 18,qF 20 10 19,qL 21 1 20,qA 22 5 2,qO 23 (.ur 1 5 [zI,(.int .u8 0),zI,zI,zI] [(0,5,(.t 22))]),qC 24 lS [14,16,21,23],qM 9 24,qZ 25 9 0,qZ 26 9 1,qZ 27 9 2,qM 6 25,qM 7 26,qm 8 27]
def ab4 :=[qm 29 7,qe 30 29,qn 31 .eql 30 0,qm 28 31]
def ab5 :=[ql 32 1 3,qo 33 (.dP 1 (.t 32) (.c (.int .i64 2))),ql 34 1 33,qm 5 34]
def ab6 :=[qm 36 7,qo 37 (.dP 3 (.t 36) (.c zI)),qf 38 2 37,ql 39 1 38,qn 40 .gtr 39 0,qm 35 40]
def ab7 :=[qL 41 1 3,qO 42 (.dP 1 (.t 41) (.c (.int .i64 3))),qL 43 1 42,qM 44 7,qO 45 (.dP 3 (.t 44) (.c zI)),qF 46 2 45,qL 47 1 46,qk 48 .add 43 47,qm 5 48]
def ab8 :=[qL 49 1 3,qO 50 (.dP 1 (.t 49) (.c (.int .i64 2))),qL 51 1 50,qM 52 7,qO 53 (.dP 3 (.t 52) (.c zI)),qF 54 2 53,qL 55 1 54,qk 56 .add 51 55,qm 5 56]
def l6:Abs.Fn:=⟨4,[.t 5],sR [1,2,3,4] ab2 (sR [3,7] ab3 (.seq (.bO 0 (sR [3,7,28] ab4 (.ite (.t 28) (sR [5] ab5 .ret) (sR [3,7,35] ab6 (.ite (.t 35) (sR [5] ab7 .ret) .dQ))))) (sR [5] ab8 .ret)))⟩
attribute [simp] ab2 ab3 ab4 ab5 ab6 ab7 ab8
def ab9 :=[qx 1 0,qi 2 0]
def aca :=[qa 3 2 1,qc 4 jl [3],qu 5 4]
def acb :=[qi 2 1]
def acd :=[qi 2 0]
def pM:Abs.Fn:=⟨1,[.t 2],sR [1] ab9 (sE [5] aca 5 [2] acb (sR [2] acd .ret))⟩
attribute [simp] ab9 aca acb acd
def ace :=[qo 2 (.dY [] [zI,zI])]
def acf :=[qm 3 0,qc 4 oi [3],qm 5 0,qc 6 oh [5],qo 7 (.lq [zI,zI] [(0,1,(.t 4)),(1,1,(.t 6))]),qs 2 2 2 7]
def tE:Abs.Fn:=⟨1,[.v 2 true 2],sR [0,2] ace (sR [2] acf .ret)⟩
attribute [simp] ace acf
def ap2 :=[qi 4 0]
def ap3 :=[qm 6 0,qe 7 6,qi 8 0]
def ap4 :=[qk 9 .lss 8 7]
def ap5 :=[qm 10 8,qm 5 10]
def ap6 :=[qm 11 1,qm 12 0,qm 13 5,qj 14 3 12 13,qa 15 3 14,qo 16 (.call false (.t 11) [(.t 15)])]
def ap7 :=[qm 17 5,qm 4 17]
def ap8 :=[qn 18 .add 8 1,qm 8 18]
def tO:Abs.cH:=sR [0,1,7,8,9] ap4 (.seq (.ite (.t 9) .dQ (.exit 0)) (.seq (.bO 1 (sR [0,1,5,7,8] ap5 (sR [0,1,5,7,8,16] ap6 (.ite (.t 16) (sR [4] ap7 .ret) .dQ)))) (.cg [0,1,7,8] ap8)))
def ap9 :=[qi 4 (-1)]
def ow:Abs.Fn:=⟨2,[.t 4],sR [0,1] ap2 (sL [0,1,7,8] ap3 0 [0,1,7,8] false tO (sR [4] ap9 .ret))⟩
def acg :=[qi 2 0]
def ach :=[qa 3 4 0,ql 4 1 1,qc 5 ir [3,4],qm 2 5]
def j7:Abs.Fn:=⟨2,[.t 2],sR [0,1] acg (sR [2] ach .ret)⟩
attribute [simp] acg ach
def aci :=[qx 2 0,qi 4 0]
def acj :=[qm 5 1,qe 6 5,qn 7 .gtr 6 12]
def ack :=[qi 4 3]
def acm :=[qm 8 1,qo 9 (.xT du [] [(.t 2)]),qc 10 fm [8,9],qm 4 10]
def kR:Abs.Fn:=⟨2,[.t 4],sR [1,2] aci (sE [1,2,7] acj 7 [4] ack (sR [4] acm .ret))⟩
attribute [simp] aci acj ack acm
def acn :=[qb 2 false]
def aco :=[qm 3 0,qo 4 (.call false (.c (.fn cm [] [])) [(.t 3),(.c zI),(.c (.int .i64 1000000000))]),qm 2 4]
def pZ:Abs.Fn:=⟨1,[.t 2],sR [0] acn (sR [2] aco .ret)⟩
attribute [simp] acn aco
def aqa :=[qx 3 1,qb 4 false]
def aqb :=[qm 5 0,qo 6 (.xT re [] [(.t 3)]),qc 7 ll [5,6],qu 8 7,qm 4 8]
def wV:Abs.Fn:=⟨2,[.t 4],sR [0,3] aqa (sR [4] aqb .ret)⟩
def aqc :=[qb 2 false]
def aqd :=[qm 3 0,qo 4 (.bin .leq (.t 3) (.c (.int .u8 2))),qm 2 4]
def xL:Abs.Fn:=⟨1,[.t 2],sR [0] aqc (sR [2] aqd .ret)⟩
def acp :=[qo 4 (.pq 4)]
def acq :=[qm 7 0,qe 8 7,qi 9 0]
def acr :=[qk 10 .lss 9 8]
def acs :=[qj 11 4 7 9,qa 12 4 11,qo 6 (.dY [] [(.str []),.aF,(.bool false),zI]),qs 6 4 6 12]
def acu :=[qm 13 1,qw 14 6 4 6,qo 15 (.call false (.t 13) [(.t 14)])]
def acv :=[qm 16 4,qw 17 6 4 6,qo 18 (.ur 1 4 [(.str []),.aF,(.bool false),zI] [(0,4,(.t 17))]),qy 19 4 56 16 18,qm 4 19]
def acw :=[qn 20 .add 9 1,qm 9 20]
def eF:Abs.cH:=sR [1,4,7,8,9,10] acr (.seq (.ite (.t 10) .dQ (.exit 0)) (.seq (.bO 1 (sR [1,4,6,7,8,9] acs (sR [1,4,6,7,8,9,15] acu (.ite (.t 15) (.cg [1,4,7,8,9] acv) .dQ)))) (.cg [1,4,7,8,9] acw)))
def acx :=[qm 21 4,qm 4 21]
def fH:Abs.Fn:=⟨2,[.t 4],sR [0,1,4] acp (sL [1,4,7,8,9] acq 0 [1,4,7,8,9] false eF (sR [4] acx .ret))⟩
attribute [simp] acp acq acr acs acu acv acw acx
def acy :=[qx 1 0,qb 2 false]
def acz :=[qf 3 2 1,ql 4 1 3,qm 2 4]
def l4:Abs.Fn:=⟨1,[.t 2],sR [1] acy (sR [2] acz .ret)⟩
attribute [simp] acy acz
def acA :=[qi 2 0]
def acB :=[qm 5 0,qe 6 5,qn 7 .lss 6 1]
def acC :=[qo 8 (.mki 9 (.c (.str [115,108,105,99,101,115,46,77,105,110,58,32,101,109,112,116,121,32,108,105,115,116])))]
def acD:List Abs.Op:=[]
def acE :=[qm 9 0,qo 10 (.dP 1 (.t 9) (.c zI)),ql 11 1 10,qm 3 11]
def acF :=[qi 4 1]
def acG :=[qm 12 4,qm 13 0,qe 14 13,qk 15 .lss 12 14]
def acH :=[qm 18 3,qm 19 0,qm 20 4,qj 21 1 19 20,ql 22 1 21,qo 23 (.mn (.t 18) (.t 22)),qm 3 23]
def acI :=[qm 16 4,qn 17 .add 16 1,qm 4 17]
def nS:Abs.cH:=sI [0,3,4,15] acG 15 .dQ (.exit 0) (.seq (.bO 1 (.cg [0,3,4] acH)) (.cg [0,3,4] acI))
def Pj :=[qm 24 3,qm 2 24]
def rE:Abs.Fn:=⟨1,[.t 2],sR [0] acA (sI [0,7] acB 7 (.iG [0] acC ⟨none,none,false,.LW (.t 8)⟩ acD) .dQ (sR [0,3] acE (sL [0,3,4] acF 0 [0,3,4] false nS (sR [2] Pj .ret))))⟩
attribute [simp] acA acB acC acD acE acF acG acH acI Pj
def acJ :=[qi 2 0]
def acK :=[qm 5 0,qe 6 5,qn 7 .lss 6 1]
def acL :=[qo 8 (.mki 9 (.c (.str [115,108,105,99,101,115,46,77,97,120,58,32,101,109,112,116,121,32,108,105,115,116])))]
def acM:List Abs.Op:=[]
def acN :=[qm 9 0,qo 10 (.dP 1 (.t 9) (.c zI)),ql 11 1 10,qm 3 11]
def acO :=[qi 4 1]
def acP :=[qm 12 4,qm 13 0,qe 14 13,qk 15 .lss 12 14]
def acQ :=[qm 18 3,qm 19 0,qm 20 4,qj 21 1 19 20,ql 22 1 21,qo 23 (.mx (.t 18) (.t 22)),qm 3 23]
def acR :=[qm 16 4,qn 17 .add 16 1,qm 4 17]
def nR:Abs.cH:=sI [0,3,4,15] acP 15 .dQ (.exit 0) (.seq (.bO 1 (.cg [0,3,4] acQ)) (.cg [0,3,4] acR))
def Pk :=[qm 24 3,qm 2 24]
def rD:Abs.Fn:=⟨1,[.t 2],sR [0] acJ (sI [0,7] acK 7 (.iG [0] acL ⟨none,none,false,.LW (.t 8)⟩ acM) .dQ (sR [0,3] acN (sL [0,3,4] acO 0 [0,3,4] false nR (sR [2] Pk .ret))))⟩
attribute [simp] acJ acK acL acM acN acO acP acQ acR Pk
def acS :=[qi 4 0]
def acT :=[qo 10 (.mp (.make) []),qm 5 10]
def acU :=[qm 11 0,qe 12 11,qi 13 0]
def acV :=[qk 14 .lss 13 12]
def acW :=[qj 15 6 11 13,qa 16 6 15,qo 7 (.dY [] [(.str []),zI,.aF,.aF,zI,zI]),qs 7 6 7 16]
def acX :=[qm 18 1,qw 19 7 6 7,qo 20 (.call false (.t 18) [(.t 19)]),qm 17 20,qz 21 17 0,qz 22 17 1,qm 8 21,qm 9 22]
def acY :=[qm 23 9,qn 24 .neq 23 0]
def acZ :=[qm 25 9,qm 4 25]
def ac0 :=[qm 26 5,qm 27 8,qo 28 (.mp (.get none (.bool false) false) [(.t 26),(.t 27)])]
def ac1 :=[qi 4 6]
def Pl :=[qm 29 5,qm 30 8,⟨none,none,false,.mp (.put none) [(.t 29),(.t 30),(.c (.bool true))]⟩]
def Pm :=[qn 31 .add 13 1,qm 13 31]
def fG:Abs.cH:=sR [1,5,11,12,13,14] acV (.seq (.ite (.t 14) .dQ (.exit 0)) (.seq (.bO 1 (sR [1,5,7,11,12,13] acW (sR [1,5,8,9,11,12,13] acX (sE [1,5,8,9,11,12,13,24] acY 24 [4] acZ (sE [1,5,8,11,12,13,28] ac0 28 [4] ac1 (.cg [1,5,11,12,13] Pl)))))) (.cg [1,5,11,12,13] Pm)))
def Pn :=[qi 4 0]
def ie:Abs.Fn:=⟨2,[.t 4],sR [0,1] acS (sR [0,1,5] acT (sL [1,5,11,12,13] acU 0 [1,5,11,12,13] false fG (sR [4] Pn .ret)))⟩
attribute [simp] acS acT acU acV acW acX acY acZ ac0 ac1 Pl Pm Pn
def ac2 :=[qx 2 0,qo 3 (.mv (.c (.str []))),qi 4 0]
def ac3 :=[qF 5 0 2,qL 6 1 5,qA 7 4 1,qA 8 6 2,qC 9 gj [7,8],qm 3 6,qm 4 9]
def jF:Abs.Fn:=⟨2,[.t 3,.t 4],sR [1,2] ac2 (sR [3,4] ac3 .ret)⟩
attribute [simp] ac2 ac3
def aqe :=[qb 4 false]
def aqf :=[qm 5 0,qm 6 1,qc 7 nv [5,6],qn 8 .geq 7 0,qm 4 8]
def pW:Abs.Fn:=⟨2,[.t 4],sR [0,1] aqe (sR [4] aqf .ret)⟩
def aqg :=[qb 3 false]
def aqh :=[ql 4 1 1,qm 5 0,qo 6 (.call false (.t 4) [(.t 5)]),qu 7 6,qm 3 7]
def vp:Abs.Fn:=⟨2,[.t 3],sR [0,1] aqg (sR [3] aqh .ret)⟩
def aqi :=[qi 4 0]
def aqj :=[qm 6 0,qe 7 6,qi 8 0]
def aqk :=[qk 9 .lss 8 7]
def aql :=[qm 10 8,qm 5 10]
def aqm :=[qm 11 1,qm 12 0,qm 13 5,qj 14 1 12 13,ql 15 1 14,qo 16 (.call false (.t 11) [(.t 15)])]
def aqn :=[qm 17 5,qm 4 17]
def aqo :=[qn 18 .add 8 1,qm 8 18]
def wo:Abs.cH:=sR [0,1,7,8,9] aqk (.seq (.ite (.t 9) .dQ (.exit 0)) (.seq (.bO 1 (sR [0,1,5,7,8] aql (sR [0,1,5,7,8,16] aqm (.ite (.t 16) (sR [4] aqn .ret) .dQ)))) (.cg [0,1,7,8] aqo)))
def aqp :=[qi 4 (-1)]
def sc:Abs.Fn:=⟨2,[.t 4],sR [0,1] aqi (sL [0,1,7,8] aqj 0 [0,1,7,8] false wo (sR [4] aqp .ret))⟩
def tF3:List (Nat×uh×Abs.Fn):=[A4 [] fu jS [] [0,6] [6] [(1008,[(1,4)]),(4019,[(0,4)]),(7012,[(0,2)])] [] [(5,[6,1000006])] [] [] [(0,some 7),(6,some 1)],A4 [] fZ kG [] [0,8,13,14] [13,14] [] [14005] [(15,[11])] [] [] [(1,some 3),(2,some 7),(3,some 10),(9,some 2),(19,some 1)],A4 [] fW kD [] [7] [] [] [] [] [] [] [(2,some 3),(3,some 4),(6,some 1)],A4 [] ga kH [] [0,6] [6] [(1005,[(1,2)]),(5012,[(0,2)]),(7012,[(0,2)])] [] [(6,[6,1000006]),(6,[6])] [] [] [(0,some 7),(6,some 2)],A4 [] fY kF [] [0,11,13,14,16,17,18,20] [13,14,16,17,18,20] [(18029,[(0,6)])] [] [(17,[11])] [] [] [(1,some 12),(3,some 37),(9,some 1),(12,some 1),(14,some 1)],A0 gB pc,A0 jm oI,A0 eZ mU,A0 ki sZ,A4 [] bU qQ [] [] [] [] [] [] [] [] [(0,some 3)],A4 [] mG sA [] [] [] [] [] [(0,[0])] [] [] [],A2 [] eJ gq [] [2,5],A0 dT lr,A0 ek kV,A4 [] tS tI [] [6] [6] [] [] [(0,[0])] [] [] [],A0 jd lV,A3 [] gn l7 [] [7] [7] [] [],A0 fq mN,A0 pn sB,A0 fV nI,A2 [] gT jU [] [2,5],A0 eR l6,A0 nc pM,A3 [] qX tE [] [2] [2] [] [],A0 gg ow,A0 dL j7,A0 ir kR,A0 km pZ,A0 o5 wV,A0 qh xL,A3 [] dN fH [] [4,6] [6] [] [],A0 eQ l4,A4 [] oi rE [] [] [] [] [] [] [] [] [(2,some 1)],A4 [] oh rD [] [] [] [] [] [] [] [] [(2,some 1)],A3 [] fm ie [] [7] [7] [] [],A0 du jF,A0 ll pW,A0 re vp,A0 nv sc]
theorem kF3:(tF3.map fun p=>chk p)=tF3.map fun p=>some p.2.2:=by kernel_rfl
end Go.Proofs.YtfgljaglidhjiaaGreatDoor
