import Derived.Test.YtfgljaglidhjiaaGreatDoorIds
set_option linter.all false
set_option maxRecDepth 100000
namespace Go.Proofs.YtfgljaglidhjiaaGreatDoor
open Go Go.Abs
def Zs :=[qm 9 2,qo 10 (.me (.s2a 3 1) [(.t 9)]),qa 11 3 10,qo 12 (.call false (.c (.fn pG [] [])) [(.c .aG),(.c .aG),(.t 11),(.c zI)]),qm 8 12,qz 13 8 0,qz 14 8 1,qm 6 13,qm 7 14]
def Zt :=[qm 15 7]
def Zu:List Abs.Op:=[]
def Zv :=[qm 17 0,qm 18 2,qo 19 (.me (.s2a 3 1) [(.t 18)]),qa 20 3 19,qo 21 (.mG (.t 17)),qf 22 0 21,qf 23 13 22,qt 3 23 20]
def kO:Abs.Fn:=⟨3,[],sR [0,2,7] Zs (.seq (.iO [0,2] Zt ⟨some 16,none,false,.call false (.c (.fn bU [] [])) [(.t 15)]⟩ Zu) (.cc [] Zv))⟩
attribute [simp] Zs Zt Zu Zv
def Zw :=[qm 10 0,qo 11 (.mG (.t 10)),qf 12 0 11,qf 13 12 12,ql 14 1 13,qe 15 14,qn 16 .lss 15 200]
def Zx:List Abs.Op:=[]
def Zy :=[qm 18 0,qo 19 (.mG (.t 18)),qf 20 0 19,qf 21 10 20,ql 22 1 21,qe 23 22,qo 24 (.lh [zI,.aG] [(0,1,(.t 23))]),qo 6 (.ek [] [zI,.aG]),⟨none,none,false,.Er 6 [(1,4)] 2 6 (.t 24)⟩]
def Zz :=[qm 25 2,qe 26 25,qn 27 .gtr 26 0]
def ZA :=[qF 30 1 6,qV 31 6 1 30,qM 32 2,qO 33 (.dT 1 (.t 32) (.c zI)),qL 34 1 33,qM 35 2,qO 36 (.dT 1 (.t 35) (.c (.int .i64 1))),qL 37 1 36,qM 38 2,qO 39 (.dT 1 (.t 38) (.c (.int .i64 2))),qL 40 1 39,qO 41 (.lh [zI,zI,zI] [(0,1,(.t 34)),(1,1,(.t 37)),(2,1,(.t 40))]),qM 42 2,qO 43 (.dT 1 (.t 42) (.c (.int .i64 3))),qL 44 1 43,qO 45 (.lh [zI,zI,zI,zI] [(0,3,(.t 41)),(3,1,(.t 44))]),qO 46 (.tH 1 4 [zI,zI,zI,zI] [(0,4,(.t 45))]),qy 47 4 32 31 46,qf 48 1 6,⟨none,none,false,.Er 6 [(0,4)] 1 48 (.t 47)⟩]
def ZB :=[qm 28 2,qo 29 (.Jc 1 (.t 28) (some (.c (.int .i64 4))) none none),qm 2 29]
def kn:Abs.cH:=sI [0,2,6,27] Zz 27 .dJ (.exit 0) (.seq (.bO 1 (.cc [0,2,6] ZA)) (.cc [0,2,6] ZB))
def ZC :=[qw 50 6 2 6,qo 51 (.tH 1 2 [zI,.aG] [(0,2,(.t 50))]),qo 52 (.call false (.c (.fn iK [] [])) [(.c .aG),(.t 51),(.c zI)]),qm 49 52,qz 53 49 0,qz 54 49 1,qz 55 49 2,qm 7 53,qm 8 54,qm 9 55]
def ZD :=[qm 56 9]
def ZE:List Abs.Op:=[]
def O4 :=[qM 58 0,qM 59 0,qO 60 (.mG (.t 59)),qF 61 0 60,qF 62 12 61,qL 63 1 62,qW 64 6 2 6,qO 65 (.tH 1 2 [zI,.aG] [(0,2,(.t 64))]),qO 66 (.app 2 32 (.t 63) (.t 65)),qo 67 (.mG (.t 58)),qf 68 0 67,qf 69 12 68,⟨none,none,false,.st [(0,2)] 1 (.t 69) (.t 66)⟩]
def j6:Abs.Fn:=⟨3,[],.seq (.iO [0,2] Zw ⟨some 17,none,false,.call false (.c (.fn bd [] [])) [(.t 16),(.c (.int .i64 3))]⟩ Zx) (sR [0,2,6] Zy (.seq (.bO 0 (.loop [0,2,6] false kn)) (.seq (.seq (.cr [6,1000006]) (.cc [0,6,9] ZC)) (.seq (.iO [0,6] ZD ⟨some 57,none,false,.call false (.c (.fn bU [] [])) [(.t 56)]⟩ ZE) (.cc [] O4)))))⟩
attribute [simp] Zw Zx Zy Zz ZA ZB ZC ZD ZE O4
def ZF :=[qm 16 0,qc 17 gb [16],qm 6 17]
def ZG :=[qm 18 6,qe 19 18,qn 20 .gtr 19 0]
def ZH:List Abs.Op:=[]
def ZI :=[qm 22 0,qo 23 (.mG (.t 22)),qf 24 0 23,qf 25 10 24,ql 26 1 25,qe 27 26,qn 28 .lss 27 200]
def ZJ:List Abs.Op:=[]
def ZK :=[qm 30 2,qe 31 30,qm 32 0,qo 33 (.mG (.t 32)),qf 34 0 33,qf 35 0 34,qf 36 8 35,ql 37 1 36,qe 38 37,qk 39 .eql 31 38]
def ZL:List Abs.Op:=[]
def ZM :=[qM 41 0,qM 42 0,qC 43 gv [42],qO 44 (.mG (.t 41)),qF 45 0 44,qF 46 13 45,qo 47 (.Bw 3 1 (.t 46) (.t 43)),ql 48 1 47,qm 7 48]
def ZN :=[qo 8 (.pI 1)]
def ZO :=[qm 49 2,qe 50 49,qi 51 0]
def O5 :=[qk 52 .lss 51 50]
def O6 :=[qj 53 1 49 51,ql 54 1 53,qm 10 54]
def O7 :=[qm 55 10,qo 56 (.call false (.c (.fn cA [] [])) [(.t 55),(.c (.int .i64 (-100000))),(.c (.int .i64 100000))])]
def O8:List Abs.Op:=[]
def O9 :=[qm 58 10,qn 59 .lss 58 0]
def Pa :=[qm 60 10,qo 61 (.un .neg (.t 60)),qm 62 7,qk 63 .mul 61 62,qn 64 .quo 63 1000,qo 65 (.un .neg (.t 64)),qm 10 65]
def Pb :=[qm 66 8,qm 67 10,qo 68 (.tH 1 1 [zI] [(0,1,(.t 67))]),qy 69 1 8 66 68,qm 8 69]
def Pc :=[qn 70 .add 51 1,qm 51 70]
def ku:Abs.cH:=sR [0,6,7,8,49,50,51,52] O5 (.seq (.ite (.t 52) .dJ (.exit 0)) (.seq (.bO 1 (sR [0,6,7,8,10,49,50,51] O6 (.seq (.iO [0,6,7,8,10,49,50,51] O7 ⟨some 57,none,false,.call false (.c (.fn bd [] [])) [(.t 56),(.c (.int .i64 2))]⟩ O8) (sI [0,6,7,8,10,49,50,51,59] O9 59 (.cc [0,6,7,8,10,49,50,51] Pa) .dJ (.cc [0,6,7,8,49,50,51] Pb))))) (.cc [0,6,7,8,49,50,51] Pc)))
def Pd :=[qm 71 0,qo 72 (.mG (.t 71)),qf 73 0 72,qf 74 10 73,ql 75 1 74,qo 76 (.call true (.c (.fn gX [] [])) [(.t 75)]),qm 77 8,qo 78 (.tH 1 1 [.aG] [(0,1,(.t 77))]),qy 79 1 24 76 78,qm 11 79]
def Pe :=[qm 80 6,qe 81 80,qi 82 0]
def Pf :=[qk 83 .lss 82 81]
def Pg :=[qj 84 4 80 82,qa 85 4 84,qo 13 (.ek [] [(.str []),.aG,(.bool false),zI]),qs 13 4 13 85]
def Ph :=[qM 87 0,qO 88 (.mG (.t 87)),qF 89 0 88,qF 90 0 89,qA 91 9 90,qF 92 0 13,qW 93 13 2 92,qM 94 11,qC 95 tw [91,93,94],qM 86 95,qZ 96 86 0,qZ 97 86 1,qO 14 (.ek [] [.aG,.aG]),qS 14 2 14 96,qm 15 97]
def Pj :=[qm 98 15]
def Pk:List Abs.Op:=[]
def Pl :=[qn 100 .add 82 1,qm 82 100]
def kz:Abs.cH:=sR [0,11,80,81,82,83] Pf (.seq (.ite (.t 83) .dJ (.exit 2)) (.seq (.bO 3 (sR [0,11,13,80,81,82] Pg (sR [0,11,15,80,81,82] Ph (.iO [0,11,80,81,82] Pj ⟨some 99,none,false,.call false (.c (.fn bU [] [])) [(.t 98)]⟩ Pk)))) (.cc [0,11,80,81,82] Pl)))
def Pm :=[qm 101 0,qm 102 11,qo 103 (.mG (.t 101)),qf 104 0 103,qf 105 10 104,qt 1 105 102]
def kS:Abs.Fn:=⟨3,[],sR [0,2,6] ZF (.seq (.iO [0,2,6] ZG ⟨some 21,none,false,.call false (.c (.fn bd [] [])) [(.t 20),(.c (.int .i64 8))]⟩ ZH) (.seq (.iO [0,2,6] ZI ⟨some 29,none,false,.call false (.c (.fn bd [] [])) [(.t 28),(.c (.int .i64 3))]⟩ ZJ) (.seq (.iO [0,2,6] ZK ⟨some 40,none,false,.call false (.c (.fn bd [] [])) [(.t 39),(.c (.int .i64 1))]⟩ ZL) (sR [0,2,6,7] ZM (sR [0,2,6,7,8] ZN (sL [0,6,7,8,49,50,51] ZO 0 [0,6,7,8,49,50,51] false ku (sR [0,6,11] Pd (.seq (.seq (.seq (.cr [11]) (.cc [0,11,80,81,82] Pe)) (.bO 2 (.loop [0,11,80,81,82] false kz))) (.cc [] Pm)))))))))⟩
attribute [simp] ZF ZG ZH ZI ZJ ZK ZL ZM ZN ZO O5 O6 O7 O8 O9 Pa Pb Pc Pd Pe Pf Pg Ph Pj Pk Pl Pm
def ZP :=[qx 3 0,qx 5 2]
def ZQ :=[ql 11 1 3,qc 12 gb [11],qm 6 12]
def ZR :=[qm 13 6,qe 14 13,qn 15 .gtr 14 0]
def ZS:List Abs.Op:=[]
def ZT :=[ql 17 1 5,qo 18 (.dT 1 (.t 17) (.c zI)),ql 19 1 18,qo 20 (.call false (.c (.fn cA [] [])) [(.t 19),(.c zI),(.c (.int .i64 255))])]
def ZU:List Abs.Op:=[]
def ZV :=[qL 22 1 3,qO 23 (.mG (.t 22)),qF 24 0 23,qF 25 10 24,qL 26 1 25,qE 27 26,qL 28 1 5,qO 29 (.dT 1 (.t 28) (.c zI)),qL 30 1 29,qO 31 (.JG .u8 (.t 30)),qL 32 1 5,qO 33 (.dT 1 (.t 32) (.c (.int .i64 1))),qL 34 1 33,qL 35 1 5,qO 36 (.dT 1 (.t 35) (.c (.int .i64 2))),qL 37 1 36,qL 38 1 5,qO 39 (.dT 1 (.t 38) (.c (.int .i64 3))),qL 40 1 39,qO 41 (.lh [zI,zI] [(0,1,(.t 37)),(1,1,(.t 40))]),qO 42 (.lh [zI,(.int .u8 0),zI,zI,zI] [(0,1,(.t 27)),(1,1,(.t 31)),(2,1,(.t 34)),(3,2,(.t 41))]),qO 7 (.H6 [] [zI,(.int .u8 0),zI,zI,zI]),qt 5 7 42]
def ZW :=[qL 44 1 3,qO 45 (.mG (.t 44)),qF 46 0 45,qF 47 0 46,qA 48 9 47,qM 49 6,qO 50 (.dT 4 (.t 49) (.c zI)),qF 51 0 50,qA 52 2 51,qO 53 (.tH 1 2 [(.str []),.aG] [(0,2,(.t 52))]),qL 54 1 3,qO 55 (.mG (.t 54)),qF 56 0 55,qF 57 10 56,qL 58 1 57,qA 59 5 7,qO 60 (.tH 1 5 [zI,(.int .u8 0),zI,zI,zI] [(0,5,(.t 59))]),qC 61 kc [48,53,58,60],qM 43 61,qZ 62 43 0,qZ 63 43 1,qZ 64 43 2,qM 8 62,qM 9 63,qm 10 64]
def ZX :=[qm 65 10]
def ZY:List Abs.Op:=[]
def Pn :=[qL 67 1 3,qL 68 1 5,qO 69 (.dT 1 (.t 68) (.c (.int .i64 2))),qL 70 1 69,qL 71 1 5,qO 72 (.dT 1 (.t 71) (.c (.int .i64 3))),qL 73 1 72,qO 74 (.lh [zI,zI] [(0,1,(.t 70)),(1,1,(.t 73))]),qO 75 (.yq eT [] [(.t 3),(.t 7),(.t 5)]),qc 76 gw [67,74,75]]
def kP:Abs.Fn:=⟨3,[],sR [3,5] ZP (sR [3,5,6] ZQ (.seq (.iO [3,5,6] ZR ⟨some 16,none,false,.call false (.c (.fn bd [] [])) [(.t 15),(.c (.int .i64 8))]⟩ ZS) (.seq (.iO [3,5,6] ZT ⟨some 21,none,false,.call false (.c (.fn bd [] [])) [(.t 20),(.c (.int .i64 1))]⟩ ZU) (sR [3,5,6,7] ZV (sR [3,5,7,10] ZW (.seq (.iO [3,5,7] ZX ⟨some 66,none,false,.call false (.c (.fn bU [] [])) [(.t 65)]⟩ ZY) (.cc [] Pn)))))))⟩
attribute [simp] ZP ZQ ZR ZS ZT ZU ZV ZW ZX ZY Pn
def ZZ :=[qm 7 0,qo 8 (.mG (.t 7)),qf 9 0 8,qf 10 16 9,ql 11 1 10,qe 12 11,qn 13 .lss 12 10]
def Z0:List Abs.Op:=[]
def Z1 :=[qm 15 2,qo 16 (.dT 1 (.t 15) (.c zI)),ql 17 1 16,qo 18 (.lh [zI,.aG] [(0,1,(.t 17))]),qo 6 (.ek [] [zI,.aG]),⟨none,none,false,.Er 6 [(1,2)] 2 6 (.t 18)⟩]
def Z2 :=[qm 19 2,qo 20 (.Jc 1 (.t 19) (some (.c (.int .i64 1))) none none),qm 2 20]
def Z3 :=[qm 21 2,qe 22 21,qn 23 .gtr 22 0]
def Z4 :=[qF 26 1 6,qV 27 6 1 26,qM 28 2,qO 29 (.dT 1 (.t 28) (.c zI)),qL 30 1 29,qM 31 2,qO 32 (.dT 1 (.t 31) (.c (.int .i64 1))),qL 33 1 32,qO 34 (.lh [zI,zI] [(0,1,(.t 30)),(1,1,(.t 33))]),qO 35 (.tH 1 2 [zI,zI] [(0,2,(.t 34))]),qy 36 2 16 27 35,qf 37 1 6,⟨none,none,false,.Er 6 [(0,2)] 1 37 (.t 36)⟩]
def Z5 :=[qm 24 2,qo 25 (.Jc 1 (.t 24) (some (.c (.int .i64 2))) none none),qm 2 25]
def lu:Abs.cH:=sI [0,2,6,23] Z3 23 .dJ (.exit 0) (.seq (.bO 1 (.cc [0,2,6] Z4)) (.cc [0,2,6] Z5))
def Z6 :=[qw 38 6 2 6,qc 39 nv [38]]
def Z7:List Abs.Op:=[]
def Po :=[qM 41 0,qM 42 0,qO 43 (.mG (.t 42)),qF 44 0 43,qF 45 16 44,qL 46 1 45,qW 47 6 2 6,qO 48 (.tH 1 2 [zI,.aG] [(0,2,(.t 47))]),qO 49 (.app 2 32 (.t 46) (.t 48)),qo 50 (.mG (.t 41)),qf 51 0 50,qf 52 16 51,⟨none,none,false,.st [(0,2)] 1 (.t 52) (.t 49)⟩]
def kT:Abs.Fn:=⟨3,[],.seq (.iO [0,2] ZZ ⟨some 14,none,false,.call false (.c (.fn bd [] [])) [(.t 13),(.c (.int .i64 3))]⟩ Z0) (sR [0,2,6] Z1 (sL [0,2,6] Z2 0 [0,2,6] false lu (.seq (.seq (.cr [6,1000006]) (.iO [0,6] Z6 ⟨some 40,none,false,.call false (.c (.fn bU [] [])) [(.t 39)]⟩ Z7)) (.cc [] Po))))⟩
attribute [simp] ZZ Z0 Z1 Z2 Z3 Z4 Z5 Z6 Z7 Po
def aaL :=[qm 21 0,qc 22 gb [21],qm 6 22]
def aaM :=[qm 23 6,qe 24 23,qn 25 .gtr 24 0,qm 26 25,qg 26 true (qm 27 0),qg 26 true (qo 28 (.mG (.t 27))),qg 26 true (qf 29 0 28),qg 26 true (qf 30 10 29),qg 26 true (ql 31 1 30),qg 26 true (qe 32 31),qg 26 true (qn 33 .gtr 32 0),qp 34 26 33]
def aaN:List Abs.Op:=[]
def aaO :=[qM 36 2,qO 37 (.dT 1 (.t 36) (.c zI)),qL 38 1 37,qM 39 2,qO 40 (.dT 1 (.t 39) (.c (.int .i64 1))),qL 41 1 40,qM 42 2,qO 43 (.dT 1 (.t 42) (.c (.int .i64 2))),qL 44 1 43,qM 45 2,qO 46 (.dT 1 (.t 45) (.c (.int .i64 3))),qL 47 1 46,qM 7 38,qM 8 41,qM 9 44,qm 10 47]
def aaP :=[qm 48 7,qm 49 0,qo 50 (.mG (.t 49)),qf 51 0 50,qf 52 0 51,qf 53 8 52,ql 54 1 53,qe 55 54,qn 56 .sub 55 1,qo 57 (.call false (.c (.fn cA [] [])) [(.t 48),(.c zI),(.t 56)]),qm 58 57,qg 58 true (qm 59 8),qg 58 true (qm 60 0),qg 58 true (qo 61 (.mG (.t 60))),qg 58 true (qf 62 0 61),qg 58 true (qf 63 0 62),qg 58 true (qf 64 4 63),qg 58 true (ql 65 1 64),qg 58 true (qe 66 65),qg 58 true (qn 67 .sub 66 1),qg 58 true (qo 68 (.call false (.c (.fn cA [] [])) [(.t 59),(.c zI),(.t 67)])),qp 69 58 68,qm 70 69,qg 70 true (qm 71 9),qg 70 true (qm 72 0),qg 70 true (qo 73 (.mG (.t 72))),qg 70 true (qf 74 0 73),qg 70 true (qf 75 16 74),qg 70 true (ql 76 1 75),qg 70 true (qe 77 76),qg 70 true (qn 78 .sub 77 1),qg 70 true (qo 79 (.call false (.c (.fn cA [] [])) [(.t 71),(.c zI),(.t 78)])),qp 80 70 79,qm 81 80,qg 81 true (qm 82 10),qg 81 true (qo 83 (.call false (.c (.fn cA [] [])) [(.t 82),(.c zI),(.c (.int .i64 1000))])),qp 84 81 83]
def aaQ:List Abs.Op:=[]
def aaR :=[qo 11 (.pI 1)]
def aaS :=[qm 86 6,qe 87 86,qi 88 0]
def aaT :=[qk 89 .lss 88 87]
def aaU :=[qj 90 4 86 88,qa 91 4 90,qo 13 (.ek [] [(.str []),.aG,(.bool false),zI]),qs 13 4 13 91]
def Pp :=[qM 93 0,qO 94 (.mG (.t 93)),qF 95 0 94,qF 96 0 95,qA 97 9 96,qF 98 0 13,qW 99 13 2 98,qM 100 0,qO 101 (.mG (.t 100)),qF 102 0 101,qF 103 10 102,qL 104 1 103,qC 105 tw [97,99,104],qM 92 105,qZ 106 92 0,qZ 107 92 1,qO 14 (.ek [] [.aG,.aG]),qS 14 2 14 106,qm 15 107]
def Pq :=[qm 108 15]
def Pr:List Abs.Op:=[]
def Ps :=[qF 110 1 14,qV 111 14 1 110,qM 112 0,qO 113 (.mG (.t 112)),qF 114 0 113,qF 115 10 114,qL 116 1 115,qE 117 116,qN 118 .sub 117 1,qJ 119 1 111 118,qL 120 1 119,qM 121 7,qJ 122 3 120 121,qA 123 3 122,qO 16 (.ek [] [zI,zI,zI]),qs 16 3 16 123]
def Pv :=[qM 125 0,qO 126 (.mG (.t 125)),qF 127 0 126,qF 128 0 127,qF 129 4 128,qL 130 1 129,qM 131 8,qF 132 0 16,qV 133 16 1 132,qF 134 1 16,qV 135 16 1 134,qO 136 (.lh [zI,zI,zI,zI] [(0,1,(.t 133)),(1,1,(.t 135))]),qC 137 pQ [130,131,136],qM 124 137,qZ 138 124 0,qZ 139 124 1,qO 17 (.ek [] [zI,zI,zI,zI,zI,zI,zI,zI,zI,zI]),qS 17 10 17 138,qm 15 139]
def Pw :=[qm 140 15]
def Px:List Abs.Op:=[]
def Py :=[qM 143 0,qO 144 (.mG (.t 143)),qF 145 0 144,qF 146 16 145,qL 147 1 146,qM 148 9,qJ 149 2 147 148,qA 150 2 149,qF 151 0 17,qW 152 17 4 151,qC 153 rz [150,152],qM 142 153,qZ 154 142 0,qZ 155 142 1,qZ 156 142 2,qO 18 (.ek [] [zI,zI,zI,zI]),qS 18 4 18 154,qM 19 155,qm 15 156]
def Pz :=[qm 157 15]
def PA:List Abs.Op:=[]
def PB :=[qm 159 11,qm 160 19,qo 161 (.tH 1 1 [zI] [(0,1,(.t 160))]),qy 162 1 8 159 161,qm 11 162]
def PC :=[qn 163 .add 88 1,qm 88 163]
def kq:Abs.cH:=sR [0,7,8,9,10,11,86,87,88,89] aaT (.seq (.ite (.t 89) .dJ (.exit 0)) (.seq (.bO 1 (sR [0,7,8,9,10,11,13,86,87,88] aaU (sR [0,7,8,9,10,11,14,15,86,87,88] Pp (.seq (.iO [0,7,8,9,10,11,14,86,87,88] Pq ⟨some 109,none,false,.call false (.c (.fn bU [] [])) [(.t 108)]⟩ Pr) (sR [0,7,8,9,10,11,16,86,87,88] Ps (sR [0,7,8,9,10,11,15,17,86,87,88] Pv (.seq (.iO [0,7,8,9,10,11,17,86,87,88] Pw ⟨some 141,none,false,.call false (.c (.fn bU [] [])) [(.t 140)]⟩ Px) (sR [0,7,8,9,10,11,15,19,86,87,88] Py (.seq (.iO [0,7,8,9,10,11,19,86,87,88] Pz ⟨some 158,none,false,.call false (.c (.fn bU [] [])) [(.t 157)]⟩ PA) (.cc [0,7,8,9,10,11,86,87,88] PB)))))))))) (.cc [0,7,8,9,10,11,86,87,88] PC)))
def PD :=[qm 164 11,qc 165 ru [164],qo 20 (.ek [] [zI,zI]),qs 20 2 20 165]
def PE :=[qM 166 0,qM 167 0,qO 168 (.mG (.t 167)),qF 169 0 168,qF 170 17 169,qL 171 1 170,qM 172 0,qO 173 (.mG (.t 172)),qF 174 0 173,qF 175 10 174,qL 176 1 175,qE 177 176,qM 178 7,qW 179 20 2 20,qF 180 0 20,qV 181 20 1 180,qM 182 10,qK 183 .mul 181 182,qF 184 1 20,qV 185 20 1 184,qM 186 10,qK 187 .mul 185 186,qO 188 (.lh [zI,zI] [(0,1,(.t 183)),(1,1,(.t 187))]),qO 189 (.lh [zI,zI,zI,zI,zI,zI] [(0,1,(.t 177)),(1,1,(.t 178)),(2,2,(.t 179)),(4,2,(.t 188))]),qO 190 (.tH 1 6 [zI,zI,zI,zI,zI,zI] [(0,6,(.t 189))]),qO 191 (.app 6 48 (.t 171) (.t 190)),qo 192 (.mG (.t 166)),qf 193 0 192,qf 194 17 193,⟨none,none,false,.st [(0,6)] 1 (.t 194) (.t 191)⟩]
def kR:Abs.Fn:=⟨3,[],sR [0,2,6] aaL (.seq (.iO [0,2,6] aaM ⟨some 35,none,false,.call false (.c (.fn bd [] [])) [(.t 34),(.c (.int .i64 8))]⟩ aaN) (sR [0,6,7,8,9,10] aaO (.seq (.iO [0,6,7,8,9,10] aaP ⟨some 85,none,false,.call false (.c (.fn bd [] [])) [(.t 84),(.c (.int .i64 2))]⟩ aaQ) (sR [0,6,7,8,9,10,11] aaR (sL [0,7,8,9,10,11,86,87,88] aaS 0 [0,7,8,9,10,11,86,87,88] false kq (.seq (.seq (.cr [11]) (.cc [0,7,10,20] PD)) (.cc [] PE)))))))⟩
attribute [simp] aaL aaM aaN aaO aaP aaQ aaR aaS aaT aaU Pp Pq Pr Ps Pv Pw Px Py Pz PA PB PC PD PE
def aqO :=[qi 4 0]
def aqP :=[qm 6 0,qe 7 6,qi 8 0]
def aqQ :=[qk 9 .lss 8 7]
def aqR :=[qm 10 8,qm 5 10]
def aqS :=[qm 11 1,qm 12 0,qm 13 5,qj 14 3 12 13,qa 15 3 14,qo 16 (.call false (.t 11) [(.t 15)])]
def aqT :=[qm 17 5,qm 4 17]
def aqU :=[qn 18 .add 8 1,qm 8 18]
def uF:Abs.cH:=sR [0,1,7,8,9] aqQ (.seq (.ite (.t 9) .dJ (.exit 0)) (.seq (.bO 1 (sR [0,1,5,7,8] aqR (sR [0,1,5,7,8,16] aqS (.ite (.t 16) (sR [4] aqT .ret) .dJ)))) (.cc [0,1,7,8] aqU)))
def aqV :=[qi 4 (-1)]
def pA:Abs.Fn:=⟨2,[.t 4],sR [0,1] aqO (sL [0,1,7,8] aqP 0 [0,1,7,8] false uF (sR [4] aqV .ret))⟩
def abg :=[qF 6 0 1,qF 7 0 6,qL 8 1 7,qF 9 0 1,qF 10 1 9,qL 11 1 10,qM 3 8,qm 4 11]
def abh :=[qa 12 9 1,qc 13 dk [12],qi 14 0]
def abi :=[qk 15 .lss 14 13]
def abj :=[qm 16 14,qm 5 16]
def abk :=[qm 17 5,qn 18 .add 17 1,qm 19 3,qk 20 .rem 18 19,qn 21 .neq 20 0,qm 22 21,qg 22 true (qm 23 0),qg 22 true (qm 24 5),qg 22 true (qm 25 5),qg 22 true (qn 26 .add 25 1),qg 22 true (qo 27 (.lh [zI,zI] [(0,1,(.t 24)),(1,1,(.t 26))])),qg 22 true (qo 28 (.call false (.t 23) [(.t 27)])),qg 22 true (qu 29 28),qp 30 22 29]
def abl :=[qm 31 5,qm 32 3,qk 33 .quo 31 32,qm 34 4,qk 35 .rem 33 34,qm 36 4,qn 37 .sub 36 1,qk 38 .neq 35 37,qm 39 38,qg 39 true (qm 40 0),qg 39 true (qm 41 5),qg 39 true (qm 42 5),qg 39 true (qm 43 3),qg 39 true (qk 44 .add 42 43),qg 39 true (qo 45 (.lh [zI,zI] [(0,1,(.t 41)),(1,1,(.t 44))])),qg 39 true (qo 46 (.call false (.t 40) [(.t 45)])),qg 39 true (qu 47 46),qp 48 39 47]
def abm :=[qm 49 5,qm 50 3,qm 51 4,qk 52 .mul 50 51,qk 53 .add 49 52,qa 54 9 1,qc 55 dk [54],qk 56 .lss 53 55,qm 57 56,qg 57 true (qm 58 0),qg 57 true (qm 59 5),qg 57 true (qm 60 5),qg 57 true (qm 61 3),qg 57 true (qm 62 4),qg 57 true (qk 63 .mul 61 62),qg 57 true (qk 64 .add 60 63),qg 57 true (qo 65 (.lh [zI,zI] [(0,1,(.t 59)),(1,1,(.t 64))])),qg 57 true (qo 66 (.call false (.t 58) [(.t 65)])),qg 57 true (qu 67 66),qp 68 57 67]
def abn :=[qn 69 .add 14 1,qm 14 69]
def my:Abs.cH:=sR [0,1,3,4,13,14,15] abi (.seq (.ite (.t 15) .dJ (.exit 0)) (.seq (.bO 1 (sR [0,1,3,4,5,13,14] abj (sI [0,1,3,4,5,13,14,30] abk 30 .ret .dJ (sI [0,1,3,4,5,13,14,48] abl 48 .ret .dJ (sR [0,1,3,4,13,14,68] abm (.ite (.t 68) .ret .dJ)))))) (.cc [0,1,3,4,13,14] abn)))
def oV:Abs.Fn:=⟨2,[],sR [0,1,3,4] abg (sR [0,1,3,4,13,14] abh (.bO 0 (.loop [0,1,3,4,13,14] false my)))⟩
attribute [simp] abg abh abi abj abk abl abm abn
def aqW :=[qb 4 false]
def aqX :=[qm 5 0,qm 6 1,qc 7 gn [5,6],qn 8 .geq 7 0,qm 4 8]
def ng:Abs.Fn:=⟨2,[.t 4],sR [0,1] aqW (sR [4] aqX .ret)⟩
def aqY :=[qx 2 0,qb 3 false]
def aqZ :=[ql 4 1 1,qa 5 3 2,qo 6 (.call false (.t 4) [(.t 5)]),qu 7 6,qm 3 7]
def tt:Abs.Fn:=⟨2,[.t 3],sR [1,2] aqY (sR [3] aqZ .ret)⟩
def abo :=[qm 2 0,qn 3 .eql 2 0,qm 4 0]
def abp:List Abs.Op:=[]
def rn:Abs.Fn:=⟨1,[],.iO [] abo ⟨some 5,none,false,.call false (.c (.fn bd [] [])) [(.t 3),(.t 4)]⟩ abp⟩
attribute [simp] abo abp
def abq :=[qx 1 0,qi 2 0]
def abr :=[qa 3 9 1,qc 4 jD [3],qu 5 4]
def abt :=[qi 2 1]
def abu :=[qi 2 0]
def sO:Abs.Fn:=⟨1,[.t 2],.seq (.seq (.cr [0]) (.cc [1] abq)) (sE [5] abr 5 [2] abt (sR [2] abu .ret))⟩
attribute [simp] abq abr abt abu
def abv :=[qo 2 (.pI 3)]
def abw :=[qm 3 0,qo 4 (.Sf false false (.t 3))]
def abx :=[qo 2 (.pI 3)]
def aby :=[qo 5 (.KX 0 3 [] []),qm 6 0,qy 7 3 24 5 6,qm 2 7]
def gA:Abs.Fn:=⟨1,[.t 2],sR [0] abv (sE [0,4] abw 4 [2] abx (sR [2] aby .ret))⟩
attribute [simp] abv abw abx aby
def aq0 :=[qb 4 false]
def aq1 :=[qm 5 0,qm 6 1,qc 7 cC [5,6],qn 8 .geq 7 0,qm 4 8]
def lL:Abs.Fn:=⟨2,[.t 4],sR [0,1] aq0 (sR [4] aq1 .ret)⟩
def abU :=[qx 2 0,qb 3 false]
def abV :=[qf 4 0 2,qf 5 0 4,ql 6 1 5,ql 7 1 1,qo 8 (.rj (.seq false) [(.t 6),(.t 7)]),qm 3 8]
def lr:Abs.Fn:=⟨2,[.t 3],sR [1,2] abU (sR [3] abV .ret)⟩
attribute [simp] abU abV
def abW :=[qx 2 0,qx 3 1,qo 4 (.mv (.c .aG)),qi 5 0]
def abX :=[qa 9 9 2,qa 10 2 3,qc 11 tc [9,10],qm 8 11,qz 12 8 0,qz 13 8 1,qo 6 (.ek [] [zI,zI,zI,zI,.aG,zI,zI,zI,.aG,(.str []),.aG]),qs 6 11 6 12,qm 7 13]
def abY :=[qm 14 7,qn 15 .neq 14 0]
def abZ :=[qm 16 7,qo 4 (.mv (.c .aG)),qm 5 16]
def ab0 :=[qw 17 6 11 6,qc 18 iV [17],qm 4 18,qi 5 0]
def tU:Abs.Fn:=⟨2,[.t 4,.t 5],.seq (.seq (.cr [0]) (.cc [2,3] abW)) (sR [6,7] abX (sE [6,7,15] abY 15 [4,5] abZ (sR [4,5] ab0 .ret)))⟩
attribute [simp] abW abX abY abZ ab0
def ab1 :=[qx 2 0,qx 3 1,qi 4 0]
def ab2 :=[qa 5 4 2,qo 6 (.yq cM [(.t 5)] []),qo 7 (.yq dP [] [(.t 2),(.t 3)]),qo 8 (.tH 2 1 [.iX,.iX] [(0,1,(.t 6)),(1,1,(.t 7))]),qc 9 nH [8],qm 4 9]
def mf:Abs.Fn:=⟨2,[.t 4],sR [2,3] ab1 (sR [4] ab2 .ret)⟩
attribute [simp] ab1 ab2
def ab3 :=[qx 4 1]
def ab4 :=[qm 9 0,qo 10 (.mG (.t 9)),qf 11 0 10,qf 12 9 11,ql 13 1 12,qe 14 13,qi 15 0]
def ab5 :=[qk 16 .lss 15 14]
def ab6 :=[qm 17 15,qj 18 4 13 15,qa 19 4 18,qo 7 (.ek [] [(.str []),.aG,(.bool false),zI]),qm 6 17,qs 7 4 7 19]
def ab7 :=[qf 20 2 7,qv 21 7 1 20,qu 22 21]
def ab8 :=[qm 23 2,qf 24 0 7,qw 25 7 2 24,qo 26 (.call false (.t 23) [(.t 25)]),qm 8 26]
def ab9 :=[qm 27 8,qf 28 0 4,ql 29 1 28,qf 30 1 4,ql 31 1 30,qc 32 cA [27,29,31],qu 33 32]
def aca :=[qM 34 0,qO 35 (.mG (.t 34)),qF 36 0 35,qF 37 9 36,qL 38 1 37,qM 39 6,qM 40 0,qO 41 (.mG (.t 40)),qF 42 0 41,qF 43 9 42,qL 44 1 43,qM 45 6,qM 46 0,qO 47 (.mG (.t 46)),qF 48 20 47,qL 49 1 48,qJ 50 4 38 39,qF 51 2 50,⟨none,none,true,.st [] 1 (.t 51) (.c (.bool false))⟩,qj 52 4 44 45,qf 53 3 52,qt 1 53 49]
def acb :=[qM 54 0,qO 55 (.mG (.t 54)),qF 56 19 55,qL 57 1 56,qM 58 6,qM 59 0,qO 60 (.mG (.t 59)),qF 61 20 60,qL 62 1 61,qM 63 8,qF 64 0 4,qL 65 1 64,qF 66 1 4,qL 67 1 66,qO 68 (.lh [zI,zI,zI,zI] [(0,1,(.t 62)),(1,1,(.t 63)),(2,1,(.t 65)),(3,1,(.t 67))]),qj 69 4 57 58,qt 4 69 68]
def acd :=[qn 70 .add 15 1,qm 15 70]
def jf:Abs.cH:=sR [0,2,4,13,14,15,16] ab5 (.seq (.ite (.t 16) .dJ (.exit 0)) (.seq (.bO 1 (sR [0,2,4,6,7,13,14,15] ab6 (sI [0,2,4,6,7,13,14,15,22] ab7 22 (.exit 1) .dJ (sR [0,2,4,6,8,13,14,15] ab8 (sR [0,2,4,6,8,13,14,15,33] ab9 (.ite (.t 33) (sR [0,2,4,6,8,13,14,15] aca (.cc [0,2,4,13,14,15] acb)) .dJ)))))) (.cc [0,2,4,13,14,15] acd)))
def mq:Abs.Fn:=⟨3,[],sR [0,2,4] ab3 (sR [0,2,4,13,14,15] ab4 (.bO 0 (.loop [0,2,4,13,14,15] false jf)))⟩
attribute [simp] ab3 ab4 ab5 ab6 ab7 ab8 ab9 aca acb acd
def ace :=[qx 3 0,qi 4 0]
def acf :=[qL 8 1 1,qO 9 (.mG (.t 8)),qF 10 0 9,qF 11 0 10,qF 12 0 11,qA 13 4 12,qA 14 2 3,qA 15 6 2,qC 16 tv [13,14,15],qM 7 16,qZ 17 7 0,qZ 18 7 1,qM 5 17,qm 6 18]
def acg :=[qm 19 5,qm 4 19]
def mX:Abs.Fn:=⟨3,[.t 4],sR [1,2,3] ace (sR [5] acf (sR [4] acg .ret))⟩
attribute [simp] ace acf acg
def ach :=[qx 6 2,qo 8 (.mv (.c .aG)),qi 9 0]
def aci :=[qo 10 (.mv (.c (.fn kI [] [])))]
def acj :=[qm 15 0,qe 16 15,qn 17 .gtr 16 500,qm 14 17]
def ack :=[qo 8 (.mv (.c .aG)),qi 9 3]
def acm :=[qm 19 0,qm 20 10,qc 21 gZ [19,20],qu 22 21,qm 23 22,qg 23 false (qm 24 1),qg 23 false (qe 25 24),qg 23 false (qm 26 0),qg 23 false (qe 27 26),qg 23 false (qk 28 .neq 25 27),qP 29 23 28,qm 30 29,qg 30 false (qm 31 1),qg 30 false (qo 32 (.call false (.c (.fn pq [] [])) [(.t 31),(.c (.fn q7 [] []))])),qg 30 false (qu 33 32),qP 34 30 33,qm 35 34,qg 35 false (qm 36 10),qg 35 false (qm 37 3),qg 35 false (qo 38 (.call false (.t 36) [(.t 37)])),qg 35 false (qu 39 38),qP 40 35 39,qm 18 40]
def acn :=[qo 8 (.mv (.c .aG)),qi 9 1]
def aco :=[qo 42 (.Bw 3 1 (.t 6) (.c (.int .u8 0))),ql 43 1 42,qn 44 .gtr 43 1000,qm 45 44,qg 45 false (qo 46 (.Bw 3 1 (.t 6) (.c (.int .u8 1)))),qg 45 false (ql 47 1 46),qg 45 false (qo 48 (.Bw 3 1 (.t 6) (.c (.int .u8 0)))),qg 45 false (ql 49 1 48),qg 45 false (qk 50 .gtr 47 49),qP 51 45 50,qm 52 51,qg 52 false (qo 53 (.Bw 3 1 (.t 6) (.c (.int .u8 2)))),qg 52 false (ql 54 1 53),qg 52 false (qo 55 (.Bw 3 1 (.t 6) (.c (.int .u8 1)))),qg 52 false (ql 56 1 55),qg 52 false (qk 57 .gtr 54 56),qP 58 52 57,qm 59 58,qg 59 false (qo 60 (.Bw 3 1 (.t 6) (.c (.int .u8 2)))),qg 59 false (ql 61 1 60),qg 59 false (qn 62 .lss 61 0),qP 63 59 62,qm 41 63]
def acp :=[qo 8 (.mv (.c .aG)),qi 9 1]
def acq :=[qm 64 0,qe 65 64,qo 66 (.mks 1 8 [zI] (.t 65) (.t 65)),qm 11 66]
def acr :=[qm 67 0,qe 68 67,qi 69 0]
def PF :=[qk 70 .lss 69 68]
def PG :=[qm 71 69,qj 72 1 67 69,ql 73 1 72,qm 12 71,qm 13 73]
def PH :=[qm 74 11,qm 75 12,qm 76 13,qm 77 1,qm 78 12,qj 79 1 77 78,ql 80 1 79,qo 81 (.Bw 3 1 (.t 6) (.t 80)),ql 82 1 81,qk 83 .mul 76 82,qn 84 .quo 83 1000,qj 85 1 74 75,qt 1 85 84]
def PI :=[qm 86 12,qn 87 .gtr 86 0]
def PJ :=[qM 88 11,qM 89 12,qM 90 11,qM 91 12,qJ 92 1 90 91,qL 93 1 92,qM 94 11,qM 95 12,qN 96 .sub 95 1,qJ 97 1 94 96,qL 98 1 97,qM 99 3,qK 100 .add 98 99,qO 101 (.mn (.t 93) (.t 100)),qj 102 1 88 89,qt 1 102 101]
def PK :=[qn 103 .add 69 1,qm 69 103]
def wu:Abs.cH:=sR [1,3,6,11,67,68,69,70] PF (.seq (.ite (.t 70) .dJ (.exit 1)) (.seq (.bO 2 (sR [1,3,6,11,12,13,67,68,69] PG (sR [1,3,6,11,12,67,68,69] PH (sR [1,3,6,11,12,67,68,69,87] PI (.ite (.t 87) (.cc [1,3,6,11,67,68,69] PJ) .dJ))))) (.cc [1,3,6,11,67,68,69] PK)))
def PL :=[qm 104 11,qm 8 104,qi 9 0]
def sP:Abs.Fn:=⟨4,[.t 8,.t 9],sR [0,1,3,6] ach (sR [0,1,3,6,10] aci (.seq (.bO 0 (sR [0,1,3,6,10,14] acj (.ite (.t 14) (sR [8,9] ack .ret) (sR [0,1,3,6,18] acm (.ite (.t 18) (sR [8,9] acn .ret) (sR [0,1,3,6,41] aco (.ite (.t 41) (sR [8,9] acp .ret) .dJ))))))) (sR [0,1,3,6,11] acq (sL [1,3,6,11,67,68,69] acr 1 [1,3,6,11,67,68,69] false wu (sR [8,9] PL .ret)))))⟩
attribute [simp] ach aci acj ack acm acn aco acp acq acr PF PG PH PI PJ PK PL
def acs :=[qo 2 (.mv (.c .aG))]
def acu :=[qm 3 0,qo 4 (.mG (.t 3)),qf 5 0 4,qf 6 9 5,ql 7 1 6,qo 8 (.call false (.c (.fn dR [] [])) [(.t 7),(.c (.fn eS [] []))]),qm 2 8]
def nU:Abs.Fn:=⟨1,[.t 2],sR [0] acs (sR [2] acu .ret)⟩
attribute [simp] acs acu
def acv :=[qo 2 (.pI 1)]
def acw :=[qm 3 0,qo 4 (.Sf false false (.t 3))]
def acx :=[qo 2 (.pI 1)]
def acy :=[qo 5 (.KX 0 1 [] []),qm 6 0,qy 7 1 24 5 6,qm 2 7]
def j8:Abs.Fn:=⟨1,[.t 2],sR [0] acv (sE [0,4] acw 4 [2] acx (sR [2] acy .ret))⟩
attribute [simp] acv acw acx acy
def acz :=[qx 4 0,qi 5 0]
def acA :=[qL 10 1 1,qO 11 (.mG (.t 10)),qF 12 0 11,qF 13 0 12,qA 14 9 13,qA 15 2 4,qO 16 (.tH 1 2 [(.str []),.aG] [(0,2,(.t 15))]),qL 17 1 1,qO 18 (.mG (.t 17)),qF 19 0 18,qF 20 10 19,qL 21 1 20,qA 22 5 2,qO 23 (.tH 1 5 [zI,(.int .u8 0),zI,zI,zI] [(0,5,(.t 22))]),qC 24 kc [14,16,21,23],qM 9 24,qZ 25 9 0,qZ 26 9 1,qZ 27 9 2,qM 6 25,qM 7 26,qm 8 27]
def acB :=[qm 29 7,qe 30 29,qn 31 .eql 30 0,qm 28 31]
def acC :=[ql 32 1 3,qo 33 (.dT 1 (.t 32) (.c (.int .i64 2))),ql 34 1 33,qm 5 34]
def acD :=[qm 36 7,qo 37 (.dT 3 (.t 36) (.c zI)),qf 38 2 37,ql 39 1 38,qn 40 .gtr 39 0,qm 35 40]
def acE :=[qL 41 1 3,qO 42 (.dT 1 (.t 41) (.c (.int .i64 3))),qL 43 1 42,qM 44 7,qO 45 (.dT 3 (.t 44) (.c zI)),qF 46 2 45,qL 47 1 46,qk 48 .add 43 47,qm 5 48]
def acF :=[qL 49 1 3,qO 50 (.dT 1 (.t 49) (.c (.int .i64 2))),qL 51 1 50,qM 52 7,qO 53 (.dT 3 (.t 52) (.c zI)),qF 54 2 53,qL 55 1 54,qk 56 .add 51 55,qm 5 56]
def mo:Abs.Fn:=⟨4,[.t 5],sR [1,2,3,4] acz (sR [3,7] acA (.seq (.bO 0 (sR [3,7,28] acB (.ite (.t 28) (sR [5] acC .ret) (sR [3,7,35] acD (.ite (.t 35) (sR [5] acE .ret) .dJ))))) (sR [5] acF .ret)))⟩
attribute [simp] acz acA acB acC acD acE acF
def acG :=[qx 1 0,qi 2 0]
def acH :=[qa 3 2 1,qc 4 jA [3],qu 5 4]
def acI :=[qi 2 1]
def acJ :=[qi 2 0]
def pY:Abs.Fn:=⟨1,[.t 2],sR [1] acG (sE [5] acH 5 [2] acI (sR [2] acJ .ret))⟩
attribute [simp] acG acH acI acJ
def acK :=[qo 2 (.ek [] [zI,zI])]
def acL :=[qm 3 0,qc 4 oD [3],qm 5 0,qc 6 oC [5],qo 7 (.lh [zI,zI] [(0,1,(.t 4)),(1,1,(.t 6))]),qs 2 2 2 7]
def tQ:Abs.Fn:=⟨1,[.v 2 true 2],sR [0,2] acK (sR [2] acL .ret)⟩
attribute [simp] acK acL
def aq2 :=[qi 4 0]
def aq3 :=[qm 6 0,qe 7 6,qi 8 0]
def aq4 :=[qk 9 .lss 8 7]
def aq5 :=[qm 10 8,qm 5 10]
def aq6 :=[qm 11 1,qm 12 0,qm 13 5,qj 14 3 12 13,qa 15 3 14,qo 16 (.call false (.t 11) [(.t 15)])]
def aq7 :=[qm 17 5,qm 4 17]
def aq8 :=[qn 18 .add 8 1,qm 8 18]
def ua:Abs.cH:=sR [0,1,7,8,9] aq4 (.seq (.ite (.t 9) .dJ (.exit 0)) (.seq (.bO 1 (sR [0,1,5,7,8] aq5 (sR [0,1,5,7,8,16] aq6 (.ite (.t 16) (sR [4] aq7 .ret) .dJ)))) (.cc [0,1,7,8] aq8)))
def aq9 :=[qi 4 (-1)]
def oL:Abs.Fn:=⟨2,[.t 4],sR [0,1] aq2 (sL [0,1,7,8] aq3 0 [0,1,7,8] false ua (sR [4] aq9 .ret))⟩
def acM :=[qi 2 0]
def acN :=[qa 3 4 0,ql 4 1 1,qc 5 iC [3,4],qm 2 5]
def km:Abs.Fn:=⟨2,[.t 2],sR [0,1] acM (sR [2] acN .ret)⟩
attribute [simp] acM acN
def acO :=[qx 2 0,qi 4 0]
def acP :=[qm 5 1,qe 6 5,qn 7 .gtr 6 12]
def acQ :=[qi 4 3]
def acR :=[qm 8 1,qo 9 (.yq dz [] [(.t 2)]),qc 10 fw [8,9],qm 4 10]
def lj:Abs.Fn:=⟨2,[.t 4],sR [1,2] acO (sE [1,2,7] acP 7 [4] acQ (sR [4] acR .ret))⟩
attribute [simp] acO acP acQ acR
def acS :=[qb 2 false]
def acT :=[qm 3 0,qo 4 (.call false (.c (.fn ch [] [])) [(.t 3),(.c zI),(.c (.int .i64 1000000000))]),qm 2 4]
def qX:Abs.Fn:=⟨1,[.t 2],sR [0] acS (sR [2] acT .ret)⟩
attribute [simp] acS acT
def ara :=[qx 3 1,qb 4 false]
def arb :=[qm 5 0,qo 6 (.yq rA [] [(.t 3)]),qc 7 lJ [5,6],qu 8 7,qm 4 8]
def xl:Abs.Fn:=⟨2,[.t 4],sR [0,3] ara (sR [4] arb .ret)⟩
def arc :=[qb 2 false]
def ard :=[qm 3 0,qo 4 (.bin .leq (.t 3) (.c (.int .u8 2))),qm 2 4]
def yg:Abs.Fn:=⟨1,[.t 2],sR [0] arc (sR [2] ard .ret)⟩
def acU :=[qo 4 (.pI 4)]
def acV :=[qm 7 0,qe 8 7,qi 9 0]
def acW :=[qk 10 .lss 9 8]
def acX :=[qj 11 4 7 9,qa 12 4 11,qo 6 (.ek [] [(.str []),.aG,(.bool false),zI]),qs 6 4 6 12]
def acY :=[qm 13 1,qw 14 6 4 6,qo 15 (.call false (.t 13) [(.t 14)])]
def acZ :=[qm 16 4,qw 17 6 4 6,qo 18 (.tH 1 4 [(.str []),.aG,(.bool false),zI] [(0,4,(.t 17))]),qy 19 4 56 16 18,qm 4 19]
def ac0 :=[qn 20 .add 9 1,qm 9 20]
def eI:Abs.cH:=sR [1,4,7,8,9,10] acW (.seq (.ite (.t 10) .dJ (.exit 0)) (.seq (.bO 1 (sR [1,4,6,7,8,9] acX (sR [1,4,6,7,8,9,15] acY (.ite (.t 15) (.cc [1,4,7,8,9] acZ) .dJ)))) (.cc [1,4,7,8,9] ac0)))
def ac1 :=[qm 21 4,qm 4 21]
def fM:Abs.Fn:=⟨2,[.t 4],sR [0,1,4] acU (sL [1,4,7,8,9] acV 0 [1,4,7,8,9] false eI (sR [4] ac1 .ret))⟩
attribute [simp] acU acV acW acX acY acZ ac0 ac1
def ac2 :=[qx 1 0,qb 2 false]
def ac3 :=[qf 3 2 1,ql 4 1 3,qm 2 4]
def mm:Abs.Fn:=⟨1,[.t 2],sR [1] ac2 (sR [2] ac3 .ret)⟩
attribute [simp] ac2 ac3
def ac4 :=[qi 2 0]
def ac5 :=[qm 5 0,qe 6 5,qn 7 .lss 6 1]
def ac6 :=[qo 8 (.mki 9 (.c (.str [115,108,105,99,101,115,46,77,105,110,58,32,101,109,112,116,121,32,108,105,115,116])))]
def ac7:List Abs.Op:=[]
def ac8 :=[qm 9 0,qo 10 (.dT 1 (.t 9) (.c zI)),ql 11 1 10,qm 3 11]
def ac9 :=[qi 4 1]
def ada :=[qm 12 4,qm 13 0,qe 14 13,qk 15 .lss 12 14]
def adb :=[qm 18 3,qm 19 0,qm 20 4,qj 21 1 19 20,ql 22 1 21,qo 23 (.mn (.t 18) (.t 22)),qm 3 23]
def ade :=[qm 16 4,qn 17 .add 16 1,qm 4 17]
def oe:Abs.cH:=sI [0,3,4,15] ada 15 .dJ (.exit 0) (.seq (.bO 1 (.cc [0,3,4] adb)) (.cc [0,3,4] ade))
def PM :=[qm 24 3,qm 2 24]
def rQ:Abs.Fn:=⟨1,[.t 2],sR [0] ac4 (sI [0,7] ac5 7 (.iO [0] ac6 ⟨none,none,false,.Mw (.t 8)⟩ ac7) .dJ (sR [0,3] ac8 (sL [0,3,4] ac9 0 [0,3,4] false oe (sR [2] PM .ret))))⟩
attribute [simp] ac4 ac5 ac6 ac7 ac8 ac9 ada adb ade PM
def adf :=[qi 2 0]
def adg :=[qm 5 0,qe 6 5,qn 7 .lss 6 1]
def adh :=[qo 8 (.mki 9 (.c (.str [115,108,105,99,101,115,46,77,97,120,58,32,101,109,112,116,121,32,108,105,115,116])))]
def adi:List Abs.Op:=[]
def adj :=[qm 9 0,qo 10 (.dT 1 (.t 9) (.c zI)),ql 11 1 10,qm 3 11]
def adk :=[qi 4 1]
def adl :=[qm 12 4,qm 13 0,qe 14 13,qk 15 .lss 12 14]
def adm :=[qm 18 3,qm 19 0,qm 20 4,qj 21 1 19 20,ql 22 1 21,qo 23 (.mx (.t 18) (.t 22)),qm 3 23]
def adn :=[qm 16 4,qn 17 .add 16 1,qm 4 17]
def od:Abs.cH:=sI [0,3,4,15] adl 15 .dJ (.exit 0) (.seq (.bO 1 (.cc [0,3,4] adm)) (.cc [0,3,4] adn))
def PN :=[qm 24 3,qm 2 24]
def rP:Abs.Fn:=⟨1,[.t 2],sR [0] adf (sI [0,7] adg 7 (.iO [0] adh ⟨none,none,false,.Mw (.t 8)⟩ adi) .dJ (sR [0,3] adj (sL [0,3,4] adk 0 [0,3,4] false od (sR [2] PN .ret))))⟩
attribute [simp] adf adg adh adi adj adk adl adm adn PN
def ado :=[qi 4 0]
def adp :=[qo 10 (.mp (.make) []),qm 5 10]
def adq :=[qm 11 0,qe 12 11,qi 13 0]
def ads :=[qk 14 .lss 13 12]
def adt :=[qj 15 6 11 13,qa 16 6 15,qo 7 (.ek [] [(.str []),zI,.aG,.aG,zI,zI]),qs 7 6 7 16]
def adu :=[qm 18 1,qw 19 7 6 7,qo 20 (.call false (.t 18) [(.t 19)]),qm 17 20,qz 21 17 0,qz 22 17 1,qm 8 21,qm 9 22]
def adv :=[qm 23 9,qn 24 .neq 23 0]
def adw :=[qm 25 9,qm 4 25]
def adx :=[qm 26 5,qm 27 8,qo 28 (.mp (.get none (.bool false) false) [(.t 26),(.t 27)])]
def ady :=[qi 4 6]
def PO :=[qm 29 5,qm 30 8,⟨none,none,false,.mp (.put none) [(.t 29),(.t 30),(.c (.bool true))]⟩]
def PQ :=[qn 31 .add 13 1,qm 13 31]
def fL:Abs.cH:=sR [1,5,11,12,13,14] ads (.seq (.ite (.t 14) .dJ (.exit 0)) (.seq (.bO 1 (sR [1,5,7,11,12,13] adt (sR [1,5,8,9,11,12,13] adu (sE [1,5,8,9,11,12,13,24] adv 24 [4] adw (sE [1,5,8,11,12,13,28] adx 28 [4] ady (.cc [1,5,11,12,13] PO)))))) (.cc [1,5,11,12,13] PQ)))
def PR :=[qi 4 0]
def iq:Abs.Fn:=⟨2,[.t 4],sR [0,1] ado (sR [0,1,5] adp (sL [1,5,11,12,13] adq 0 [1,5,11,12,13] false fL (sR [4] PR .ret)))⟩
attribute [simp] ado adp adq ads adt adu adv adw adx ady PO PQ PR
def adz :=[qx 2 0,qo 3 (.mv (.c (.str []))),qi 4 0]
def adA :=[qF 5 0 2,qL 6 1 5,qA 7 4 1,qA 8 6 2,qC 9 gq [7,8],qm 3 6,qm 4 9]
def jQ:Abs.Fn:=⟨2,[.t 3,.t 4],sR [1,2] adz (sR [3,4] adA .ret)⟩
attribute [simp] adz adA
def are :=[qb 4 false]
def arf :=[qm 5 0,qm 6 1,qc 7 nJ [5,6],qn 8 .geq 7 0,qm 4 8]
def qR:Abs.Fn:=⟨2,[.t 4],sR [0,1] are (sR [4] arf .ret)⟩
def arh :=[qb 3 false]
def ari :=[ql 4 1 1,qm 5 0,qo 6 (.call false (.t 4) [(.t 5)]),qu 7 6,qm 3 7]
def vG:Abs.Fn:=⟨2,[.t 3],sR [0,1] arh (sR [3] ari .ret)⟩
def arj :=[qi 4 0]
def ark :=[qm 6 0,qe 7 6,qi 8 0]
def arl :=[qk 9 .lss 8 7]
def arn :=[qm 10 8,qm 5 10]
def aro :=[qm 11 1,qm 12 0,qm 13 5,qj 14 1 12 13,ql 15 1 14,qo 16 (.call false (.t 11) [(.t 15)])]
def arp :=[qm 17 5,qm 4 17]
def arq :=[qn 18 .add 8 1,qm 8 18]
def wL:Abs.cH:=sR [0,1,7,8,9] arl (.seq (.ite (.t 9) .dJ (.exit 0)) (.seq (.bO 1 (sR [0,1,5,7,8] arn (sR [0,1,5,7,8,16] aro (.ite (.t 16) (sR [4] arp .ret) .dJ)))) (.cc [0,1,7,8] arq)))
def ars :=[qi 4 (-1)]
def su:Abs.Fn:=⟨2,[.t 4],sR [0,1] arj (sL [0,1,7,8] ark 0 [0,1,7,8] false wL (sR [4] ars .ret))⟩
def tF3:List (Nat×uD×Abs.Fn):=[A4 [] ga kO [] [0] [] [] [] [] [] [] [(1,some 1)],A4 [] fB j6 [] [0,6] [6] [(1008,[(1,4)]),(4019,[(0,4)]),(7012,[(0,2)])] [] [(5,[6,1000006])] [] [] [(0,some 7),(6,some 1)],A4 [] gi kS [] [0,8,13,14] [13,14] [] [14005] [(15,[11])] [] [] [(1,some 3),(2,some 7),(3,some 10),(9,some 2),(19,some 1)],A4 [] gf kP [] [7] [] [] [] [] [] [] [(2,some 3),(3,some 4),(6,some 1)],A4 [] gj kT [] [0,6] [6] [(1005,[(1,2)]),(5012,[(0,2)]),(7012,[(0,2)])] [] [(6,[6,1000006]),(6,[6])] [] [] [(0,some 7),(6,some 2)],A4 [] gh kR [] [0,11,13,14,16,17,18,20] [13,14,16,17,18,20] [(18029,[(0,6)])] [] [(17,[11])] [] [] [(1,some 12),(3,some 37),(9,some 1),(12,some 1),(14,some 1)],A0 gI pA,A0 jB oV,A0 fe ng,A0 kF tt,A4 [] bU rn [] [] [] [] [] [] [] [] [(0,some 3)],A4 [] mS sO [] [] [] [] [] [(0,[0])] [] [] [],A2 [] eL gA [] [2,5],A0 dW lL,A0 eu lr,A4 [] uf tU [] [6] [6] [] [] [(0,[0])] [] [] [],A0 jn mf,A3 [] gw mq [] [7] [7] [] [],A0 fy mX,A0 pG sP,A0 gb nU,A2 [] gX j8 [] [2,5],A0 eT mo,A0 nv pY,A3 [] ru tQ [] [2] [2] [] [],A0 gn oL,A0 dP km,A0 iC lj,A0 kI qX,A0 pq xl,A0 q7 yg,A3 [] dR fM [] [4,6] [6] [] [],A0 eS mm,A4 [] oD rQ [] [] [] [] [] [] [] [] [(2,some 1)],A4 [] oC rP [] [] [] [] [] [] [] [] [(2,some 1)],A3 [] fw iq [] [7] [7] [] [],A0 dz jQ,A0 lJ qR,A0 rA vG,A0 nJ su]
theorem kF3:(tF3.map fun p=>chk p)=tF3.map fun p=>some p.2.2:=by kernel_rfl
end Go.Proofs.YtfgljaglidhjiaaGreatDoor
