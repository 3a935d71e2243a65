import Derived.Test.YtfgljaglidhjiaaGreatDoorIds
set_option linter.all false
set_option maxRecDepth 100000
namespace Go.Proofs.YtfgljaglidhjiaaGreatDoor
open Go Go.Abs
def acq :=[qm 10 0,qo 11 (.mA (.t 10)),qf 12 0 11,qf 13 12 12,ql 14 1 13,qe 15 14,qn 16 .lss 15 200]
def acr:List Abs.Op:=[]
def acs :=[qm 18 0,qo 19 (.mA (.t 18)),qf 20 0 19,qf 21 10 20,ql 22 1 21,qe 23 22,qo 24 (.lK [zI,.aG] [(0,1,(.t 23))]),qo 6 (.eJ [] [zI,.aG]),⟨none,none,false,.IN 6 [(1,4)] 2 6 (.t 24)⟩]
def acu :=[qm 25 2,qe 26 25,qn 27 .gtr 26 0]
def acv :=[qF 30 1 6,qV 31 6 1 30,qM 32 2,qO 33 (.fh 1 (.t 32) (.c zI)),qL 34 1 33,qM 35 2,qO 36 (.fh 1 (.t 35) (.c (.int .i64 1))),qL 37 1 36,qM 38 2,qO 39 (.fh 1 (.t 38) (.c (.int .i64 2))),qL 40 1 39,qO 41 (.lK [zI,zI,zI] [(0,1,(.t 34)),(1,1,(.t 37)),(2,1,(.t 40))]),qM 42 2,qO 43 (.fh 1 (.t 42) (.c (.int .i64 3))),qL 44 1 43,qO 45 (.lK [zI,zI,zI,zI] [(0,3,(.t 41)),(3,1,(.t 44))]),qO 46 (.uH 1 4 [zI,zI,zI,zI] [(0,4,(.t 45))]),qy 47 4 32 31 46,qf 48 1 6,⟨none,none,false,.IN 6 [(0,4)] 1 48 (.t 47)⟩]
def acw :=[qm 28 2,qo 29 (.Md 1 (.t 28) (some (.c (.int .i64 4))) none none),qm 2 29]
def ke:Abs.cX :=
 (.seq (.seq (.ai [0,2,6,27] acu) (.ite (.t 27) .cI (.exit 0))) (.seq (.bD 1 (.ai [0,2,6] acv)) (.ai [0,2,6] acw)))
def acx :=[qw 50 6 2 6,qo 51 (.uH 1 2 [zI,.aG] [(0,2,(.t 50))]),qo 52 (.call false (.c (.fn fF [] [])) [(.c .aG),(.t 51),(.c zI)]),qm 49 52,qz 53 49 0,qz 54 49 1,qz 55 49 2,qm 7 53,qm 8 54,qm 9 55]
def acy :=[qm 56 9]
def acz:List Abs.Op:=[]
def Sl :=[qM 58 0,qM 59 0,qO 60 (.mA (.t 59)),qF 61 0 60,qF 62 12 61,qL 63 1 62,qW 64 6 2 6,qO 65 (.uH 1 2 [zI,.aG] [(0,2,(.t 64))]),qO 66 (.app 2 32 (.t 63) (.t 65)),qo 67 (.mA (.t 58)),qf 68 0 67,qf 69 12 68,⟨none,none,false,.st [(0,2)] 1 (.t 69) (.t 66)⟩]
def Ce:bP:=⟨[(7,[]),(6,[0,6]),(5,[0,6,9]),(3,[0,2,6]),(4,[0,2,6]),(2,[0,2,6,27]),(1,[0,2,6]),(0,[0,2])],[(0,[0,2,6])],[],[0,6],[6],[(1008,[(1,4)]),(4019,[(0,4)]),(7012,[(0,2)])],[],[(5,[6,1000006])],[],[],[(0,some 7),(6,some 1)]⟩
def jY:Abs.Fn:=⟨3,[],
 (.seq (.iT [0,2] acq ⟨some 17,none,false,.call false (.c (.fn bd [] [])) [(.t 16),(.c (.int .i64 3))]⟩ acr) (.seq (.ai [0,2,6] acs) (.seq (.bD 0 (.loop [0,2,6] false ke)) (.seq (.seq (.cG [6,1000006]) (.ai [0,6,9] acx)) (.seq (.iT [0,6] acy ⟨some 57,none,false,.call false (.c (.fn bX [] [])) [(.t 56)]⟩ acz) (.ai [] Sl))))))⟩
attribute [simp] acq acr acs acu acv acw acx acy acz Sl
def acA :=[qm 16 0,qc 17 gb [16],qm 6 17]
def acB :=[qm 18 6,qe 19 18,qn 20 .gtr 19 0]
def acC:List Abs.Op:=[]
def acD :=[qm 22 0,qo 23 (.mA (.t 22)),qf 24 0 23,qf 25 10 24,ql 26 1 25,qe 27 26,qn 28 .lss 27 200]
def acE:List Abs.Op:=[]
def acF :=[qm 30 2,qe 31 30,qm 32 0,qo 33 (.mA (.t 32)),qf 34 0 33,qf 35 0 34,qf 36 8 35,ql 37 1 36,qe 38 37,qk 39 .eql 31 38]
def acG:List Abs.Op:=[]
def acH :=[qM 41 0,qM 42 0,qC 43 gA [42],qO 44 (.mA (.t 41)),qF 45 0 44,qF 46 13 45,qo 47 (.BM 3 1 (.t 46) (.t 43)),ql 48 1 47,qm 7 48]
def acI :=[qo 8 (.pB 1)]
def acJ :=[qm 49 2,qe 50 49,qi 51 0]
def Sm :=[qk 52 .lss 51 50]
def Sn :=[qj 53 1 49 51,ql 54 1 53,qm 10 54]
def Sp :=[qm 55 10,qo 56 (.call false (.c (.fn cF [] [])) [(.t 55),(.c (.int .i64 (-100000))),(.c (.int .i64 100000))])]
def Sq:List Abs.Op:=[]
def Sr :=[qm 58 10,qn 59 .lss 58 0]
def Ss :=[qm 60 10,qo 61 (.un .neg (.t 60)),qm 62 7,qk 63 .mul 61 62,qn 64 .quo 63 1000,qo 65 (.un .neg (.t 64)),qm 10 65]
def Su :=[qm 66 8,qm 67 10,qo 68 (.uH 1 1 [zI] [(0,1,(.t 67))]),qy 69 1 8 66 68,qm 8 69]
def Sw :=[qn 70 .add 51 1,qm 51 70]
def kh:Abs.cX :=
 (.seq (.ai [0,6,7,8,49,50,51,52] Sm) (.seq (.ite (.t 52) .cI (.exit 0)) (.seq (.bD 1 (.seq (.ai [0,6,7,8,10,49,50,51] Sn) (.seq (.iT [0,6,7,8,10,49,50,51] Sp ⟨some 57,none,false,.call false (.c (.fn bd [] [])) [(.t 56),(.c (.int .i64 2))]⟩ Sq) (.seq (.seq (.ai [0,6,7,8,10,49,50,51,59] Sr) (.ite (.t 59) (.ai [0,6,7,8,10,49,50,51] Ss) .cI)) (.ai [0,6,7,8,49,50,51] Su))))) (.ai [0,6,7,8,49,50,51] Sw))))
def Sx :=[qm 71 0,qo 72 (.mA (.t 71)),qf 73 0 72,qf 74 10 73,ql 75 1 74,qo 76 (.call true (.c (.fn gX [] [])) [(.t 75)]),qm 77 8,qo 78 (.uH 1 1 [.aG] [(0,1,(.t 77))]),qy 79 1 24 76 78,qm 11 79]
def Sy :=[qm 80 6,qe 81 80,qi 82 0]
def SA :=[qk 83 .lss 82 81]
def SB :=[qj 84 4 80 82,qa 85 4 84,qo 13 (.eJ [] [(.str []),.aG,(.bool false),zI]),qs 13 4 13 85]
def SC :=[qM 87 0,qO 88 (.mA (.t 87)),qF 89 0 88,qF 90 0 89,qA 91 9 90,qF 92 0 13,qW 93 13 2 92,qM 94 11,qC 95 tf [91,93,94],qM 86 95,qZ 96 86 0,qZ 97 86 1,qO 14 (.eJ [] [.aG,.aG]),qS 14 2 14 96,qm 15 97]
def SD :=[qm 98 15]
def SE:List Abs.Op:=[]
def SF :=[qn 100 .add 82 1,qm 82 100]
def ki:Abs.cX :=
 (.seq (.ai [0,11,80,81,82,83] SA) (.seq (.ite (.t 83) .cI (.exit 2)) (.seq (.bD 3 (.seq (.ai [0,11,13,80,81,82] SB) (.seq (.ai [0,11,15,80,81,82] SC) (.iT [0,11,80,81,82] SD ⟨some 99,none,false,.call false (.c (.fn bX [] [])) [(.t 98)]⟩ SE)))) (.ai [0,11,80,81,82] SF))))
def SG :=[qm 101 0,qm 102 11,qo 103 (.mA (.t 101)),qf 104 0 103,qf 105 10 104,qt 1 105 102]
def DP:bP:=⟨[(21,[]),(20,[0,11,80,81,82]),(19,[0,11,80,81,82]),(18,[0,11,15,80,81,82]),(17,[0,11,13,80,81,82]),(16,[0,11,80,81,82,83]),(15,[0,11,80,81,82]),(14,[0,6,11]),(13,[0,6,7,8,49,50,51]),(12,[0,6,7,8,49,50,51]),(11,[0,6,7,8,10,49,50,51]),(10,[0,6,7,8,10,49,50,51,59]),(9,[0,6,7,8,10,49,50,51]),(8,[0,6,7,8,10,49,50,51]),(7,[0,6,7,8,49,50,51,52]),(6,[0,6,7,8,49,50,51]),(5,[0,2,6,7,8]),(4,[0,2,6,7]),(3,[0,2,6]),(2,[0,2,6]),(1,[0,2,6]),(0,[0,2,6])],[(2,[0,11,80,81,82]),(0,[0,6,7,8,49,50,51])],[],[0,8,13,14],[13,14],[],[14005],[(15,[11])],[],[],[(1,some 3),(2,some 7),(3,some 10),(9,some 2),(19,some 1)]⟩
def kM:Abs.Fn:=⟨3,[],
 (.seq (.ai [0,2,6] acA) (.seq (.iT [0,2,6] acB ⟨some 21,none,false,.call false (.c (.fn bd [] [])) [(.t 20),(.c (.int .i64 8))]⟩ acC) (.seq (.iT [0,2,6] acD ⟨some 29,none,false,.call false (.c (.fn bd [] [])) [(.t 28),(.c (.int .i64 3))]⟩ acE) (.seq (.iT [0,2,6] acF ⟨some 40,none,false,.call false (.c (.fn bd [] [])) [(.t 39),(.c (.int .i64 1))]⟩ acG) (.seq (.ai [0,2,6,7] acH) (.seq (.ai [0,2,6,7,8] acI) (.seq (.seq (.ai [0,6,7,8,49,50,51] acJ) (.bD 0 (.loop [0,6,7,8,49,50,51] false kh))) (.seq (.ai [0,6,11] Sx) (.seq (.seq (.seq (.cG [11]) (.ai [0,11,80,81,82] Sy)) (.bD 2 (.loop [0,11,80,81,82] false ki))) (.ai [] SG))))))))))⟩
attribute [simp] acA acB acC acD acE acF acG acH acI acJ Sm Sn Sp Sq Sr Ss Su Sw Sx Sy SA SB SC SD SE SF SG
def acK :=[qx 3 0,qx 5 2]
def acL :=[ql 11 1 3,qc 12 gb [11],qm 6 12]
def acM :=[qm 13 6,qe 14 13,qn 15 .gtr 14 0]
def acN:List Abs.Op:=[]
def acO :=[ql 17 1 5,qo 18 (.fh 1 (.t 17) (.c zI)),ql 19 1 18,qo 20 (.call false (.c (.fn cF [] [])) [(.t 19),(.c zI),(.c (.int .i64 255))])]
def acP:List Abs.Op:=[]
def acQ :=[qL 22 1 3,qO 23 (.mA (.t 22)),qF 24 0 23,qF 25 10 24,qL 26 1 25,qE 27 26,qL 28 1 5,qO 29 (.fh 1 (.t 28) (.c zI)),qL 30 1 29,qO 31 (.Oj .u8 (.t 30)),qL 32 1 5,qO 33 (.fh 1 (.t 32) (.c (.int .i64 1))),qL 34 1 33,qL 35 1 5,qO 36 (.fh 1 (.t 35) (.c (.int .i64 2))),qL 37 1 36,qL 38 1 5,qO 39 (.fh 1 (.t 38) (.c (.int .i64 3))),qL 40 1 39,qO 41 (.lK [zI,zI] [(0,1,(.t 37)),(1,1,(.t 40))]),qO 42 (.lK [zI,(.int .u8 0),zI,zI,zI] [(0,1,(.t 27)),(1,1,(.t 31)),(2,1,(.t 34)),(3,2,(.t 41))]),qO 7 (.K5 [] [zI,(.int .u8 0),zI,zI,zI]),qt 5 7 42]
def acR :=[qL 44 1 3,qO 45 (.mA (.t 44)),qF 46 0 45,qF 47 0 46,qA 48 9 47,qM 49 6,qO 50 (.fh 4 (.t 49) (.c zI)),qF 51 0 50,qA 52 2 51,qO 53 (.uH 1 2 [(.str []),.aG] [(0,2,(.t 52))]),qL 54 1 3,qO 55 (.mA (.t 54)),qF 56 0 55,qF 57 10 56,qL 58 1 57,qA 59 5 7,qO 60 (.uH 1 5 [zI,(.int .u8 0),zI,zI,zI] [(0,5,(.t 59))]),qC 61 lY [48,53,58,60],qM 43 61,qZ 62 43 0,qZ 63 43 1,qZ 64 43 2,qM 8 62,qM 9 63,qm 10 64]
def acS :=[qm 65 10]
def acT:List Abs.Op:=[]
def SH :=[qL 67 1 3,qL 68 1 5,qO 69 (.fh 1 (.t 68) (.c (.int .i64 2))),qL 70 1 69,qL 71 1 5,qO 72 (.fh 1 (.t 71) (.c (.int .i64 3))),qL 73 1 72,qO 74 (.lK [zI,zI] [(0,1,(.t 70)),(1,1,(.t 73))]),qO 75 (.yF eR [] [(.t 3),(.t 7),(.t 5)]),qc 76 gB [67,74,75]]
def DM:bP:=⟨[(7,[]),(6,[3,5,7]),(5,[3,5,7,10]),(4,[3,5,6,7]),(3,[3,5,6]),(2,[3,5,6]),(1,[3,5,6]),(0,[3,5])],[],[],[7],[],[],[],[],[],[],[(2,some 3),(3,some 4),(6,some 1)]⟩
def kJ:Abs.Fn:=⟨3,[],
 (.seq (.ai [3,5] acK) (.seq (.ai [3,5,6] acL) (.seq (.iT [3,5,6] acM ⟨some 16,none,false,.call false (.c (.fn bd [] [])) [(.t 15),(.c (.int .i64 8))]⟩ acN) (.seq (.iT [3,5,6] acO ⟨some 21,none,false,.call false (.c (.fn bd [] [])) [(.t 20),(.c (.int .i64 1))]⟩ acP) (.seq (.ai [3,5,6,7] acQ) (.seq (.ai [3,5,7,10] acR) (.seq (.iT [3,5,7] acS ⟨some 66,none,false,.call false (.c (.fn bX [] [])) [(.t 65)]⟩ acT) (.ai [] SH))))))))⟩
attribute [simp] acK acL acM acN acO acP acQ acR acS acT SH
def acU :=[qm 7 0,qo 8 (.mA (.t 7)),qf 9 0 8,qf 10 16 9,ql 11 1 10,qe 12 11,qn 13 .lss 12 10]
def acV:List Abs.Op:=[]
def acW :=[qm 15 2,qo 16 (.fh 1 (.t 15) (.c zI)),ql 17 1 16,qo 18 (.lK [zI,.aG] [(0,1,(.t 17))]),qo 6 (.eJ [] [zI,.aG]),⟨none,none,false,.IN 6 [(1,2)] 2 6 (.t 18)⟩]
def acX :=[qm 19 2,qo 20 (.Md 1 (.t 19) (some (.c (.int .i64 1))) none none),qm 2 20]
def acY :=[qm 21 2,qe 22 21,qn 23 .gtr 22 0]
def acZ :=[qF 26 1 6,qV 27 6 1 26,qM 28 2,qO 29 (.fh 1 (.t 28) (.c zI)),qL 30 1 29,qM 31 2,qO 32 (.fh 1 (.t 31) (.c (.int .i64 1))),qL 33 1 32,qO 34 (.lK [zI,zI] [(0,1,(.t 30)),(1,1,(.t 33))]),qO 35 (.uH 1 2 [zI,zI] [(0,2,(.t 34))]),qy 36 2 16 27 35,qf 37 1 6,⟨none,none,false,.IN 6 [(0,2)] 1 37 (.t 36)⟩]
def ac0 :=[qm 24 2,qo 25 (.Md 1 (.t 24) (some (.c (.int .i64 2))) none none),qm 2 25]
def lg:Abs.cX :=
 (.seq (.seq (.ai [0,2,6,23] acY) (.ite (.t 23) .cI (.exit 0))) (.seq (.bD 1 (.ai [0,2,6] acZ)) (.ai [0,2,6] ac0)))
def ac1 :=[qw 38 6 2 6,qc 39 nj [38]]
def ac2:List Abs.Op:=[]
def SI :=[qM 41 0,qM 42 0,qO 43 (.mA (.t 42)),qF 44 0 43,qF 45 16 44,qL 46 1 45,qW 47 6 2 6,qO 48 (.uH 1 2 [zI,.aG] [(0,2,(.t 47))]),qO 49 (.app 2 32 (.t 46) (.t 48)),qo 50 (.mA (.t 41)),qf 51 0 50,qf 52 16 51,⟨none,none,false,.st [(0,2)] 1 (.t 52) (.t 49)⟩]
def DQ:bP:=⟨[(7,[]),(6,[0,6]),(4,[0,2,6]),(5,[0,2,6]),(3,[0,2,6,23]),(2,[0,2,6]),(1,[0,2,6]),(0,[0,2])],[(0,[0,2,6])],[],[0,6],[6],[(1005,[(1,2)]),(5012,[(0,2)]),(7012,[(0,2)])],[],[(6,[6,1000006]),(6,[6])],[],[],[(0,some 7),(6,some 2)]⟩
def kN:Abs.Fn:=⟨3,[],
 (.seq (.iT [0,2] acU ⟨some 14,none,false,.call false (.c (.fn bd [] [])) [(.t 13),(.c (.int .i64 3))]⟩ acV) (.seq (.ai [0,2,6] acW) (.seq (.seq (.ai [0,2,6] acX) (.bD 0 (.loop [0,2,6] false lg))) (.seq (.seq (.cG [6,1000006]) (.iT [0,6] ac1 ⟨some 40,none,false,.call false (.c (.fn bX [] [])) [(.t 39)]⟩ ac2)) (.ai [] SI)))))⟩
attribute [simp] acU acV acW acX acY acZ ac0 ac1 ac2 SI
def adJ :=[qm 21 0,qc 22 gb [21],qm 6 22]
def adK :=[qm 23 6,qe 24 23,qn 25 .gtr 24 0,qm 26 25,qg 26 true (qm 27 0),qg 26 true (qo 28 (.mA (.t 27))),qg 26 true (qf 29 0 28),qg 26 true (qf 30 10 29),qg 26 true (ql 31 1 30),qg 26 true (qe 32 31),qg 26 true (qn 33 .gtr 32 0),qp 34 26 33]
def adL:List Abs.Op:=[]
def adM :=[qM 36 2,qO 37 (.fh 1 (.t 36) (.c zI)),qL 38 1 37,qM 39 2,qO 40 (.fh 1 (.t 39) (.c (.int .i64 1))),qL 41 1 40,qM 42 2,qO 43 (.fh 1 (.t 42) (.c (.int .i64 2))),qL 44 1 43,qM 45 2,qO 46 (.fh 1 (.t 45) (.c (.int .i64 3))),qL 47 1 46,qM 7 38,qM 8 41,qM 9 44,qm 10 47]
def adN :=[qm 48 7,qm 49 0,qo 50 (.mA (.t 49)),qf 51 0 50,qf 52 0 51,qf 53 8 52,ql 54 1 53,qe 55 54,qn 56 .sub 55 1,qo 57 (.call false (.c (.fn cF [] [])) [(.t 48),(.c zI),(.t 56)]),qm 58 57,qg 58 true (qm 59 8),qg 58 true (qm 60 0),qg 58 true (qo 61 (.mA (.t 60))),qg 58 true (qf 62 0 61),qg 58 true (qf 63 0 62),qg 58 true (qf 64 4 63),qg 58 true (ql 65 1 64),qg 58 true (qe 66 65),qg 58 true (qn 67 .sub 66 1),qg 58 true (qo 68 (.call false (.c (.fn cF [] [])) [(.t 59),(.c zI),(.t 67)])),qp 69 58 68,qm 70 69,qg 70 true (qm 71 9),qg 70 true (qm 72 0),qg 70 true (qo 73 (.mA (.t 72))),qg 70 true (qf 74 0 73),qg 70 true (qf 75 16 74),qg 70 true (ql 76 1 75),qg 70 true (qe 77 76),qg 70 true (qn 78 .sub 77 1),qg 70 true (qo 79 (.call false (.c (.fn cF [] [])) [(.t 71),(.c zI),(.t 78)])),qp 80 70 79,qm 81 80,qg 81 true (qm 82 10),qg 81 true (qo 83 (.call false (.c (.fn cF [] [])) [(.t 82),(.c zI),(.c (.int .i64 1000))])),qp 84 81 83]
def adO:List Abs.Op:=[]
def adP :=[qo 11 (.pB 1)]
def adQ :=[qm 86 6,qe 87 86,qi 88 0]
def adR :=[qk 89 .lss 88 87]
def adS :=[qj 90 4 86 88,qa 91 4 90,qo 13 (.eJ [] [(.str []),.aG,(.bool false),zI]),qs 13 4 13 91]
def SJ :=[qM 93 0,qO 94 (.mA (.t 93)),qF 95 0 94,qF 96 0 95,qA 97 9 96,qF 98 0 13,qW 99 13 2 98,qM 100 0,qO 101 (.mA (.t 100)),qF 102 0 101,qF 103 10 102,qL 104 1 103,qC 105 tf [97,99,104],qM 92 105,qZ 106 92 0,qZ 107 92 1,qO 14 (.eJ [] [.aG,.aG]),qS 14 2 14 106,qm 15 107]
def aDZ :=[qm 108 15]
def SL:List Abs.Op:=[]
def SM :=[qF 110 1 14,qV 111 14 1 110,qM 112 0,qO 113 (.mA (.t 112)),qF 114 0 113,qF 115 10 114,qL 116 1 115,qE 117 116,qN 118 .sub 117 1,qJ 119 1 111 118,qL 120 1 119,qM 121 7,qJ 122 3 120 121,qA 123 3 122,qO 16 (.eJ [] [zI,zI,zI]),qs 16 3 16 123]
def SN :=[qM 125 0,qO 126 (.mA (.t 125)),qF 127 0 126,qF 128 0 127,qF 129 4 128,qL 130 1 129,qM 131 8,qF 132 0 16,qV 133 16 1 132,qF 134 1 16,qV 135 16 1 134,qO 136 (.lK [zI,zI,zI,zI] [(0,1,(.t 133)),(1,1,(.t 135))]),qC 137 pJ [130,131,136],qM 124 137,qZ 138 124 0,qZ 139 124 1,qO 17 (.eJ [] [zI,zI,zI,zI,zI,zI,zI,zI,zI,zI]),qS 17 10 17 138,qm 15 139]
def SO :=[qm 140 15]
def SP:List Abs.Op:=[]
def SQ :=[qM 143 0,qO 144 (.mA (.t 143)),qF 145 0 144,qF 146 16 145,qL 147 1 146,qM 148 9,qJ 149 2 147 148,qA 150 2 149,qF 151 0 17,qW 152 17 4 151,qC 153 ri [150,152],qM 142 153,qZ 154 142 0,qZ 155 142 1,qZ 156 142 2,qO 18 (.eJ [] [zI,zI,zI,zI]),qS 18 4 18 154,qM 19 155,qm 15 156]
def SR :=[qm 157 15]
def SS:List Abs.Op:=[]
def SU :=[qm 159 11,qm 160 19,qo 161 (.uH 1 1 [zI] [(0,1,(.t 160))]),qy 162 1 8 159 161,qm 11 162]
def SV :=[qn 163 .add 88 1,qm 88 163]
def kf:Abs.cX :=
 (.seq (.ai [0,7,8,9,10,11,86,87,88,89] adR) (.seq (.ite (.t 89) .cI (.exit 0)) (.seq (.bD 1 (.seq (.ai [0,7,8,9,10,11,13,86,87,88] adS) (.seq (.ai [0,7,8,9,10,11,14,15,86,87,88] SJ) (.seq (.iT [0,7,8,9,10,11,14,86,87,88] aDZ ⟨some 109,none,false,.call false (.c (.fn bX [] [])) [(.t 108)]⟩ SL) (.seq (.ai [0,7,8,9,10,11,16,86,87,88] SM) (.seq (.ai [0,7,8,9,10,11,15,17,86,87,88] SN) (.seq (.iT [0,7,8,9,10,11,17,86,87,88] SO ⟨some 141,none,false,.call false (.c (.fn bX [] [])) [(.t 140)]⟩ SP) (.seq (.ai [0,7,8,9,10,11,15,19,86,87,88] SQ) (.seq (.iT [0,7,8,9,10,11,19,86,87,88] SR ⟨some 158,none,false,.call false (.c (.fn bX [] [])) [(.t 157)]⟩ SS) (.ai [0,7,8,9,10,11,86,87,88] SU)))))))))) (.ai [0,7,8,9,10,11,86,87,88] SV))))
def SW :=[qm 164 11,qc 165 rh [164],qo 20 (.eJ [] [zI,zI]),qs 20 2 20 165]
def SX :=[qM 166 0,qM 167 0,qO 168 (.mA (.t 167)),qF 169 0 168,qF 170 17 169,qL 171 1 170,qM 172 0,qO 173 (.mA (.t 172)),qF 174 0 173,qF 175 10 174,qL 176 1 175,qE 177 176,qM 178 7,qW 179 20 2 20,qF 180 0 20,qV 181 20 1 180,qM 182 10,qK 183 .mul 181 182,qF 184 1 20,qV 185 20 1 184,qM 186 10,qK 187 .mul 185 186,qO 188 (.lK [zI,zI] [(0,1,(.t 183)),(1,1,(.t 187))]),qO 189 (.lK [zI,zI,zI,zI,zI,zI] [(0,1,(.t 177)),(1,1,(.t 178)),(2,2,(.t 179)),(4,2,(.t 188))]),qO 190 (.uH 1 6 [zI,zI,zI,zI,zI,zI] [(0,6,(.t 189))]),qO 191 (.app 6 48 (.t 171) (.t 190)),qo 192 (.mA (.t 166)),qf 193 0 192,qf 194 17 193,⟨none,none,false,.st [(0,6)] 1 (.t 194) (.t 191)⟩]
def DO:bP:=⟨[(18,[]),(17,[0,7,10,20]),(16,[0,7,8,9,10,11,86,87,88]),(15,[0,7,8,9,10,11,86,87,88]),(14,[0,7,8,9,10,11,19,86,87,88]),(13,[0,7,8,9,10,11,15,19,86,87,88]),(12,[0,7,8,9,10,11,17,86,87,88]),(11,[0,7,8,9,10,11,15,17,86,87,88]),(10,[0,7,8,9,10,11,16,86,87,88]),(9,[0,7,8,9,10,11,14,86,87,88]),(8,[0,7,8,9,10,11,14,15,86,87,88]),(7,[0,7,8,9,10,11,13,86,87,88]),(6,[0,7,8,9,10,11,86,87,88,89]),(5,[0,7,8,9,10,11,86,87,88]),(4,[0,6,7,8,9,10,11]),(3,[0,6,7,8,9,10]),(2,[0,6,7,8,9,10]),(1,[0,2,6]),(0,[0,2,6])],[(0,[0,7,8,9,10,11,86,87,88])],[],[0,11,13,14,16,17,18,20],[13,14,16,17,18,20],[(18029,[(0,6)])],[],[(17,[11])],[],[],[(1,some 12),(3,some 37),(9,some 1),(12,some 1),(14,some 1)]⟩
def kL:Abs.Fn:=⟨3,[],
 (.seq (.ai [0,2,6] adJ) (.seq (.iT [0,2,6] adK ⟨some 35,none,false,.call false (.c (.fn bd [] [])) [(.t 34),(.c (.int .i64 8))]⟩ adL) (.seq (.ai [0,6,7,8,9,10] adM) (.seq (.iT [0,6,7,8,9,10] adN ⟨some 85,none,false,.call false (.c (.fn bd [] [])) [(.t 84),(.c (.int .i64 2))]⟩ adO) (.seq (.ai [0,6,7,8,9,10,11] adP) (.seq (.seq (.ai [0,7,8,9,10,11,86,87,88] adQ) (.bD 0 (.loop [0,7,8,9,10,11,86,87,88] false kf))) (.seq (.seq (.cG [11]) (.ai [0,7,10,20] SW)) (.ai [] SX))))))))⟩
attribute [simp] adJ adK adL adM adN adO adP adQ adR adS SJ aDZ SL SM SN SO SP SQ SR SS SU SV SW SX
def as8 :=[qi 4 0]
def as9 :=[qm 6 0,qe 7 6,qi 8 0]
def ata :=[qk 9 .lss 8 7]
def atb :=[qm 10 8,qm 5 10]
def atc :=[qm 11 1,qm 12 0,qm 13 5,qj 14 3 12 13,qa 15 3 14,qo 16 (.call false (.t 11) [(.t 15)])]
def atd :=[qm 17 5,qm 4 17]
def ate :=[qn 18 .add 8 1,qm 8 18]
def uC:Abs.cX :=
 (.seq (.ai [0,1,7,8,9] ata) (.seq (.ite (.t 9) .cI (.exit 0)) (.seq (.bD 1 (.seq (.ai [0,1,5,7,8] atb) (.seq (.ai [0,1,5,7,8,16] atc) (.ite (.t 16) (.seq (.ai [4] atd) .ret) .cI)))) (.ai [0,1,7,8] ate))))
def atf :=[qi 4 (-1)]
def v8:bP:=IG [(7,[4]),(6,[0,1,7,8]),(5,[4]),(4,[0,1,5,7,8,16]),(3,[0,1,5,7,8]),(2,[0,1,7,8,9]),(1,[0,1,7,8]),(0,[0,1])] [(0,[0,1,7,8])]
def pq:Abs.Fn:=⟨2,[.t 4],
 (.seq (.ai [0,1] as8) (.seq (.seq (.ai [0,1,7,8] as9) (.bD 0 (.loop [0,1,7,8] false uC))) (.seq (.ai [4] atf) .ret)))⟩
def aee :=[qF 6 0 1,qF 7 0 6,qL 8 1 7,qF 9 0 1,qF 10 1 9,qL 11 1 10,qM 3 8,qm 4 11]
def aef :=[qa 12 9 1,qc 13 dp [12],qi 14 0]
def aeg :=[qk 15 .lss 14 13]
def aeh :=[qm 16 14,qm 5 16]
def aei :=[qm 17 5,qn 18 .add 17 1,qm 19 3,qk 20 .rem 18 19,qn 21 .neq 20 0,qm 22 21,qg 22 true (qm 23 0),qg 22 true (qm 24 5),qg 22 true (qm 25 5),qg 22 true (qn 26 .add 25 1),qg 22 true (qo 27 (.lK [zI,zI] [(0,1,(.t 24)),(1,1,(.t 26))])),qg 22 true (qo 28 (.call false (.t 23) [(.t 27)])),qg 22 true (qu 29 28),qp 30 22 29]
def aej :=[qm 31 5,qm 32 3,qk 33 .quo 31 32,qm 34 4,qk 35 .rem 33 34,qm 36 4,qn 37 .sub 36 1,qk 38 .neq 35 37,qm 39 38,qg 39 true (qm 40 0),qg 39 true (qm 41 5),qg 39 true (qm 42 5),qg 39 true (qm 43 3),qg 39 true (qk 44 .add 42 43),qg 39 true (qo 45 (.lK [zI,zI] [(0,1,(.t 41)),(1,1,(.t 44))])),qg 39 true (qo 46 (.call false (.t 40) [(.t 45)])),qg 39 true (qu 47 46),qp 48 39 47]
def aek :=[qm 49 5,qm 50 3,qm 51 4,qk 52 .mul 50 51,qk 53 .add 49 52,qa 54 9 1,qc 55 dp [54],qk 56 .lss 53 55,qm 57 56,qg 57 true (qm 58 0),qg 57 true (qm 59 5),qg 57 true (qm 60 5),qg 57 true (qm 61 3),qg 57 true (qm 62 4),qg 57 true (qk 63 .mul 61 62),qg 57 true (qk 64 .add 60 63),qg 57 true (qo 65 (.lK [zI,zI] [(0,1,(.t 59)),(1,1,(.t 64))])),qg 57 true (qo 66 (.call false (.t 58) [(.t 65)])),qg 57 true (qu 67 66),qp 68 57 67]
def ael :=[qn 69 .add 14 1,qm 14 69]
def mo:Abs.cX :=
 (.seq (.ai [0,1,3,4,13,14,15] aeg) (.seq (.ite (.t 15) .cI (.exit 0)) (.seq (.bD 1 (.seq (.ai [0,1,3,4,5,13,14] aeh) (.seq (.seq (.ai [0,1,3,4,5,13,14,30] aei) (.ite (.t 30) .ret .cI)) (.seq (.seq (.ai [0,1,3,4,5,13,14,48] aej) (.ite (.t 48) .ret .cI)) (.seq (.ai [0,1,3,4,13,14,68] aek) (.ite (.t 68) .ret .cI)))))) (.ai [0,1,3,4,13,14] ael))))
def EO:bP:=IG [(7,[0,1,3,4,13,14]),(6,[0,1,3,4,13,14,68]),(5,[0,1,3,4,5,13,14,48]),(4,[0,1,3,4,5,13,14,30]),(3,[0,1,3,4,5,13,14]),(2,[0,1,3,4,13,14,15]),(1,[0,1,3,4,13,14]),(0,[0,1,3,4])] [(0,[0,1,3,4,13,14])]
def oN:Abs.Fn:=⟨2,[],
 (.seq (.ai [0,1,3,4] aee) (.seq (.ai [0,1,3,4,13,14] aef) (.bD 0 (.loop [0,1,3,4,13,14] false mo))))⟩
attribute [simp] aee aef aeg aeh aei aej aek ael
def atg :=[qb 4 false]
def ath :=[qm 5 0,qm 6 1,qc 7 gp [5,6],qn 8 .geq 7 0,qm 4 8]
def tD:bP:=iL [(1,[4]),(0,[0,1])]
def na:Abs.Fn:=⟨2,[.t 4],
 (.seq (.ai [0,1] atg) (.seq (.ai [4] ath) .ret))⟩
def ati :=[qx 2 0,qb 3 false]
def atj :=[ql 4 1 1,qa 5 3 2,qo 6 (.call false (.t 4) [(.t 5)]),qu 7 6,qm 3 7]
def zF:bP:=iL [(1,[3]),(0,[1,2])]
def tc:Abs.Fn:=⟨2,[.t 3],
 (.seq (.ai [1,2] ati) (.seq (.ai [3] atj) .ret))⟩
def aem :=[qm 2 0,qn 3 .eql 2 0,qm 4 0]
def aen:List Abs.Op:=[]
def Jy:bP:=⟨[(0,[])],[],[],[],[],[],[],[],[],[],[(0,some 3)]⟩
def qY:Abs.Fn:=⟨1,[],
 (.iT [] aem ⟨some 5,none,false,.call false (.c (.fn bd [] [])) [(.t 3),(.t 4)]⟩ aen)⟩
attribute [simp] aem aen
def aeo :=[qx 1 0,qi 2 0]
def aep :=[qa 3 9 1,qc 4 jz [3],qu 5 4]
def aeq :=[qi 2 1]
def aer :=[qi 2 0]
def ID:bP:=⟨[(3,[2]),(2,[2]),(1,[5]),(0,[1])],[],[],[],[],[],[],[(0,[0])],[],[],[]⟩
def sH:Abs.Fn:=⟨1,[.t 2],
 (.seq (.seq (.cG [0]) (.ai [1] aeo)) (.seq (.seq (.ai [5] aep) (.ite (.t 5) (.seq (.ai [2] aeq) .ret) .cI)) (.seq (.ai [2] aer) .ret)))⟩
attribute [simp] aeo aep aeq aer
def aes :=[qo 2 (.pB 3)]
def aet :=[qm 3 0,qo 4 (.Vn false false (.t 3))]
def aeu :=[qo 2 (.pB 3)]
def aev :=[qo 5 (.Oa 0 3 [] []),qm 6 0,qy 7 3 24 5 6,qm 2 7]
def zd:bP:=NA [(3,[2]),(2,[2]),(1,[0,4]),(0,[0])] [] [] [2,5]
def gD:Abs.Fn:=⟨1,[.t 2],
 (.seq (.ai [0] aes) (.seq (.seq (.ai [0,4] aet) (.ite (.t 4) (.seq (.ai [2] aeu) .ret) .cI)) (.seq (.ai [2] aev) .ret)))⟩
attribute [simp] aes aet aeu aev
def atk :=[qb 4 false]
def atl :=[qm 5 0,qm 6 1,qc 7 dt [5,6],qn 8 .geq 7 0,qm 4 8]
def rY:bP:=iL [(1,[4]),(0,[0,1])]
def lD:Abs.Fn:=⟨2,[.t 4],
 (.seq (.ai [0,1] atk) (.seq (.ai [4] atl) .ret))⟩
def aeR :=[qx 2 0,qb 3 false]
def aeS :=[qf 4 0 2,qf 5 0 4,ql 6 1 5,ql 7 1 1,qo 8 (.rl (.seq false) [(.t 6),(.t 7)]),qm 3 8]
def Ao:bP:=iL [(1,[3]),(0,[1,2])]
def lf:Abs.Fn:=⟨2,[.t 3],
 (.seq (.ai [1,2] aeR) (.seq (.ai [3] aeS) .ret))⟩
attribute [simp] aeR aeS
def aeT :=[qx 2 0,qx 3 1,qo 4 (.mv (.c .aG)),qi 5 0]
def aeU :=[qa 9 9 2,qa 10 2 3,qc 11 sT [9,10],qm 8 11,qz 12 8 0,qz 13 8 1,qo 6 (.eJ [] [zI,zI,zI,zI,.aG,zI,zI,zI,.aG,(.str []),.aG]),qs 6 11 6 12,qm 7 13]
def aeV :=[qm 14 7,qn 15 .neq 14 0]
def aeW :=[qm 16 7,qo 4 (.mv (.c .aG)),qm 5 16]
def aeX :=[qw 17 6 11 6,qc 18 iQ [17],qm 4 18,qi 5 0]
def MC:bP:=⟨[(4,[4,5]),(3,[4,5]),(2,[6,7,15]),(1,[6,7]),(0,[2,3])],[],[],[6],[6],[],[],[(0,[0])],[],[],[]⟩
def tP:Abs.Fn:=⟨2,[.t 4,.t 5],
 (.seq (.seq (.cG [0]) (.ai [2,3] aeT)) (.seq (.ai [6,7] aeU) (.seq (.seq (.ai [6,7,15] aeV) (.ite (.t 15) (.seq (.ai [4,5] aeW) .ret) .cI)) (.seq (.ai [4,5] aeX) .ret))))⟩
attribute [simp] aeT aeU aeV aeW aeX
def aeY :=[qx 2 0,qx 3 1,qi 4 0]
def aeZ :=[qa 5 4 2,qo 6 (.yF cQ [(.t 5)] []),qo 7 (.yF dT [] [(.t 2),(.t 3)]),qo 8 (.uH 2 1 [.iS,.iS] [(0,1,(.t 6)),(1,1,(.t 7))]),qc 9 nD [8],qm 4 9]
def Bs:bP:=iL [(1,[4]),(0,[2,3])]
def l6:Abs.Fn:=⟨2,[.t 4],
 (.seq (.ai [2,3] aeY) (.seq (.ai [4] aeZ) .ret))⟩
attribute [simp] aeY aeZ
def ae0 :=[qx 4 1]
def ae1 :=[qm 9 0,qo 10 (.mA (.t 9)),qf 11 0 10,qf 12 9 11,ql 13 1 12,qe 14 13,qi 15 0]
def ae2 :=[qk 16 .lss 15 14]
def ae3 :=[qm 17 15,qj 18 4 13 15,qa 19 4 18,qo 7 (.eJ [] [(.str []),.aG,(.bool false),zI]),qm 6 17,qs 7 4 7 19]
def ae4 :=[qf 20 2 7,qv 21 7 1 20,qu 22 21]
def ae5 :=[qm 23 2,qf 24 0 7,qw 25 7 2 24,qo 26 (.call false (.t 23) [(.t 25)]),qm 8 26]
def ae6 :=[qm 27 8,qf 28 0 4,ql 29 1 28,qf 30 1 4,ql 31 1 30,qc 32 cF [27,29,31],qu 33 32]
def ae7 :=[qM 34 0,qO 35 (.mA (.t 34)),qF 36 0 35,qF 37 9 36,qL 38 1 37,qM 39 6,qM 40 0,qO 41 (.mA (.t 40)),qF 42 0 41,qF 43 9 42,qL 44 1 43,qM 45 6,qM 46 0,qO 47 (.mA (.t 46)),qF 48 20 47,qL 49 1 48,qJ 50 4 38 39,qF 51 2 50,⟨none,none,true,.st [] 1 (.t 51) (.c (.bool false))⟩,qj 52 4 44 45,qf 53 3 52,qt 1 53 49]
def ae8 :=[qM 54 0,qO 55 (.mA (.t 54)),qF 56 19 55,qL 57 1 56,qM 58 6,qM 59 0,qO 60 (.mA (.t 59)),qF 61 20 60,qL 62 1 61,qM 63 8,qF 64 0 4,qL 65 1 64,qF 66 1 4,qL 67 1 66,qO 68 (.lK [zI,zI,zI,zI] [(0,1,(.t 62)),(1,1,(.t 63)),(2,1,(.t 65)),(3,1,(.t 67))]),qj 69 4 57 58,qt 4 69 68]
def ae9 :=[qn 70 .add 15 1,qm 15 70]
def ja:Abs.cX :=
 (.seq (.ai [0,2,4,13,14,15,16] ae2) (.seq (.ite (.t 16) .cI (.exit 0)) (.seq (.bD 1 (.seq (.ai [0,2,4,6,7,13,14,15] ae3) (.seq (.seq (.ai [0,2,4,6,7,13,14,15,22] ae4) (.ite (.t 22) (.exit 1) .cI)) (.seq (.ai [0,2,4,6,8,13,14,15] ae5) (.seq (.ai [0,2,4,6,8,13,14,15,33] ae6) (.ite (.t 33) (.seq (.ai [0,2,4,6,8,13,14,15] ae7) (.ai [0,2,4,13,14,15] ae8)) .cI)))))) (.ai [0,2,4,13,14,15] ae9))))
def BD:bP:=Fp [(9,[0,2,4,13,14,15]),(8,[0,2,4,13,14,15]),(7,[0,2,4,6,8,13,14,15]),(6,[0,2,4,6,8,13,14,15,33]),(5,[0,2,4,6,8,13,14,15]),(4,[0,2,4,6,7,13,14,15,22]),(3,[0,2,4,6,7,13,14,15]),(2,[0,2,4,13,14,15,16]),(1,[0,2,4,13,14,15]),(0,[0,2,4])] [(0,[0,2,4,13,14,15])] [] [7] [7] [] []
def mh:Abs.Fn:=⟨3,[],
 (.seq (.ai [0,2,4] ae0) (.seq (.ai [0,2,4,13,14,15] ae1) (.bD 0 (.loop [0,2,4,13,14,15] false ja))))⟩
attribute [simp] ae0 ae1 ae2 ae3 ae4 ae5 ae6 ae7 ae8 ae9
def afa :=[qx 3 0,qi 4 0]
def afb :=[qL 8 1 1,qO 9 (.mA (.t 8)),qF 10 0 9,qF 11 0 10,qF 12 0 11,qA 13 4 12,qA 14 2 3,qA 15 6 2,qC 16 vN [13,14,15],qM 7 16,qZ 17 7 0,qZ 18 7 1,qM 5 17,qm 6 18]
def afc :=[qm 19 5,qm 4 19]
def Cc:bP:=iL [(2,[4]),(1,[5]),(0,[1,2,3])]
def mT:Abs.Fn:=⟨3,[.t 4],
 (.seq (.ai [1,2,3] afa) (.seq (.ai [5] afb) (.seq (.ai [4] afc) .ret)))⟩
attribute [simp] afa afb afc
def afd :=[qx 6 2,qo 8 (.mv (.c .aG)),qi 9 0]
def afe :=[qo 10 (.mv (.c (.fn kz [] [])))]
def aff :=[qm 15 0,qe 16 15,qn 17 .gtr 16 500,qm 14 17]
def afg :=[qo 8 (.mv (.c .aG)),qi 9 3]
def afh :=[qm 19 0,qm 20 10,qc 21 gZ [19,20],qu 22 21,qm 23 22,qg 23 false (qm 24 1),qg 23 false (qe 25 24),qg 23 false (qm 26 0),qg 23 false (qe 27 26),qg 23 false (qk 28 .neq 25 27),qP 29 23 28,qm 30 29,qg 30 false (qm 31 1),qg 30 false (qo 32 (.call false (.c (.fn pc [] [])) [(.t 31),(.c (.fn qH [] []))])),qg 30 false (qu 33 32),qP 34 30 33,qm 35 34,qg 35 false (qm 36 10),qg 35 false (qm 37 3),qg 35 false (qo 38 (.call false (.t 36) [(.t 37)])),qg 35 false (qu 39 38),qP 40 35 39,qm 18 40]
def afi :=[qo 8 (.mv (.c .aG)),qi 9 1]
def afj :=[qo 42 (.BM 3 1 (.t 6) (.c (.int .u8 0))),ql 43 1 42,qn 44 .gtr 43 1000,qm 45 44,qg 45 false (qo 46 (.BM 3 1 (.t 6) (.c (.int .u8 1)))),qg 45 false (ql 47 1 46),qg 45 false (qo 48 (.BM 3 1 (.t 6) (.c (.int .u8 0)))),qg 45 false (ql 49 1 48),qg 45 false (qk 50 .gtr 47 49),qP 51 45 50,qm 52 51,qg 52 false (qo 53 (.BM 3 1 (.t 6) (.c (.int .u8 2)))),qg 52 false (ql 54 1 53),qg 52 false (qo 55 (.BM 3 1 (.t 6) (.c (.int .u8 1)))),qg 52 false (ql 56 1 55),qg 52 false (qk 57 .gtr 54 56),qP 58 52 57,qm 59 58,qg 59 false (qo 60 (.BM 3 1 (.t 6) (.c (.int .u8 2)))),qg 59 false (ql 61 1 60),qg 59 false (qn 62 .lss 61 0),qP 63 59 62,qm 41 63]
def afk :=[qo 8 (.mv (.c .aG)),qi 9 1]
def afl :=[qm 64 0,qe 65 64,qo 66 (.mks 1 8 [zI] (.t 65) (.t 65)),qm 11 66]
def afm :=[qm 67 0,qe 68 67,qi 69 0]
def SY :=[qk 70 .lss 69 68]
def SZ :=[qm 71 69,qj 72 1 67 69,ql 73 1 72,qm 12 71,qm 13 73]
def S0 :=[qm 74 11,qm 75 12,qm 76 13,qm 77 1,qm 78 12,qj 79 1 77 78,ql 80 1 79,qo 81 (.BM 3 1 (.t 6) (.t 80)),ql 82 1 81,qk 83 .mul 76 82,qn 84 .quo 83 1000,qj 85 1 74 75,qt 1 85 84]
def S3 :=[qm 86 12,qn 87 .gtr 86 0]
def S4 :=[qM 88 11,qM 89 12,qM 90 11,qM 91 12,qJ 92 1 90 91,qL 93 1 92,qM 94 11,qM 95 12,qN 96 .sub 95 1,qJ 97 1 94 96,qL 98 1 97,qM 99 3,qK 100 .add 98 99,qO 101 (.mn (.t 93) (.t 100)),qj 102 1 88 89,qt 1 102 101]
def S5 :=[qn 103 .add 69 1,qm 69 103]
def wC:Abs.cX :=
 (.seq (.ai [1,3,6,11,67,68,69,70] SY) (.seq (.ite (.t 70) .cI (.exit 1)) (.seq (.bD 2 (.seq (.ai [1,3,6,11,12,13,67,68,69] SZ) (.seq (.ai [1,3,6,11,12,67,68,69] S0) (.seq (.ai [1,3,6,11,12,67,68,69,87] S3) (.ite (.t 87) (.ai [1,3,6,11,67,68,69] S4) .cI))))) (.ai [1,3,6,11,67,68,69] S5))))
def S6 :=[qm 104 11,qm 8 104,qi 9 0]
def IE:bP:=IG [(16,[8,9]),(15,[1,3,6,11,67,68,69]),(14,[1,3,6,11,67,68,69]),(13,[1,3,6,11,12,67,68,69,87]),(12,[1,3,6,11,12,67,68,69]),(11,[1,3,6,11,12,13,67,68,69]),(10,[1,3,6,11,67,68,69,70]),(9,[1,3,6,11,67,68,69]),(8,[0,1,3,6,11]),(3,[8,9]),(5,[8,9]),(7,[8,9]),(6,[0,1,3,6,41]),(4,[0,1,3,6,18]),(2,[0,1,3,6,10,14]),(1,[0,1,3,6,10]),(0,[0,1,3,6])] [(1,[1,3,6,11,67,68,69])]
def sI:Abs.Fn:=⟨4,[.t 8,.t 9],
 (.seq (.ai [0,1,3,6] afd) (.seq (.ai [0,1,3,6,10] afe) (.seq (.bD 0 (.seq (.ai [0,1,3,6,10,14] aff) (.ite (.t 14) (.seq (.ai [8,9] afg) .ret) (.seq (.ai [0,1,3,6,18] afh) (.ite (.t 18) (.seq (.ai [8,9] afi) .ret) (.seq (.ai [0,1,3,6,41] afj) (.ite (.t 41) (.seq (.ai [8,9] afk) .ret) .cI))))))) (.seq (.ai [0,1,3,6,11] afl) (.seq (.seq (.ai [1,3,6,11,67,68,69] afm) (.bD 1 (.loop [1,3,6,11,67,68,69] false wC))) (.seq (.ai [8,9] S6) .ret))))))⟩
attribute [simp] afd afe aff afg afh afi afj afk afl afm SY SZ S0 S3 S4 S5 S6
def afn :=[qo 2 (.mv (.c .aG))]
def afo :=[qm 3 0,qo 4 (.mA (.t 3)),qf 5 0 4,qf 6 9 5,ql 7 1 6,qo 8 (.call false (.c (.fn dV [] [])) [(.t 7),(.c (.fn eQ [] []))]),qm 2 8]
def DK:bP:=iL [(1,[2]),(0,[0])]
def nQ:Abs.Fn:=⟨1,[.t 2],
 (.seq (.ai [0] afn) (.seq (.ai [2] afo) .ret))⟩
attribute [simp] afn afo
def afp :=[qo 2 (.pB 1)]
def afq :=[qm 3 0,qo 4 (.Vn false false (.t 3))]
def afr :=[qo 2 (.pB 1)]
def afs :=[qo 5 (.Oa 0 1 [] []),qm 6 0,qy 7 1 24 5 6,qm 2 7]
def Ck:bP:=NA [(3,[2]),(2,[2]),(1,[0,4]),(0,[0])] [] [] [2,5]
def j1:Abs.Fn:=⟨1,[.t 2],
 (.seq (.ai [0] afp) (.seq (.seq (.ai [0,4] afq) (.ite (.t 4) (.seq (.ai [2] afr) .ret) .cI)) (.seq (.ai [2] afs) .ret)))⟩
attribute [simp] afp afq afr afs
def aft :=[qx 4 0,qi 5 0]
def afu :=[qL 10 1 1,qO 11 (.mA (.t 10)),qF 12 0 11,qF 13 0 12,qA 14 9 13,qA 15 2 4,qO 16 (.uH 1 2 [(.str []),.aG] [(0,2,(.t 15))]),qL 17 1 1,qO 18 (.mA (.t 17)),qF 19 0 18,qF 20 10 19,qL 21 1 20,qA 22 5 2,qO 23 (.uH 1 5 [zI,(.int .u8 0),zI,zI,zI] [(0,5,(.t 22))]),qC 24 lY [14,16,21,23],qM 9 24,qZ 25 9 0,qZ 26 9 1,qZ 27 9 2,qM 6 25,qM 7 26,qm 8 27]
def afv :=[qm 29 7,qe 30 29,qn 31 .eql 30 0,qm 28 31]
def afw :=[ql 32 1 3,qo 33 (.fh 1 (.t 32) (.c (.int .i64 2))),ql 34 1 33,qm 5 34]
def afx :=[qm 36 7,qo 37 (.fh 3 (.t 36) (.c zI)),qf 38 2 37,ql 39 1 38,qn 40 .gtr 39 0,qm 35 40]
def afy :=[qL 41 1 3,qO 42 (.fh 1 (.t 41) (.c (.int .i64 3))),qL 43 1 42,qM 44 7,qO 45 (.fh 3 (.t 44) (.c zI)),qF 46 2 45,qL 47 1 46,qk 48 .add 43 47,qm 5 48]
def afz :=[qL 49 1 3,qO 50 (.fh 1 (.t 49) (.c (.int .i64 2))),qL 51 1 50,qM 52 7,qO 53 (.fh 3 (.t 52) (.c zI)),qF 54 2 53,qL 55 1 54,qk 56 .add 51 55,qm 5 56]
def BC:bP:=iL [(6,[5]),(3,[5]),(5,[5]),(4,[3,7,35]),(2,[3,7,28]),(1,[3,7]),(0,[1,2,3,4])]
def mg:Abs.Fn:=⟨4,[.t 5],
 (.seq (.ai [1,2,3,4] aft) (.seq (.ai [3,7] afu) (.seq (.bD 0 (.seq (.ai [3,7,28] afv) (.ite (.t 28) (.seq (.ai [5] afw) .ret) (.seq (.ai [3,7,35] afx) (.ite (.t 35) (.seq (.ai [5] afy) .ret) .cI))))) (.seq (.ai [5] afz) .ret))))⟩
attribute [simp] aft afu afv afw afx afy afz
def afA :=[qx 1 0,qi 2 0]
def afB :=[qa 3 2 1,qc 4 jw [3],qu 5 4]
def afC :=[qi 2 1]
def afD :=[qi 2 0]
def FQ:bP:=iL [(3,[2]),(2,[2]),(1,[5]),(0,[1])]
def pR:Abs.Fn:=⟨1,[.t 2],
 (.seq (.ai [1] afA) (.seq (.seq (.ai [5] afB) (.ite (.t 5) (.seq (.ai [2] afC) .ret) .cI)) (.seq (.ai [2] afD) .ret)))⟩
attribute [simp] afA afB afC afD
def afE :=[qo 2 (.eJ [] [zI,zI])]
def afF :=[qm 3 0,qc 4 ou [3],qm 5 0,qc 6 ot [5],qo 7 (.lK [zI,zI] [(0,1,(.t 4)),(1,1,(.t 6))]),qs 2 2 2 7]
def Jz:bP:=Fp [(1,[2]),(0,[0,2])] [] [] [2] [2] [] []
def tL:Abs.Fn:=⟨1,[.v 2 true 2],
 (.seq (.ai [0,2] afE) (.seq (.ai [2] afF) .ret))⟩
attribute [simp] afE afF
def atm :=[qi 4 0]
def atn :=[qm 6 0,qe 7 6,qi 8 0]
def ato :=[qk 9 .lss 8 7]
def atp :=[qm 10 8,qm 5 10]
def atq :=[qm 11 1,qm 12 0,qm 13 5,qj 14 3 12 13,qa 15 3 14,qo 16 (.call false (.t 11) [(.t 15)])]
def atr :=[qm 17 5,qm 4 17]
def ats :=[qn 18 .add 8 1,qm 8 18]
def tV:Abs.cX :=
 (.seq (.ai [0,1,7,8,9] ato) (.seq (.ite (.t 9) .cI (.exit 0)) (.seq (.bD 1 (.seq (.ai [0,1,5,7,8] atp) (.seq (.ai [0,1,5,7,8,16] atq) (.ite (.t 16) (.seq (.ai [4] atr) .ret) .cI)))) (.ai [0,1,7,8] ats))))
def att :=[qi 4 (-1)]
def vG:bP:=IG [(7,[4]),(6,[0,1,7,8]),(5,[4]),(4,[0,1,5,7,8,16]),(3,[0,1,5,7,8]),(2,[0,1,7,8,9]),(1,[0,1,7,8]),(0,[0,1])] [(0,[0,1,7,8])]
def oD:Abs.Fn:=⟨2,[.t 4],
 (.seq (.ai [0,1] atm) (.seq (.seq (.ai [0,1,7,8] atn) (.bD 0 (.loop [0,1,7,8] false tV))) (.seq (.ai [4] att) .ret)))⟩
def afG :=[qi 2 0]
def afH :=[qa 3 4 0,ql 4 1 1,qc 5 iy [3,4],qm 2 5]
def zE:bP:=iL [(1,[2]),(0,[0,1])]
def kc:Abs.Fn:=⟨2,[.t 2],
 (.seq (.ai [0,1] afG) (.seq (.ai [2] afH) .ret))⟩
attribute [simp] afG afH
def afI :=[qx 2 0,qi 4 0]
def afJ :=[qm 5 1,qe 6 5,qn 7 .gtr 6 12]
def afK :=[qi 4 3]
def afL :=[qm 8 1,qo 9 (.yF dD [] [(.t 2)]),qc 10 fu [8,9],qm 4 10]
def Am:bP:=iL [(3,[4]),(2,[4]),(1,[1,2,7]),(0,[1,2])]
def kX:Abs.Fn:=⟨2,[.t 4],
 (.seq (.ai [1,2] afI) (.seq (.seq (.ai [1,2,7] afJ) (.ite (.t 7) (.seq (.ai [4] afK) .ret) .cI)) (.seq (.ai [4] afL) .ret)))⟩
attribute [simp] afI afJ afK afL
def afM :=[qb 2 false]
def afN :=[qm 3 0,qo 4 (.call false (.c (.fn cn [] [])) [(.t 3),(.c zI),(.c (.int .i64 1000000000))]),qm 2 4]
def F1:bP:=iL [(1,[2]),(0,[0])]
def qD:Abs.Fn:=⟨1,[.t 2],
 (.seq (.ai [0] afM) (.seq (.ai [2] afN) .ret))⟩
attribute [simp] afM afN
def atu :=[qx 3 1,qb 4 false]
def atv :=[qm 5 0,qo 6 (.yF rj [] [(.t 3)]),qc 7 lB [5,6],qu 8 7,qm 4 8]
def E4:bP:=iL [(1,[4]),(0,[0,3])]
def xA:Abs.Fn:=⟨2,[.t 4],
 (.seq (.ai [0,3] atu) (.seq (.ai [4] atv) .ret))⟩
def atw :=[qb 2 false]
def atx :=[qm 3 0,qo 4 (.bin .leq (.t 3) (.c (.int .u8 2))),qm 2 4]
def F2:bP:=iL [(1,[2]),(0,[0])]
def yu:Abs.Fn:=⟨1,[.t 2],
 (.seq (.ai [0] atw) (.seq (.ai [2] atx) .ret))⟩
def afO :=[qo 4 (.pB 4)]
def afP :=[qm 7 0,qe 8 7,qi 9 0]
def afQ :=[qk 10 .lss 9 8]
def afR :=[qj 11 4 7 9,qa 12 4 11,qo 6 (.eJ [] [(.str []),.aG,(.bool false),zI]),qs 6 4 6 12]
def afS :=[qm 13 1,qw 14 6 4 6,qo 15 (.call false (.t 13) [(.t 14)])]
def afT :=[qm 16 4,qw 17 6 4 6,qo 18 (.uH 1 4 [(.str []),.aG,(.bool false),zI] [(0,4,(.t 17))]),qy 19 4 56 16 18,qm 4 19]
def afU :=[qn 20 .add 9 1,qm 9 20]
def eG:Abs.cX :=
 (.seq (.ai [1,4,7,8,9,10] afQ) (.seq (.ite (.t 10) .cI (.exit 0)) (.seq (.bD 1 (.seq (.ai [1,4,6,7,8,9] afR) (.seq (.ai [1,4,6,7,8,9,15] afS) (.ite (.t 15) (.ai [1,4,7,8,9] afT) .cI)))) (.ai [1,4,7,8,9] afU))))
def afV :=[qm 21 4,qm 4 21]
def uR:bP:=Fp [(7,[4]),(6,[1,4,7,8,9]),(5,[1,4,7,8,9]),(4,[1,4,6,7,8,9,15]),(3,[1,4,6,7,8,9]),(2,[1,4,7,8,9,10]),(1,[1,4,7,8,9]),(0,[0,1,4])] [(0,[1,4,7,8,9])] [] [4,6] [6] [] []
def fM:Abs.Fn:=⟨2,[.t 4],
 (.seq (.ai [0,1,4] afO) (.seq (.seq (.ai [1,4,7,8,9] afP) (.bD 0 (.loop [1,4,7,8,9] false eG))) (.seq (.ai [4] afV) .ret)))⟩
attribute [simp] afO afP afQ afR afS afT afU afV
def afW :=[qx 1 0,qb 2 false]
def afX :=[qf 3 2 1,ql 4 1 3,qm 2 4]
def BA:bP:=iL [(1,[2]),(0,[1])]
def mf:Abs.Fn:=⟨1,[.t 2],
 (.seq (.ai [1] afW) (.seq (.ai [2] afX) .ret))⟩
attribute [simp] afW afX
def afY :=[qi 2 0]
def afZ :=[qm 5 0,qe 6 5,qn 7 .lss 6 1]
def af0 :=[qo 8 (.mki 9 (.c (.str [115,108,105,99,101,115,46,77,105,110,58,32,101,109,112,116,121,32,108,105,115,116])))]
def af1:List Abs.Op:=[]
def af2 :=[qm 9 0,qo 10 (.fh 1 (.t 9) (.c zI)),ql 11 1 10,qm 3 11]
def af3 :=[qi 4 1]
def af4 :=[qm 12 4,qm 13 0,qe 14 13,qk 15 .lss 12 14]
def af5 :=[qm 18 3,qm 19 0,qm 20 4,qj 21 1 19 20,ql 22 1 21,qo 23 (.mn (.t 18) (.t 22)),qm 3 23]
def af6 :=[qm 16 4,qn 17 .add 16 1,qm 4 17]
def n0:Abs.cX :=
 (.seq (.seq (.ai [0,3,4,15] af4) (.ite (.t 15) .cI (.exit 0))) (.seq (.bD 1 (.ai [0,3,4] af5)) (.ai [0,3,4] af6)))
def S7 :=[qm 24 3,qm 2 24]
def Hb:bP:=⟨[(8,[2]),(6,[0,3,4]),(7,[0,3,4]),(5,[0,3,4,15]),(4,[0,3,4]),(3,[0,3]),(2,[0]),(1,[0,7]),(0,[0])],[(0,[0,3,4])],[],[],[],[],[],[],[],[],[(2,some 1)]⟩
def rK:Abs.Fn:=⟨1,[.t 2],
 (.seq (.ai [0] afY) (.seq (.seq (.ai [0,7] afZ) (.ite (.t 7) (.iT [0] af0 ⟨none,none,false,.PC (.t 8)⟩ af1) .cI)) (.seq (.ai [0,3] af2) (.seq (.seq (.ai [0,3,4] af3) (.bD 0 (.loop [0,3,4] false n0))) (.seq (.ai [2] S7) .ret)))))⟩
attribute [simp] afY afZ af0 af1 af2 af3 af4 af5 af6 S7
def af7 :=[qi 2 0]
def af8 :=[qm 5 0,qe 6 5,qn 7 .lss 6 1]
def af9 :=[qo 8 (.mki 9 (.c (.str [115,108,105,99,101,115,46,77,97,120,58,32,101,109,112,116,121,32,108,105,115,116])))]
def aga:List Abs.Op:=[]
def agb :=[qm 9 0,qo 10 (.fh 1 (.t 9) (.c zI)),ql 11 1 10,qm 3 11]
def agc :=[qi 4 1]
def agd :=[qm 12 4,qm 13 0,qe 14 13,qk 15 .lss 12 14]
def age :=[qm 18 3,qm 19 0,qm 20 4,qj 21 1 19 20,ql 22 1 21,qo 23 (.mx (.t 18) (.t 22)),qm 3 23]
def agf :=[qm 16 4,qn 17 .add 16 1,qm 4 17]
def nZ:Abs.cX :=
 (.seq (.seq (.ai [0,3,4,15] agd) (.ite (.t 15) .cI (.exit 0))) (.seq (.bD 1 (.ai [0,3,4] age)) (.ai [0,3,4] agf)))
def S8 :=[qm 24 3,qm 2 24]
def Ha:bP:=⟨[(8,[2]),(6,[0,3,4]),(7,[0,3,4]),(5,[0,3,4,15]),(4,[0,3,4]),(3,[0,3]),(2,[0]),(1,[0,7]),(0,[0])],[(0,[0,3,4])],[],[],[],[],[],[],[],[],[(2,some 1)]⟩
def rJ:Abs.Fn:=⟨1,[.t 2],
 (.seq (.ai [0] af7) (.seq (.seq (.ai [0,7] af8) (.ite (.t 7) (.iT [0] af9 ⟨none,none,false,.PC (.t 8)⟩ aga) .cI)) (.seq (.ai [0,3] agb) (.seq (.seq (.ai [0,3,4] agc) (.bD 0 (.loop [0,3,4] false nZ))) (.seq (.ai [2] S8) .ret)))))⟩
attribute [simp] af7 af8 af9 aga agb agc agd age agf S8
def agh :=[qi 4 0]
def agi :=[qo 10 (.mp (.make) []),qm 5 10]
def agj :=[qm 11 0,qe 12 11,qi 13 0]
def agk :=[qk 14 .lss 13 12]
def agl :=[qj 15 6 11 13,qa 16 6 15,qo 7 (.eJ [] [(.str []),zI,.aG,.aG,zI,zI]),qs 7 6 7 16]
def agm :=[qm 18 1,qw 19 7 6 7,qo 20 (.call false (.t 18) [(.t 19)]),qm 17 20,qz 21 17 0,qz 22 17 1,qm 8 21,qm 9 22]
def agn :=[qm 23 9,qn 24 .neq 23 0]
def ago :=[qm 25 9,qm 4 25]
def agp :=[qm 26 5,qm 27 8,qo 28 (.mp (.get none (.bool false) false) [(.t 26),(.t 27)])]
def agq :=[qi 4 6]
def S9 :=[qm 29 5,qm 30 8,⟨none,none,false,.mp (.put none) [(.t 29),(.t 30),(.c (.bool true))]⟩]
def Ta :=[qn 31 .add 13 1,qm 13 31]
def fL:Abs.cX :=
 (.seq (.ai [1,5,11,12,13,14] agk) (.seq (.ite (.t 14) .cI (.exit 0)) (.seq (.bD 1 (.seq (.ai [1,5,7,11,12,13] agl) (.seq (.ai [1,5,8,9,11,12,13] agm) (.seq (.seq (.ai [1,5,8,9,11,12,13,24] agn) (.ite (.t 24) (.seq (.ai [4] ago) .ret) .cI)) (.seq (.seq (.ai [1,5,8,11,12,13,28] agp) (.ite (.t 28) (.seq (.ai [4] agq) .ret) .cI)) (.ai [1,5,11,12,13] S9)))))) (.ai [1,5,11,12,13] Ta))))
def Tb :=[qi 4 0]
def xj:bP:=Fp [(12,[4]),(11,[1,5,11,12,13]),(10,[1,5,11,12,13]),(9,[4]),(8,[1,5,8,11,12,13,28]),(7,[4]),(6,[1,5,8,9,11,12,13,24]),(5,[1,5,8,9,11,12,13]),(4,[1,5,7,11,12,13]),(3,[1,5,11,12,13,14]),(2,[1,5,11,12,13]),(1,[0,1,5]),(0,[0,1])] [(0,[1,5,11,12,13])] [] [7] [7] [] []
def ir:Abs.Fn:=⟨2,[.t 4],
 (.seq (.ai [0,1] agh) (.seq (.ai [0,1,5] agi) (.seq (.seq (.ai [1,5,11,12,13] agj) (.bD 0 (.loop [1,5,11,12,13] false fL))) (.seq (.ai [4] Tb) .ret))))⟩
attribute [simp] agh agi agj agk agl agm agn ago agp agq S9 Ta Tb
def agr :=[qx 2 0,qo 3 (.mv (.c (.str []))),qi 4 0]
def ags :=[qF 5 0 2,qL 6 1 5,qA 7 4 1,qA 8 6 2,qC 9 gw [7,8],qm 3 6,qm 4 9]
def y8:bP:=iL [(1,[3,4]),(0,[1,2])]
def jN:Abs.Fn:=⟨2,[.t 3,.t 4],
 (.seq (.ai [1,2] agr) (.seq (.ai [3,4] ags) .ret))⟩
attribute [simp] agr ags
def aty :=[qb 4 false]
def atz :=[qm 5 0,qm 6 1,qc 7 nF [5,6],qn 8 .geq 7 0,qm 4 8]
def wL:bP:=iL [(1,[4]),(0,[0,1])]
def qh:Abs.Fn:=⟨2,[.t 4],
 (.seq (.ai [0,1] aty) (.seq (.ai [4] atz) .ret))⟩
def atA :=[qb 3 false]
def atB :=[ql 4 1 1,qm 5 0,qo 6 (.call false (.t 4) [(.t 5)]),qu 7 6,qm 3 7]
def Cp:bP:=iL [(1,[3]),(0,[0,1])]
def vK:Abs.Fn:=⟨2,[.t 3],
 (.seq (.ai [0,1] atA) (.seq (.ai [3] atB) .ret))⟩
def atC :=[qi 4 0]
def atD :=[qm 6 0,qe 7 6,qi 8 0]
def atE :=[qk 9 .lss 8 7]
def atF :=[qm 10 8,qm 5 10]
def atG :=[qm 11 1,qm 12 0,qm 13 5,qj 14 1 12 13,ql 15 1 14,qo 16 (.call false (.t 11) [(.t 15)])]
def atH :=[qm 17 5,qm 4 17]
def atI :=[qn 18 .add 8 1,qm 8 18]
def wS:Abs.cX :=
 (.seq (.ai [0,1,7,8,9] atE) (.seq (.ite (.t 9) .cI (.exit 0)) (.seq (.bD 1 (.seq (.ai [0,1,5,7,8] atF) (.seq (.ai [0,1,5,7,8,16] atG) (.ite (.t 16) (.seq (.ai [4] atH) .ret) .cI)))) (.ai [0,1,7,8] atI))))
def atJ :=[qi 4 (-1)]
def ze:bP:=IG [(7,[4]),(6,[0,1,7,8]),(5,[4]),(4,[0,1,5,7,8,16]),(3,[0,1,5,7,8]),(2,[0,1,7,8,9]),(1,[0,1,7,8]),(0,[0,1])] [(0,[0,1,7,8])]
def sj:Abs.Fn:=⟨2,[.t 4],
 (.seq (.ai [0,1] atC) (.seq (.seq (.ai [0,1,7,8] atD) (.bD 0 (.loop [0,1,7,8] false wS))) (.seq (.ai [4] atJ) .ret)))⟩
def tF3:List (Nat×bP×Abs.Fn):=[(fA,Ce,jY),(gi,DP,kM),(gf,DM,kJ),(gj,DQ,kN),(gh,DO,kL),(gK,v8,pq),(jx,EO,oN),(eW,tD,na),(kq,zF,tc),(bX,Jy,qY),(mM,ID,sH),(eK,zd,gD),(dZ,rY,lD),(eo,Ao,lf),(tZ,MC,tP),(ji,Bs,l6),(gB,BD,mh),(fx,Cc,mT),(pA,IE,sI),(gb,DK,nQ),(gX,Ck,j1),(eR,BC,mg),(nj,FQ,pR),(rh,Jz,tL),(gp,vG,oD),(dT,zE,kc),(iy,Am,kX),(kz,F1,qD),(pc,E4,xA),(qH,F2,yu),(dV,uR,fM),(eQ,BA,mf),(ou,Hb,rK),(ot,Ha,rJ),(fu,xj,ir),(dD,y8,jN),(lB,wL,qh),(rj,Cp,vK),(nF,ze,sj)]
theorem kF3:(tF3.map fun p=>chk p)=tF3.map fun p=>some p.2.2:=by kernel_rfl
end Go.Proofs.YtfgljaglidhjiaaGreatDoor
