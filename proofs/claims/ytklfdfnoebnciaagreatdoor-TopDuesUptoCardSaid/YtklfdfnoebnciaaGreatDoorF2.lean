import Derived.Test.YtklfdfnoebnciaaGreatDoorIds
set_option linter.all false
set_option maxRecDepth 100000
namespace Go.Proofs.YtklfdfnoebnciaaGreatDoor
open Go Go.Abs
def SF :=[qo 5 (.K7)]
def SG :=[qo 7 (.isi false (.t 5))]
def SH :=[qm 2 5]
def SI :=[qo 8 (.tas 259 (some (.agg [])) (.t 5)),qz 9 8 1,qz 10 8 0]
def SJ :=[qo 3 (.dT [] []),qs 3 0 3 10]
def awp :=[qm 11 0,qo 12 (.ng (.t 11)),⟨none,none,false,.st [] 1 (.t 12) (.c (.int .i64 9))⟩]
def SL :=[qm 4 5]
def SM :=[qm 6 4]
def SN:List Abs.Op:=[]
def pc:Abs.Fn:=⟨1,[],sR [0,5] SF (.bL 0 (sR [0,5,7] SG (.ite (.t 7) (.cm [] SH) (sR [0,5,9,10] SI (.ite (.t 9) (sR [0] SJ (.cm [] awp)) (sR [4] SL (.gZ [] SM ⟨none,none,false,.K6 (.t 6)⟩ SN)))))))⟩
attribute [simp] SF SG SH SI SJ awp SL SM SN
def SO :=[qx 2 0,qo 4 (.dT [(0,1),(1,1)] [.aI,.aI])]
def SP :=[qa 10 11 2,qc 11 ij [10],qo 12 (.K4 1 1 [.aI] [(0,1,(.t 11))]),qf 13 0 4,⟨none,none,false,.Er 4 [(0,1),(1,1)] 1 13 (.t 12)⟩]
def SQ :=[qm 14 1,qe 15 14,qi 16 0]
def SR :=[qk 17 .lss 16 15]
def SS :=[qm 18 16,qj 19 1 14 16,ql 20 1 19,qm 5 18,qm 6 20]
def SU :=[qA 22 11 2,qF 23 0 4,qV 24 4 1 23,qM 25 5,qJ 26 1 24 25,qL 27 1 26,qM 28 6,qC 29 lF [22,27,28],qM 21 29,qZ 30 21 0,qZ 31 21 1,qZ 32 21 2,qM 7 30,qM 8 31,qm 9 32]
def SV :=[qm 33 9,qn 34 .neq 33 0]
def SW :=[qo 35 (.lf [] []),qo 36 (.mki 259 (.t 35))]
def SX:List Abs.Op:=[]
def SY :=[qF 37 0 4,qV 38 4 1 37,qM 39 7,qO 40 (.uH 1 1 [.aI] [(0,1,(.t 39))]),qO 41 (.app 1 24 (.t 38) (.t 40)),qF 42 1 4,qV 43 4 1 42,qM 44 8,qO 45 (.uH 1 1 [.aI] [(0,1,(.t 44))]),qO 46 (.app 1 24 (.t 43) (.t 45)),qF 47 0 4,⟨none,none,false,.Er 4 [(0,1),(1,1)] 1 47 (.t 41)⟩,qf 48 1 4,⟨none,none,false,.Er 4 [(0,1)] 1 48 (.t 46)⟩]
def M5 :=[qn 49 .add 16 1,qm 16 49]
def lV:Abs.cA:=sR [2,4,14,15,16,17] SR (.seq (.ite (.t 17) .ep (.exit 0)) (.seq (.bL 1 (sR [2,4,5,6,14,15,16] SS (sR [2,4,7,8,9,14,15,16] SU (sI [2,4,7,8,14,15,16,34] SV 34 (.gZ [2,4,7,8,14,15,16] SW ⟨none,none,false,.K6 (.t 36)⟩ SX) .ep (.cm [2,4,14,15,16] SY))))) (.cm [2,4,14,15,16] M5)))
def M6 :=[qw 50 4 2 4,⟨none,none,false,.Er 4 [(0,1),(1,1)] 2 4 (.t 50)⟩]
def mB:Abs.Fn:=⟨2,[.v 4 true 2],sR [1,2,4] SO (sR [1,2,4] SP (sL [2,4,14,15,16] SQ 0 [2,4,14,15,16] false lV (sR [4] M6 .ret)))⟩
attribute [simp] SO SP SQ SR SS SU SV SW SX SY M5 M6
def SZ :=[qx 3 0,qi 6 0]
def S0 :=[qa 8 9 3,qc 9 iY [8],qu 10 9,qm 7 10]
def S3 :=[qi 6 1]
def S4 :=[qm 12 1,qe 13 12,qo 14 (.call false (.c (.fn bY [] [])) [(.t 13),(.c (.int .i64 1)),(.c (.int .i64 40))]),qu 15 14,qm 11 15]
def S5 :=[qi 6 3]
def S6 :=[qf 17 0 3,qa 18 4 17,qm 19 1,qc 20 ia [18,19],qn 21 .neq 20 0,qm 22 21,qg 22 false (qm 23 1),qg 22 false (qo 24 (.xf nV [] [(.t 3)])),qg 22 false (qc 25 gR [23,24]),qg 22 false (qu 26 25),qP 27 22 26,qm 16 27]
def S7 :=[qi 6 1]
def S8 :=[qa 28 9 3,qm 29 2,qc 30 mh [28,29],qm 6 30]
def vU:Abs.Fn:=⟨3,[.t 6],sR [1,2,3] SZ (.seq (.bL 0 (sR [1,2,3,7] S0 (.ite (.t 7) (sR [6] S3 .ret) (sR [1,2,3,11] S4 (.ite (.t 11) (sR [6] S5 .ret) (sR [2,3,16] S6 (.ite (.t 16) (sR [6] S7 .ret) .ep))))))) (sR [6] S8 .ret))⟩
attribute [simp] SZ S0 S3 S4 S5 S6 S7 S8
def S9 :=[qx 3 0,qx 4 1,qi 6 0]
def Ta :=[qf 9 1 4,ql 10 1 9,qo 11 (.Q5 .i64 (.t 10)),qo 12 (.call false (.c (.fn bY [] [])) [(.t 11),(.c (.int .i64 1)),(.c (.int .i64 4))]),qu 13 12,qm 14 13,qg 14 false (qf 15 3 4),qg 14 false (qf 16 0 15),qg 14 false (ql 17 1 16),qg 14 false (qn 18 .lss 17 (-10000000000)),qP 19 14 18,qm 20 19,qg 20 false (qf 21 3 4),qg 20 false (qf 22 0 21),qg 20 false (ql 23 1 22),qg 20 false (qf 24 3 4),qg 20 false (qf 25 1 24),qg 20 false (ql 26 1 25),qg 20 false (qk 27 .gtr 23 26),qP 28 20 27,qm 29 28,qg 29 false (qf 30 3 4),qg 29 false (qf 31 1 30),qg 29 false (ql 32 1 31),qg 29 false (qn 33 .gtr 32 10000000000),qP 34 29 33]
def Tb :=[qi 6 1]
def Tc :=[qF 35 8 3,qL 36 1 35,qE 37 36,qO 7 (.mv (.c (.int .i64 1))),qm 8 37]
def Td :=[qf 38 1 4,ql 39 1 38,qo 40 (.bin .eql (.t 39) (.c (.int .u8 1)))]
def Te :=[qa 41 9 3,qc 42 cV [41],qi 7 0,qm 8 42]
def Tf :=[qf 43 0 4,ql 44 1 43,qm 45 7,qm 46 2,qc 47 bY [44,45,46],qu 48 47,qm 49 48,qg 49 false (qf 50 2 4),qg 49 false (ql 51 1 50),qg 49 false (qm 52 8),qg 49 false (qn 53 .sub 52 1),qg 49 false (qo 54 (.call false (.c (.fn bY [] [])) [(.t 51),(.c zI),(.t 53)])),qg 49 false (qu 55 54),qP 56 49 55]
def Tg :=[qi 6 2]
def Th :=[qi 6 0]
def ow:Abs.Fn:=⟨3,[.t 6],sR [2,3,4] S9 (sE [2,3,4,34] Ta 34 [6] Tb (sR [2,3,4,7,8] Tc (sI [2,3,4,7,8,40] Td 40 (.cm [2,4,7,8] Te) .ep (sE [56] Tf 56 [6] Tg (sR [6] Th .ret)))))⟩
attribute [simp] S9 Ta Tb Tc Td Te Tf Tg Th
def Ti :=[qx 3 0,qo 6 (.rq 2)]
def Tj :=[qm 9 1,qe 10 9,qi 11 0]
def Tk :=[qk 12 .lss 11 10]
def Tl :=[qj 13 2 9 11,qa 14 2 13,qo 8 (.dT [] [(.str []),.aI]),qs 8 2 8 14]
def Tm :=[qm 15 6,qa 16 9 3,qw 17 8 2 8,qo 18 (.lf [zI,zI,zI,zI,.aI,zI,zI,zI,.aI,(.str []),.aI] [(0,9,(.t 16)),(9,2,(.t 17))]),qm 19 2]
def Tn :=[qo 21 (.uH 1 2 [.aI,.aI] [(0,2,(.t 20))]),qy 22 2 48 15 21,qm 6 22]
def To :=[qn 23 .add 11 1,qm 11 23]
def tG:Abs.cA:=sR [2,3,6,9,10,11,12] Tk (.seq (.ite (.t 12) .ep (.exit 0)) (.seq (.bL 1 (sR [2,3,6,8,9,10,11] Tl (.gZ [2,3,6,9,10,11] Tm ⟨some 20,none,false,.call false (.c (.fn gS [] [])) [(.t 18),(.t 19)]⟩ Tn))) (.cm [2,3,6,9,10,11] To)))
def Tp :=[qm 24 6,qm 6 24]
def vb:Abs.Fn:=⟨3,[.t 6],sR [1,2,3,6] Ti (sL [2,3,6,9,10,11] Tj 0 [2,3,6,9,10,11] false tG (sR [6] Tp .ret))⟩
attribute [simp] Ti Tj Tk Tl Tm Tn To Tp
def Tq :=[qx 2 0,qi 4 0]
def Tr :=[qm 5 1,qf 6 1 2,ql 7 1 6,qk 8 .sub 5 7,qo 9 (.mx (.c zI) (.t 8)),qm 10 1,qf 11 0 2,ql 12 1 11,qk 13 .sub 10 12,qo 14 (.mn (.c zI) (.t 13)),qk 15 .add 9 14,qm 4 15]
def pG:Abs.Fn:=⟨2,[.t 4],sR [1,2] Tq (sR [4] Tr .ret)⟩
attribute [simp] Tq Tr
def Tt :=[qx 3 0,qx 4 1,qx 5 2,qi 6 0]
def Tu :=[qf 7 1 5,ql 8 1 7,qo 9 (.bin .eql (.t 8) (.c (.int .u8 1)))]
def Tv :=[qA 10 11 3,qF 11 0 4,qL 12 1 11,qF 13 0 5,qL 14 1 13,qJ 15 1 12 14,qL 16 1 15,qF 17 2 5,qL 18 1 17,qc 19 fm [10,16,18],qm 6 19]
def Tw :=[qC 20 tO [],qF 21 1 5,qL 22 1 21,qO 23 (.IW false 5 1 (.t 20) (.t 22)),qF 24 1 4,qL 25 1 24,qF 26 0 5,qL 27 1 26,qN 28 .sub 27 1,qJ 29 1 25 28,qL 30 1 29,qF 31 2 5,qL 32 1 31,qJ 33 3 30 32,qA 34 3 33,qo 35 (.call false (.t 23) [(.t 34)]),qm 6 35]
def nG:Abs.Fn:=⟨3,[.t 6],sR [3,4,5] Tt (sE [3,4,5,9] Tu 9 [6] Tv (sR [6] Tw .ret))⟩
attribute [simp] Tt Tu Tv Tw
def Tx :=[qx 1 0,qb 2 false]
def Tz :=[qo 3 (.G8 [] [zI]),⟨none,none,false,.st [] 1 (.t 3) (.c (.int .i64 1000))⟩]
def TA :=[qf 4 0 1,ql 5 1 4,qo 6 (.call false (.c (.fn jD [] [])) [(.t 5),(.c zI),(.c (.int .i64 5))]),qm 7 6,qg 7 true (qf 8 1 1),qg 7 true (ql 9 1 8),qg 7 true (qe 10 9),qg 7 true (qo 11 (.call false (.c (.fn jD [] [])) [(.t 10),(.c (.int .i64 1)),(.c (.int .i64 8))])),qp 12 7 11,qm 13 12,qg 13 true (qf 14 1 1),qg 13 true (ql 15 1 14),qg 13 true (qo 16 (.xf dE [] [(.t 3)])),qg 13 true (qc 17 gP [15,16]),qp 18 13 17,qm 2 18]
def ot:Abs.Fn:=⟨1,[.t 2],sR [1] Tx (sR [1,3] Tz (sR [2] TA .ret))⟩
attribute [simp] Tx Tz TA
def TB :=[qb 4 false]
def TC :=[qm 5 1,qm 6 0,qe 7 6,qn 8 .sub 7 1,qo 9 (.call false (.c (.fn cZ [] [])) [(.t 5),(.c zI),(.t 8)]),qm 4 9]
def pM:Abs.Fn:=⟨2,[.t 4],sR [0,1] TB (sR [4] TC .ret)⟩
attribute [simp] TB TC
def TD :=[qx 1 0,qb 2 false]
def TE :=[qf 3 0 1,ql 4 1 3,qo 5 (.call false (.c (.fn cZ [] [])) [(.t 4),(.c zI),(.c (.int .i64 1000000))]),qm 6 5,qg 6 true (qf 7 1 1),qg 6 true (ql 8 1 7),qg 6 true (qf 9 0 1),qg 6 true (ql 10 1 9),qg 6 true (qo 11 (.bin .mul (.c (.int .i64 4000)) (.t 10))),qg 6 true (qo 12 (.call false (.c (.fn cZ [] [])) [(.t 8),(.c zI),(.t 11)])),qp 13 6 12,qm 14 13,qg 14 true (qf 15 2 1),qg 14 true (ql 16 1 15),qg 14 true (qf 17 0 1),qg 14 true (ql 18 1 17),qg 14 true (qo 19 (.bin .mul (.c (.int .i64 10000)) (.t 18))),qg 14 true (qo 20 (.call false (.c (.fn cZ [] [])) [(.t 16),(.c zI),(.t 19)])),qp 21 14 20,qm 22 21,qg 22 true (qf 23 3 1),qg 22 true (ql 24 1 23),qg 22 true (qo 25 (.call false (.c (.fn cZ [] [])) [(.t 24),(.c zI),(.c (.int .i64 1000000000))])),qp 26 22 25,qm 2 26]
def mG:Abs.Fn:=⟨1,[.t 2],sR [1] TD (sR [2] TE .ret)⟩
attribute [simp] TD TE
def TF :=[qo 4 (.dT [] [zI,zI,zI,zI,zI])]
def TG :=[qm 5 0,qm 6 1,qj 7 5 5 6,qa 8 5 7,qo 9 (.lf [zI,zI,zI,zI,zI] [(0,5,(.t 8))]),qs 4 5 4 9]
def rm:Abs.Fn:=⟨2,[.v 4 true 5],sR [0,1,4] TF (sR [4] TG .ret)⟩
attribute [simp] TF TG
def TH :=[qx 2 0,qx 3 1,qo 4 (.dT [] [zI,zI,zI,zI,zI,zI,zI,zI,zI,zI])]
def TI :=[qa 7 5 2,qa 8 4 3,qc 9 kn [7,8],qm 5 9]
def TJ :=[qm 35 5,qn 36 .eql 35 0,qm 34 36]
def TK :=[qa 37 4 3,qf 38 4 4,qs 4 4 38 37]
def TL :=[qm 40 5,qf 41 0 3,ql 42 1 41,qk 43 .eql 40 42,qm 39 43]
def TM :=[qm 44 5,qf 45 1 3,ql 46 1 45,qf 47 3 3,ql 48 1 47,qo 49 (.lf [zI,zI,zI,zI] [(0,1,(.t 44)),(1,1,(.t 46)),(3,1,(.t 48))]),qf 50 0 4,qs 4 4 50 49]
def TN :=[qm 10 5,qm 11 5,qf 12 0 2,qf 13 3 12,ql 14 1 13,qk 15 .mul 11 14,qf 16 3 3,ql 17 1 16,qo 18 (.lf [zI,zI,zI,zI] [(0,1,(.t 10)),(1,1,(.t 15)),(3,1,(.t 17))]),qf 19 0 4,qs 4 4 19 18]
def TO :=[qf 20 0 3,ql 21 1 20,qm 22 5,qk 23 .sub 21 22,qf 24 1 3,ql 25 1 24,qm 26 5,qf 27 0 2,qf 28 3 27,ql 29 1 28,qk 30 .mul 26 29,qk 31 .sub 25 30,qo 32 (.lf [zI,zI,zI,zI] [(0,1,(.t 23)),(1,1,(.t 31))]),qf 33 4 4,qs 4 4 33 32]
def TP :=[qf 51 2 3,ql 52 1 51,qf 53 4 4,qf 54 0 53,qv 55 4 1 54,qf 56 0 2,qf 57 4 56,ql 58 1 57,qk 59 .mul 55 58,qo 60 (.mn (.t 52) (.t 59)),qm 6 60]
def TQ :=[qM 61 6,qF 62 2 3,qL 63 1 62,qM 64 6,qK 65 .sub 63 64,qF 66 4 4,qF 67 2 66,qS 4 1 67 61,qf 68 9 4,qs 4 1 68 65]
def M7 :=[qf 69 4 4,qf 70 0 69,qv 71 4 1 70,qn 72 .gtr 71 0]
def M8 :=[qf 73 4 4,qf 74 1 73,qv 75 4 1 74,qf 76 4 4,qf 77 0 76,qv 78 4 1 77,qf 79 0 2,qf 80 2 79,ql 81 1 80,qk 82 .mul 78 81,qk 83 .sub 75 82,qo 84 (.mx (.c zI) (.t 83)),qf 85 8 4,qs 4 1 85 84]
def M9 :=[qw 86 4 10 4,qs 4 10 4 86]
def rn:Abs.Fn:=⟨2,[.v 4 true 10],sR [2,3,4] TH (sR [2,3,4,5] TI (.seq (.bL 0 (sR [2,3,4,5,34] TJ (.ite (.t 34) (.cm [2,3,4] TK) (sR [2,3,4,5,39] TL (.ite (.t 39) (.cm [2,3,4] TM) (sR [2,3,4,5] TN (.cm [2,3,4] TO))))))) (sR [2,3,4,6] TP (sR [2,4] TQ (sI [2,4,72] M7 72 (.cm [4] M8) .ep (sR [4] M9 .ret))))))⟩
attribute [simp] TH TI TJ TK TL TM TN TO TP TQ M7 M8 M9
def TR :=[qb 2 false]
def TS :=[qm 3 0,qo 4 (.call false (.c (.fn jt [] [])) [(.t 3),(.c (.fn mg [] []))]),qm 2 4]
def uQ:Abs.Fn:=⟨1,[.t 2],sR [0] TR (sR [2] TS .ret)⟩
attribute [simp] TR TS
def TU :=[qx 1 0,qi 2 0]
def TV :=[qf 5 1 1,ql 6 1 5,qe 7 6,qi 8 0]
def TW :=[qk 9 .lss 8 7]
def TX :=[qj 10 2 6 8,qa 11 2 10,qo 4 (.dT [] [zI,zI]),qs 4 2 4 11]
def TY :=[qm 12 2,qf 13 0 4,qv 14 4 1 13,qk 15 .add 12 14,qm 2 15]
def TZ :=[qn 16 .add 8 1,qm 8 16]
def jq:Abs.cA:=sR [2,6,7,8,9] TW (.seq (.ite (.t 9) .ep (.exit 0)) (.seq (.bL 1 (sR [2,4,6,7,8] TX (.cm [2,6,7,8] TY))) (.cm [2,6,7,8] TZ)))
def T0 :=[qm 17 2,qm 2 17]
def lQ:Abs.Fn:=⟨1,[.t 2],sR [1,2] TU (sL [2,6,7,8] TV 0 [2,6,7,8] false jq (sR [2] T0 .ret))⟩
attribute [simp] TU TV TW TX TY TZ T0
def T1 :=[qx 2 0,qo 4 (.G8 [] [zI])]
def T2 :=[qa 7 2 2,qm 8 1,qo 9 (.call true (.c (.fn mL [] [])) [(.t 7),(.t 8)])]
def T3 :=[qo 5 (.dT [] [zI,zI]),qs 5 2 5 10]
def T4 :=[qm 6 11]
def T5 :=[ql 12 1 4,qf 13 1 5,qv 14 5 1 13,qm 15 6,qk 16 .mul 14 15,qk 17 .add 12 16,qt 1 4 17]
def lR:Abs.cA:=sR [4,5,11] T3 (.cm [4,5,6] T4)
def lS:Abs.cA:=.bL 1 (.cm [] T5)
def T6 :=[ql 18 1 4,qt 1 4 18]
def Cu:uc:=an7 [(5,[4]),(4,[]),(3,[4,5,6]),(2,[4,5,11]),(1,[4,9]),(0,[1,2,4])] [(0,[4])] [] [4,5] [5] [] [1002]
def oq:Abs.Fn:=⟨2,[.c 4 false 1],sR [1,2,4] T1 (.seq (sR [4,9] T2 (.bL 0 (.Je [4] (.t 9) [10,11] lR lS))) (sR [4] T6 .ret))⟩
attribute [simp] T1 T2 T3 T4 T5 T6
def T7 :=[qi 2 0]
def T8 :=[qm 5 0,qe 6 5,qn 7 .lss 6 1]
def T9 :=[qo 8 (.mki 9 (.c (.str [115,108,105,99,101,115,46,77,105,110,58,32,101,109,112,116,121,32,108,105,115,116])))]
def Ua:List Abs.Op:=[]
def Ub :=[qm 9 0,qo 10 (.eI 1 (.t 9) (.c zI)),ql 11 1 10,qm 3 11]
def Uc :=[qi 4 1]
def Ud :=[qm 12 4,qm 13 0,qe 14 13,qk 15 .lss 12 14]
def Ue :=[qm 18 3,qm 19 0,qm 20 4,qj 21 1 19 20,ql 22 1 21,qo 23 (.mn (.t 18) (.t 22)),qm 3 23]
def Uf :=[qm 16 4,qn 17 .add 16 1,qm 4 17]
def nI:Abs.cA:=sI [0,3,4,15] Ud 15 .ep (.exit 0) (.seq (.bL 1 (.cm [0,3,4] Ue)) (.cm [0,3,4] Uf))
def Na :=[qm 24 3,qm 2 24]
def rl:Abs.Fn:=⟨1,[.t 2],sR [0] T7 (sI [0,7] T8 7 (.gZ [0] T9 ⟨none,none,false,.K6 (.t 8)⟩ Ua) .ep (sR [0,3] Ub (sL [0,3,4] Uc 0 [0,3,4] false nI (sR [2] Na .ret))))⟩
attribute [simp] T7 T8 T9 Ua Ub Uc Ud Ue Uf Na
def Ug :=[qi 2 0]
def Uh :=[qm 5 0,qe 6 5,qn 7 .lss 6 1]
def Ui :=[qo 8 (.mki 9 (.c (.str [115,108,105,99,101,115,46,77,97,120,58,32,101,109,112,116,121,32,108,105,115,116])))]
def Uj:List Abs.Op:=[]
def Uk :=[qm 9 0,qo 10 (.eI 1 (.t 9) (.c zI)),ql 11 1 10,qm 3 11]
def Ul :=[qi 4 1]
def Um :=[qm 12 4,qm 13 0,qe 14 13,qk 15 .lss 12 14]
def Un :=[qm 18 3,qm 19 0,qm 20 4,qj 21 1 19 20,ql 22 1 21,qo 23 (.mx (.t 18) (.t 22)),qm 3 23]
def Uo :=[qm 16 4,qn 17 .add 16 1,qm 4 17]
def nH:Abs.cA:=sI [0,3,4,15] Um 15 .ep (.exit 0) (.seq (.bL 1 (.cm [0,3,4] Un)) (.cm [0,3,4] Uo))
def Nb :=[qm 24 3,qm 2 24]
def rk:Abs.Fn:=⟨1,[.t 2],sR [0] Ug (sI [0,7] Uh 7 (.gZ [0] Ui ⟨none,none,false,.K6 (.t 8)⟩ Uj) .ep (sR [0,3] Uk (sL [0,3,4] Ul 0 [0,3,4] false nH (sR [2] Nb .ret))))⟩
attribute [simp] Ug Uh Ui Uj Uk Ul Um Un Uo Nb
def Up :=[qx 1 0,qb 2 false]
def Uq :=[qf 3 0 1,ql 4 1 3,qo 5 (.call false (.c (.fn du [] [])) [(.t 4),(.c (.int .i64 1)),(.c (.int .i64 8))]),qm 6 5,qg 6 true (qf 7 1 1),qg 6 true (ql 8 1 7),qg 6 true (qo 9 (.call false (.c (.fn du [] [])) [(.t 8),(.c (.int .i64 1)),(.c (.int .i64 8))])),qp 10 6 9,qm 11 10,qg 11 true (qf 12 2 1),qg 11 true (ql 13 1 12),qg 11 true (qo 14 (.call false (.c (.fn du [] [])) [(.t 13),(.c (.int .i64 1)),(.c (.int .i64 8))])),qp 15 11 14,qm 16 15,qg 16 true (qa 17 4 1),qg 16 true (qc 18 cY [17]),qg 16 true (qn 19 .leq 18 64),qp 20 16 19,qm 21 20,qg 21 true (qf 22 3 1),qg 21 true (ql 23 1 22),qg 21 true (qo 24 (.call false (.c (.fn du [] [])) [(.t 23),(.c (.int .i64 1)),(.c (.int .i64 6))])),qp 25 21 24,qm 2 25]
def nr:Abs.Fn:=⟨1,[.t 2],sR [1] Up (sR [2] Uq .ret)⟩
attribute [simp] Up Uq
def Ur :=[qb 6 false]
def Us :=[qm 7 1,qm 8 0,qk 9 .leq 7 8,qm 10 9,qg 10 true (qm 11 0),qg 10 true (qm 12 2),qg 10 true (qk 13 .leq 11 12),qp 14 10 13,qm 6 14]
def tJ:Abs.Fn:=⟨3,[.t 6],sR [0,1,2] Ur (sR [6] Us .ret)⟩
attribute [simp] Ur Us
def ak1 :=[qx 3 1,qb 4 false]
def ak2 :=[qm 5 0,qo 6 (.xf jW [] [(.t 3)]),qc 7 eL [5,6],qu 8 7,qm 4 8]
def uk:Abs.Fn:=⟨2,[.t 4],sR [0,3] ak1 (sR [4] ak2 .ret)⟩
def Ut :=[qx 1 0,qb 2 false]
def Uu :=[qf 3 0 1,ql 4 1 3,qo 5 (.call false (.c (.fn cZ [] [])) [(.t 4),(.c zI),(.c (.int .i64 400))]),qm 6 5,qg 6 true (qf 7 1 1),qg 6 true (ql 8 1 7),qg 6 true (qo 9 (.call false (.c (.fn cZ [] [])) [(.t 8),(.c (.int .i64 1)),(.c (.int .i64 10000))])),qp 10 6 9,qm 11 10,qg 11 true (qf 12 2 1),qg 11 true (ql 13 1 12),qg 11 true (qo 14 (.call false (.c (.fn cZ [] [])) [(.t 13),(.c zI),(.c (.int .i64 4000))])),qp 15 11 14,qm 16 15,qg 16 true (qf 17 4 1),qg 16 true (ql 18 1 17),qg 16 true (qo 19 (.call false (.c (.fn cZ [] [])) [(.t 18),(.c zI),(.c (.int .i64 2000))])),qp 20 16 19,qm 21 20,qg 21 true (qf 22 2 1),qg 21 true (ql 23 1 22),qg 21 true (qf 24 3 1),qg 21 true (ql 25 1 24),qg 21 true (qk 26 .lss 23 25),qp 27 21 26,qm 28 27,qg 28 true (qf 29 3 1),qg 28 true (ql 30 1 29),qg 28 true (qn 31 .leq 30 4000),qp 32 28 31,qm 2 32]
def pL:Abs.Fn:=⟨1,[.t 2],sR [1] Ut (sR [2] Uu .ret)⟩
attribute [simp] Ut Uu
def Uv :=[qb 6 false]
def Uw :=[qm 7 1,qm 8 0,qk 9 .leq 7 8,qm 10 9,qg 10 true (qm 11 0),qg 10 true (qm 12 2),qg 10 true (qk 13 .leq 11 12),qp 14 10 13,qm 6 14]
def uS:Abs.Fn:=⟨3,[.t 6],sR [0,1,2] Uv (sR [6] Uw .ret)⟩
attribute [simp] Uv Uw
def Ux :=[qx 1 0,qi 2 0]
def Uy :=[qf 3 0 1,qf 4 0 3,ql 5 1 4,qf 6 0 1,qf 7 1 6,ql 8 1 7,qk 9 .mul 5 8,qf 10 0 1,qf 11 2 10,ql 12 1 11,qk 13 .mul 9 12,qm 2 13]
def si:Abs.Fn:=⟨1,[.t 2],sR [1] Ux (sR [2] Uy .ret)⟩
attribute [simp] Ux Uy
def ak3 :=[qx 3 1,qb 4 false]
def ak4 :=[qm 5 0,qo 6 (.xf kN [] [(.t 3)]),qc 7 eK [5,6],qu 8 7,qm 4 8]
def va:Abs.Fn:=⟨2,[.t 4],sR [0,3] ak3 (sR [4] ak4 .ret)⟩
def Uz :=[qx 2 0,qb 3 false]
def UA :=[qf 4 0 2,ql 5 1 4,ql 6 1 1,qe 7 6,qn 8 .sub 7 1,qo 9 (.call false (.c (.fn bY [] [])) [(.t 5),(.c zI),(.t 8)]),qu 10 9,qm 11 10,qg 11 false (ql 12 1 1),qg 11 false (qf 13 0 2),qg 11 false (ql 14 1 13),qg 11 false (qj 15 1 12 14),qg 11 false (ql 16 1 15),qP 17 11 16]
def UB :=[qb 3 false]
def UC :=[ql 18 1 1,qf 19 0 2,ql 20 1 19,qj 21 1 18 20,⟨none,none,false,.st [] 1 (.t 21) (.c (.bool true))⟩]
def UD :=[qf 22 1 2,ql 23 1 22,qo 24 (.call false (.c (.fn bY [] [])) [(.t 23),(.c zI),(.c (.int .i64 3000))]),qm 25 24,qg 25 true (qf 26 2 2),qg 25 true (ql 27 1 26),qg 25 true (qo 28 (.call false (.c (.fn bY [] [])) [(.t 27),(.c zI),(.c (.int .i64 1000000))])),qp 29 25 28,qm 3 29]
def oz:Abs.Fn:=⟨2,[.t 3],sR [1,2] Uz (sE [1,2,17] UA 17 [3] UB (sR [2] UC (sR [3] UD .ret)))⟩
attribute [simp] Uz UA UB UC UD
def UE :=[qx 1 0,qb 2 false]
def UF :=[qf 5 0 1,qf 6 0 5,qa 7 4 6,qf 8 9 1,qa 9 2 8,qo 10 (.uH 1 2 [(.str []),.aI] [(0,2,(.t 9))]),qc 11 ia [7,10],qn 12 .neq 11 0]
def UG :=[qb 2 false]
def UH :=[qo 13 (.lf [zI,zI] [(0,1,(.c (.int .i64 1000))),(1,1,(.c (.int .i64 100000)))]),qo 14 (.lf [zI,zI] [(0,1,(.c zI)),(1,1,(.c (.int .i64 1000)))]),qo 15 (.lf [zI,zI] [(0,1,(.c zI)),(1,1,(.c (.int .i64 3000)))]),qo 16 (.lf [zI,zI] [(0,1,(.c zI)),(1,1,(.c (.int .i64 1000)))]),qo 17 (.lf [zI,zI,zI,zI,zI,zI,zI,zI] [(0,2,(.t 13)),(2,2,(.t 14)),(4,2,(.t 15)),(6,2,(.t 16))]),qi 18 0]
def UI :=[qn 19 .lss 18 4]
def UJ :=[qm 20 18,qo 21 (.IW true 4 2 (.t 17) (.t 18)),qo 4 (.G8 [] [zI,zI]),qm 3 20,qt 2 4 21]
def UK :=[qa 22 11 1,qm 23 3,qc 24 dM [22,23],qo 25 (.xf dF [] [(.t 4)]),qc 26 jE [24,25],qu 27 26]
def UL :=[qb 2 false]
def UM :=[qn 28 .add 18 1,qm 18 28]
def lU:Abs.cA:=sR [1,17,18,19] UI (.seq (.ite (.t 19) .ep (.exit 0)) (.seq (.bL 1 (sR [1,3,4,17,18] UJ (sR [1,17,18,27] UK (.ite (.t 27) (sR [2] UL .ret) .ep)))) (.cm [1,17,18] UM)))
def Nc :=[qb 2 true]
def oG:Abs.Fn:=⟨1,[.t 2],sR [1] UE (sE [1,12] UF 12 [2] UG (sL [1,17,18] UH 0 [1,17,18] true lU (sR [2] Nc .ret)))⟩
attribute [simp] UE UF UG UH UI UJ UK UL UM Nc
def UN :=[qx 2 0,qi 4 0]
def UO :=[qa 5 11 2,qo 6 (.call false (.c (.fn dM [] [])) [(.t 5),(.c zI)]),qm 7 1,qj 8 1 6 7,ql 9 1 8,qm 4 9]
def oH:Abs.Fn:=⟨2,[.t 4],sR [1,2] UN (sR [4] UO .ret)⟩
attribute [simp] UN UO
def UP :=[qx 2 0,qi 4 0]
def UQ :=[qa 5 11 2,qo 6 (.call false (.c (.fn dM [] [])) [(.t 5),(.c (.int .i64 2))]),qm 7 1,qj 8 1 6 7,ql 9 1 8,qm 4 9]
def oL:Abs.Fn:=⟨2,[.t 4],sR [1,2] UP (sR [4] UQ .ret)⟩
attribute [simp] UP UQ
def UR :=[qi 4 0]
def US :=[qo 10 (.mp (.make) []),qm 5 10]
def UT :=[qm 11 0,qe 12 11,qi 13 0]
def UU :=[qk 14 .lss 13 12]
def UW :=[qj 15 6 11 13,qa 16 6 15,qo 7 (.dT [] [(.str []),zI,.aI,.aI,zI,zI]),qs 7 6 7 16]
def UX :=[qm 18 1,qw 19 7 6 7,qo 20 (.call false (.t 18) [(.t 19)]),qm 17 20,qz 21 17 0,qz 22 17 1,qm 8 21,qm 9 22]
def UY :=[qm 23 9,qn 24 .neq 23 0]
def UZ :=[qm 25 9,qm 4 25]
def U0 :=[qm 26 5,qm 27 8,qo 28 (.mp (.get none (.bool false) false) [(.t 26),(.t 27)])]
def U1 :=[qi 4 6]
def Nd :=[qm 29 5,qm 30 8,⟨none,none,false,.mp (.put none) [(.t 29),(.t 30),(.c (.bool true))]⟩]
def Nf :=[qn 31 .add 13 1,qm 13 31]
def fh:Abs.cA:=sR [1,5,11,12,13,14] UU (.seq (.ite (.t 14) .ep (.exit 0)) (.seq (.bL 1 (sR [1,5,7,11,12,13] UW (sR [1,5,8,9,11,12,13] UX (sE [1,5,8,9,11,12,13,24] UY 24 [4] UZ (sE [1,5,8,11,12,13,28] U0 28 [4] U1 (.cm [1,5,11,12,13] Nd)))))) (.cm [1,5,11,12,13] Nf)))
def Ng :=[qi 4 0]
def gJ:Abs.Fn:=⟨2,[.t 4],sR [0,1] UR (sR [0,1,5] US (sL [1,5,11,12,13] UT 0 [1,5,11,12,13] false fh (sR [4] Ng .ret)))⟩
attribute [simp] UR US UT UU UW UX UY UZ U0 U1 Nd Nf Ng
def U2 :=[qx 2 0,qo 3 (.mv (.c (.str []))),qi 4 0]
def U3 :=[qF 5 0 2,qL 6 1 5,qA 7 4 1,qA 8 6 2,qC 9 fN [7,8],qm 3 6,qm 4 9]
def jm:Abs.Fn:=⟨2,[.t 3,.t 4],sR [1,2] U2 (sR [3,4] U3 .ret)⟩
attribute [simp] U2 U3
def U4 :=[qb 2 false]
def U5 :=[qm 5 0,qo 6 (.BR (.Eo) [(.t 5)]),qi 7 0]
def U6 :=[qk 8 .lss 7 6]
def U7 :=[qm 9 7,qm 3 9]
def U8 :=[qm 10 0,qm 11 3,qo 12 (.BR (.Ho) [(.t 10),(.t 11)]),qo 13 (.bin .geq (.t 12) (.c (.int .u8 97))),qm 14 13,qg 14 true (qm 15 0),qg 14 true (qm 16 3),qg 14 true (qo 17 (.BR (.Ho) [(.t 15),(.t 16)])),qg 14 true (qo 18 (.bin .leq (.t 17) (.c (.int .u8 122)))),qp 19 14 18,qm 4 19]
def U9 :=[qm 20 4,qu 21 20,qm 22 21,qg 22 true (qm 23 3),qg 22 true (qn 24 .eql 23 0),qg 22 true (qm 25 24),qg 25 false (qm 26 0),qg 25 false (qm 27 3),qg 25 false (qo 28 (.BR (.Ho) [(.t 26),(.t 27)])),qg 25 false (qo 29 (.bin .lss (.t 28) (.c (.int .u8 48)))),qg 22 true (qP 30 25 29),qg 22 true (qm 31 30),qg 31 false (qm 32 0),qg 31 false (qm 33 3),qg 31 false (qo 34 (.BR (.Ho) [(.t 32),(.t 33)])),qg 31 false (qo 35 (.bin .gtr (.t 34) (.c (.int .u8 57)))),qg 22 true (qP 36 31 35),qp 37 22 36]
def Va :=[qb 2 false]
def Vb :=[qn 38 .add 7 1,qm 7 38]
def qR:Abs.cA:=sR [0,6,7,8] U6 (.seq (.ite (.t 8) .ep (.exit 0)) (.seq (.bL 1 (sR [0,3,6,7] U7 (sR [0,3,4,6,7] U8 (sR [0,6,7,37] U9 (.ite (.t 37) (sR [2] Va .ret) .ep))))) (.cm [0,6,7] Vb)))
def Vc :=[qm 39 0,qo 40 (.BR (.Eo) [(.t 39)]),qo 41 (.call false (.c (.fn du [] [])) [(.t 40),(.c (.int .i64 1)),(.c (.int .i64 16))]),qm 2 41]
def uM:Abs.Fn:=⟨1,[.t 2],sR [0] U4 (sL [0,6,7] U5 0 [0,6,7] false qR (sR [2] Vc .ret))⟩
attribute [simp] U4 U5 U6 U7 U8 U9 Va Vb Vc
def Vd :=[qx 1 0,qi 2 0]
def Ve :=[qf 3 0 1,ql 4 1 3,qf 5 1 1,ql 6 1 5,qk 7 .mul 4 6,qf 8 2 1,ql 9 1 8,qk 10 .mul 7 9,qm 2 10]
def mo:Abs.Fn:=⟨1,[.t 2],sR [1] Vd (sR [2] Ve .ret)⟩
attribute [simp] Vd Ve
def ak5 :=[qx 3 1,qb 4 false]
def ak6 :=[qm 5 0,qo 6 (.xf pQ [] [(.t 3)]),qc 7 bJ [5,6],qu 8 7,qm 4 8]
def zR:Abs.Fn:=⟨2,[.t 4],sR [0,3] ak5 (sR [4] ak6 .ret)⟩
def Vf :=[qb 2 false]
def Vg :=[qm 3 0,qo 4 (.call false (.c (.fn du [] [])) [(.t 3),(.c (.int .i64 (-100000))),(.c (.int .i64 100000))]),qm 2 4]
def lK:Abs.Fn:=⟨1,[.t 2],sR [0] Vf (sR [2] Vg .ret)⟩
attribute [simp] Vf Vg
def Vh :=[qb 6 false]
def Vi :=[qm 7 1,qm 8 0,qk 9 .leq 7 8,qm 10 9,qg 10 true (qm 11 0),qg 10 true (qm 12 2),qg 10 true (qk 13 .leq 11 12),qp 14 10 13,qm 6 14]
def tt:Abs.Fn:=⟨3,[.t 6],sR [0,1,2] Vh (sR [6] Vi .ret)⟩
attribute [simp] Vh Vi
def Vj :=[qx 4 0,qb 8 false]
def Vk :=[qm 12 1,qf 13 3 4,ql 14 1 13,qn 15 .sub 14 1,qo 16 (.call false (.c (.fn du [] [])) [(.t 12),(.c zI),(.t 15)]),qu 17 16,qm 18 17,qg 18 false (qm 19 2),qg 18 false (qe 20 19),qg 18 false (qn 21 .lss 20 1),qP 22 18 21,qm 23 22,qg 23 false (qm 24 2),qg 23 false (qe 25 24),qg 23 false (qm 26 3),qg 23 false (qe 27 26),qg 23 false (qk 28 .neq 25 27),qP 29 23 28]
def Vl :=[qb 8 false]
def Vm :=[qi 9 (-1)]
def Vn :=[qm 30 2,qe 31 30,qi 32 0]
def Vo :=[qk 33 .lss 32 31]
def Vp :=[qm 34 32,qj 35 1 30 32,ql 36 1 35,qm 10 34,qm 11 36]
def Vq :=[qm 37 11,qm 38 9,qk 39 .leq 37 38,qm 40 39,qg 40 false (qm 41 11),qg 40 false (qa 42 4 4),qg 40 false (qc 43 cY [42]),qg 40 false (qk 44 .geq 41 43),qP 45 40 44,qm 46 45,qg 46 false (qm 47 3),qg 46 false (qm 48 10),qg 46 false (qj 49 1 47 48),qg 46 false (ql 50 1 49),qg 46 false (qo 51 (.call false (.c (.fn du [] [])) [(.t 50),(.c (.int .i64 (-1000))),(.c (.int .i64 1000))])),qg 46 false (qu 52 51),qP 53 46 52]
def Vr :=[qb 8 false]
def Vs :=[qm 54 11,qm 9 54]
def Nh :=[qn 55 .add 32 1,qm 32 55]
def kA:Abs.cA:=sR [3,4,9,30,31,32,33] Vo (.seq (.ite (.t 33) .ep (.exit 0)) (.seq (.bL 1 (sR [3,4,9,10,11,30,31,32] Vp (sE [3,4,11,30,31,32,53] Vq 53 [8] Vr (.cm [3,4,9,30,31,32] Vs)))) (.cm [3,4,9,30,31,32] Nh)))
def Ni :=[qb 8 true]
def oj:Abs.Fn:=⟨4,[.t 8],sR [1,2,3,4] Vj (sE [2,3,4,29] Vk 29 [8] Vl (sR [2,3,4,9] Vm (sL [3,4,9,30,31,32] Vn 0 [3,4,9,30,31,32] false kA (sR [8] Ni .ret))))⟩
attribute [simp] Vj Vk Vl Vm Vn Vo Vp Vq Vr Vs Nh Ni
def Vt :=[qx 1 0,qb 2 false]
def Vu :=[qf 3 0 1,ql 4 1 3,qo 5 (.bin .leq (.c (.int .i64 (-10000000000))) (.t 4)),qm 6 5,qg 6 true (qf 7 0 1),qg 6 true (ql 8 1 7),qg 6 true (qf 9 1 1),qg 6 true (ql 10 1 9),qg 6 true (qk 11 .leq 8 10),qp 12 6 11,qm 13 12,qg 13 true (qf 14 1 1),qg 13 true (ql 15 1 14),qg 13 true (qn 16 .leq 15 10000000000),qp 17 13 16,qm 2 17]
def om:Abs.Fn:=⟨1,[.t 2],sR [1] Vt (sR [2] Vu .ret)⟩
attribute [simp] Vt Vu
def Vv :=[qx 2 0,qx 3 1,qi 4 0]
def Vw :=[qf 7 5 2,ql 8 1 7,qe 9 8,qi 10 0]
def Vx :=[qk 11 .lss 10 9]
def Vy :=[qm 12 10,qj 13 1 8 10,ql 14 1 13,qm 5 12,qm 6 14]
def Vz :=[qM 15 4,qF 16 6 2,qL 17 1 16,qM 18 5,qJ 19 1 17 18,qL 20 1 19,qF 21 1 3,qL 22 1 21,qF 23 4 2,qL 24 1 23,qF 25 0 2,qA 26 4 25,qC 27 cY [26],qK 28 .mul 24 27,qM 29 6,qK 30 .add 28 29,qJ 31 1 22 30,qL 32 1 31,qK 33 .mul 20 32,qk 34 .add 15 33,qm 4 34]
def VA :=[qn 35 .add 10 1,qm 10 35]
def nu:Abs.cA:=sR [2,3,4,8,9,10,11] Vx (.seq (.ite (.t 11) .ep (.exit 0)) (.seq (.bL 1 (sR [2,3,4,5,6,8,9,10] Vy (.cm [2,3,4,8,9,10] Vz))) (.cm [2,3,4,8,9,10] VA)))
def VB :=[qm 36 4,qm 4 36]
def qT:Abs.Fn:=⟨2,[.t 4],sR [2,3,4] Vv (sL [2,3,4,8,9,10] Vw 0 [2,3,4,8,9,10] false nu (sR [4] VB .ret))⟩
attribute [simp] Vv Vw Vx Vy Vz VA VB
def ak7 :=[qb 4 false]
def ak8 :=[qm 5 0,qm 6 1,qc 7 dz [5,6],qn 8 .geq 7 0,qm 4 8]
def gF:Abs.Fn:=⟨2,[.t 4],sR [0,1] ak7 (sR [4] ak8 .ret)⟩
def ak9 :=[qx 2 0,qb 3 false]
def ala :=[ql 4 1 1,qa 5 10 2,qo 6 (.call false (.t 4) [(.t 5)]),qu 7 6,qm 3 7]
def ll:Abs.Fn:=⟨2,[.t 3],sR [1,2] ak9 (sR [3] ala .ret)⟩
def VC :=[qx 2 0,qx 3 1,qb 4 false]
def VD :=[qa 5 3 2,qc 6 fe [5],qm 7 6,qg 7 true (qa 8 3 3),qg 7 true (qc 9 fe [8]),qp 10 7 9,qm 11 10,qg 11 true (qf 12 0 2),qg 11 true (ql 13 1 12),qg 11 true (qf 14 0 3),qg 11 true (ql 15 1 14),qg 11 true (qk 16 .leq 13 15),qp 17 11 16,qm 18 17,qg 18 true (qf 19 1 2),qg 18 true (ql 20 1 19),qg 18 true (qf 21 1 3),qg 18 true (ql 22 1 21),qg 18 true (qk 23 .leq 20 22),qp 24 18 23,qm 25 24,qg 25 true (qf 26 2 2),qg 25 true (ql 27 1 26),qg 25 true (qf 28 2 3),qg 25 true (ql 29 1 28),qg 25 true (qk 30 .leq 27 29),qp 31 25 30,qm 4 31]
def vY:Abs.Fn:=⟨2,[.t 4],sR [2,3] VC (sR [4] VD .ret)⟩
attribute [simp] VC VD
def alb :=[qb 4 false]
def ald :=[qm 5 0,qm 6 1,qc 7 di [5,6],qn 8 .geq 7 0,qm 4 8]
def gf:Abs.Fn:=⟨2,[.t 4],sR [0,1] alb (sR [4] ald .ret)⟩
def ale :=[qx 2 0,qb 3 false]
def alf :=[ql 4 1 1,qa 5 2 2,qo 6 (.call false (.t 4) [(.t 5)]),qu 7 6,qm 3 7]
def kM:Abs.Fn:=⟨2,[.t 3],sR [1,2] ale (sR [3] alf .ret)⟩
def VE :=[qx 1 0,qb 2 false]
def VF :=[qf 3 0 1,qa 4 3 3,qc 5 fe [4],qm 6 5,qg 6 true (qf 7 3 1),qg 6 true (ql 8 1 7),qg 6 true (qo 9 (.call false (.c (.fn bX [] [])) [(.t 8),(.c zI),(.c (.int .i64 160))])),qp 10 6 9,qm 2 10]
def kK:Abs.Fn:=⟨1,[.t 2],sR [1] VE (sR [2] VF .ret)⟩
attribute [simp] VE VF
def VG :=[qx 1 0,qb 2 false]
def VH :=[qf 3 0 1,ql 4 1 3,qf 5 1 1,ql 6 1 5,qf 7 2 1,ql 8 1 7,qo 9 (.uH 3 1 [zI,zI,zI] [(0,1,(.t 4)),(1,1,(.t 6)),(2,1,(.t 8))]),qo 10 (.call false (.c (.fn gD [] [])) [(.t 9),(.c (.fn dP [] []))]),qm 2 10]
def mI:Abs.Fn:=⟨1,[.t 2],sR [1] VG (sR [2] VH .ret)⟩
attribute [simp] VG VH
def alg :=[qi 4 0]
def alh :=[qm 6 0,qe 7 6,qi 8 0]
def ali :=[qk 9 .lss 8 7]
def alj :=[qm 10 8,qm 5 10]
def alk :=[qm 11 1,qm 12 0,qm 13 5,qj 14 4 12 13,qa 15 4 14,qo 16 (.call false (.t 11) [(.t 15)])]
def alm :=[qm 17 5,qm 4 17]
def aln :=[qn 18 .add 8 1,qm 8 18]
def tf:Abs.cA:=sR [0,1,7,8,9] ali (.seq (.ite (.t 9) .ep (.exit 0)) (.seq (.bL 1 (sR [0,1,5,7,8] alj (sR [0,1,5,7,8,16] alk (.ite (.t 16) (sR [4] alm .ret) .ep)))) (.cm [0,1,7,8] aln)))
def alo :=[qi 4 (-1)]
def iT:Abs.Fn:=⟨2,[.t 4],sR [0,1] alg (sL [0,1,7,8] alh 0 [0,1,7,8] false tf (sR [4] alo .ret))⟩
def alp :=[qx 2 0,qb 3 false]
def alq :=[ql 4 1 1,qa 5 4 2,qo 6 (.call false (.t 4) [(.t 5)]),qu 7 6,qm 3 7]
def ln:Abs.Fn:=⟨2,[.t 3],sR [1,2] alp (sR [3] alq .ret)⟩
def alr :=[qb 3 false]
def als :=[ql 4 1 1,qm 5 0,qo 6 (.call false (.t 4) [(.t 5)]),qu 7 6,qm 3 7]
def sB:Abs.Fn:=⟨2,[.t 3],sR [0,1] alr (sR [3] als .ret)⟩
def alu :=[qb 4 false]
def alv :=[qm 5 0,qm 6 1,qc 7 na [5,6],qn 8 .geq 7 0,qm 4 8]
def pK:Abs.Fn:=⟨2,[.t 4],sR [0,1] alu (sR [4] alv .ret)⟩
def alw :=[qb 3 false]
def alx :=[ql 4 1 1,qm 5 0,qo 6 (.call false (.t 4) [(.t 5)]),qu 7 6,qm 3 7]
def vc:Abs.Fn:=⟨2,[.t 3],sR [0,1] alw (sR [3] alx .ret)⟩
def VI :=[qx 2 0,qi 4 0]
def VJ :=[qm 6 1,qe 7 6,qf 8 8 2,ql 9 1 8,qe 10 9,qk 11 .neq 7 10,qm 5 11]
def VK :=[qi 4 1]
def VL :=[qm 13 1,qo 14 (.call false (.c (.fn jE [] [])) [(.t 13),(.c (.fn iX [] []))]),qu 15 14,qm 12 15]
def VM :=[qi 4 2]
def VN :=[qi 4 0]
def rh:Abs.Fn:=⟨2,[.t 4],sR [1,2] VI (.seq (.bL 0 (sR [1,5] VJ (.ite (.t 5) (sR [4] VK .ret) (sR [12] VL (.ite (.t 12) (sR [4] VM .ret) .ep))))) (sR [4] VN .ret))⟩
attribute [simp] VI VJ VK VL VM VN
def VO :=[qx 3 0,qo 6 (.mv (.c .aI)),qo 7 (.mv (.c .aI)),qi 8 0]
def VP :=[qm 18 1,qo 19 (.call true (.c (.fn ct [] [])) [(.t 18)]),qm 9 19]
def VQ :=[qa 20 11 3,qm 21 1,qo 22 (.call true (.c (.fn ki [] [])) [(.t 20),(.t 21)]),qo 23 (.mp (.rng) [(.t 22)])]
def VR :=[qo 26 (.mp (.ent) [(.t 23)]),qz 27 26 0,qz 28 26 1,qo 10 (.dT [] [zI,zI]),qo 11 (.dT [] [zI,zI,zI]),qs 10 2 10 27,qs 11 3 11 28]
def VS :=[qM 29 9,qF 30 0 10,qV 31 10 1 30,qJ 32 3 29 31,qW 33 11 3 11,qo 34 (.call false (.c (.fn bV [] [])) [(.t 32),(.t 33),(.c (.int .i64 (-1)))])]
def VT :=[qM 35 9,qF 36 1 10,qV 37 10 1 36,qJ 38 3 35 37,qW 39 11 3 11,qo 40 (.call false (.c (.fn bV [] [])) [(.t 38),(.t 39),(.c (.int .i64 1))])]
def lW:Abs.cA:=.seq (.ite (.t 25) .ep (.exit 0)) (.bL 1 (sR [1,2,3,9,10,11,23] VR (sR [1,2,3,9,10,11,23] VS (.cm [1,2,3,9,23] VT))))
def VU :=[qo 12 (.rq 3)]
def VV :=[qm 41 2,qe 42 41,qi 43 0]
def VW :=[qk 44 .lss 43 42]
def Nj :=[qm 45 43,qj 46 1 41 43,ql 47 1 46,qm 13 45,qm 14 47]
def Nk :=[qf 48 0 3,qf 49 8 48,ql 50 1 49,qm 51 13,qj 52 3 50 51,qf 53 0 52,ql 54 1 53,qm 15 54]
def Nl :=[qo 16 (.dT [] [zI,zI,zI])]
def Nn :=[qm 55 14,qn 56 .lss 55 0]
def No :=[qM 57 9,qM 58 15,qJ 59 3 57 58,qF 60 0 3,qF 61 8 60,qL 62 1 61,qM 63 13,qJ 64 3 62 63,qA 65 3 64,qM 66 14,qC 67 mN [65,66],qo 68 (.call false (.c (.fn bV [] [])) [(.t 59),(.t 67),(.c (.int .i64 1))])]
def Np :=[qM 69 1,qM 70 15,qJ 71 3 69 70,qA 72 3 71,qM 73 14,qM 74 1,qM 75 15,qJ 76 3 74 75,qF 77 0 76,qL 78 1 77,qN 79 .quo 78 8,qO 80 (.mn (.t 73) (.t 79)),qc 81 kY [72,80],qs 16 3 16 81]
def Nq :=[qM 82 9,qM 83 15,qJ 84 3 82 83,qW 85 16 3 16,qo 86 (.call false (.c (.fn bV [] [])) [(.t 84),(.t 85),(.c (.int .i64 (-1)))])]
def Nr :=[qm 87 12,qw 88 16 3 16,qo 89 (.uH 1 3 [zI,zI,zI] [(0,3,(.t 88))]),qy 90 3 24 87 89,qm 12 90]
def Ns :=[qn 91 .add 43 1,qm 43 91]
def kI:Abs.cA:=sR [1,3,9,12,41,42,43,44] VW (.seq (.ite (.t 44) .ep (.exit 2)) (.seq (.bL 3 (sR [1,3,9,12,13,14,41,42,43] Nj (sR [1,3,9,12,13,14,15,41,42,43] Nk (sR [1,3,9,12,13,14,15,16,41,42,43] Nl (sI [1,3,9,12,13,14,15,16,41,42,43,56] Nn 56 (.cm [1,3,9,12,16,41,42,43] No) (sR [1,3,9,12,15,16,41,42,43] Np (.cm [1,3,9,12,16,41,42,43] Nq)) (.cm [1,3,9,12,41,42,43] Nr)))))) (.cm [1,3,9,12,41,42,43] Ns)))
def Nt :=[qm 92 9,qe 93 92,qi 94 0]
def Nu :=[qk 95 .lss 94 93]
def Nv :=[qm 96 94,qm 17 96]
def Nw :=[qM 97 9,qM 98 17,qJ 99 3 97 98,qA 100 11 3,qM 101 17,qC 102 mP [100,101],qo 103 (.call false (.c (.fn bV [] [])) [(.t 99),(.t 102),(.c (.int .i64 1))])]
def Nx :=[qn 104 .add 94 1,qm 94 104]
def kJ:Abs.cA:=sR [3,9,12,93,94,95] Nu (.seq (.ite (.t 95) .ep (.exit 4)) (.seq (.bL 5 (sR [3,9,12,17,93,94] Nv (.cm [3,9,12,93,94] Nw))) (.cm [3,9,12,93,94] Nx)))
def Ny :=[qa 105 11 3,qm 106 9,qc 107 kj [105,106],qu 108 107]
def Nz :=[qo 6 (.mv (.c .aI)),qo 7 (.mv (.c .aI)),qi 8 9]
def NA :=[qm 109 9,qm 110 12,qm 6 109,qm 7 110,qi 8 0]
def gM:Abs.cA:=sR [1,2,3,9,12] VU (sL [1,3,9,12,41,42,43] VV 2 [1,3,9,12,41,42,43] false kI (sL [3,9,12,93,94] Nt 4 [3,9,12,93,94] false kJ (sE [9,12,108] Ny 108 [6,7,8] Nz (sR [6,7,8] NA .ret))))
def Cv:uc:=an7 [(26,[6,7,8]),(25,[6,7,8]),(24,[9,12,108]),(23,[3,9,12,93,94]),(22,[3,9,12,93,94]),(21,[3,9,12,17,93,94]),(20,[3,9,12,93,94,95]),(19,[3,9,12,93,94]),(18,[1,3,9,12,41,42,43]),(17,[1,3,9,12,41,42,43]),(14,[1,3,9,12,16,41,42,43]),(16,[1,3,9,12,16,41,42,43]),(15,[1,3,9,12,15,16,41,42,43]),(13,[1,3,9,12,13,14,15,16,41,42,43,56]),(12,[1,3,9,12,13,14,15,16,41,42,43]),(11,[1,3,9,12,13,14,15,41,42,43]),(10,[1,3,9,12,13,14,41,42,43]),(9,[1,3,9,12,41,42,43,44]),(8,[1,3,9,12,41,42,43]),(7,[1,2,3,9,12]),(6,[1,2,3,9,23]),(5,[1,2,3,9,10,11,23]),(4,[1,2,3,9,10,11,23]),(3,[1,2,3,9,23,25]),(2,[1,2,3,9,23]),(1,[1,2,3,9]),(0,[1,2,3])] [(4,[3,9,12,93,94]),(2,[1,3,9,12,41,42,43]),(0,[1,2,3,9,23])] [] [10,11,12,16] [10,11,16] [] [2002,1001]
def oK:Abs.Fn:=⟨3,[.t 6,.t 7,.t 8],sR [1,2,3] VO (sR [1,2,3,9] VP (sR [1,2,3,9,23] VQ (.iA [1,2,3,9,23] (.t 23) 24 25 0 lW gM)))⟩
attribute [simp] VO VP VQ VR VS VT VU VV VW Nj Nk Nl Nn No Np Nq Nr Ns Nt Nu Nv Nw Nx Ny Nz NA
def VX :=[qx 2 0,qx 3 1,qi 4 0]
def VY :=[qa 5 4 2,qo 6 (.xf cr [(.t 5)] []),qo 7 (.xf fM [] [(.t 2),(.t 3)]),qo 8 (.uH 2 1 [.ir,.ir] [(0,1,(.t 6)),(1,1,(.t 7))]),qc 9 mV [8],qm 4 9]
def nj:Abs.Fn:=⟨2,[.t 4],sR [2,3] VX (sR [4] VY .ret)⟩
attribute [simp] VX VY
def aly :=[qx 3 1,qb 4 false]
def alz :=[qm 5 0,qo 6 (.xf ju [] [(.t 3)]),qc 7 dY [5,6],qu 8 7,qm 4 8]
def tD:Abs.Fn:=⟨2,[.t 4],sR [0,3] aly (sR [4] alz .ret)⟩
def VZ :=[qx 2 0,qb 3 false]
def V0 :=[qa 4 9 1,qa 5 2 2,qo 6 (.lf [zI,zI,zI,zI,.aI,zI,zI,zI,.aI,(.str []),.aI] [(0,9,(.t 4)),(9,2,(.t 5))]),qc 7 jc [6],qm 3 7]
def tF:Abs.Fn:=⟨2,[.t 3],sR [1,2] VZ (sR [3] V0 .ret)⟩
attribute [simp] VZ V0
def V1 :=[qx 3 0,qi 6 0]
def V2 :=[qA 10 11 3,qM 11 2,qC 12 fa [10,11],qF 13 0 3,qF 14 5 13,qL 15 1 14,qM 16 1,qM 17 2,qJ 18 3 16 17,qF 19 0 18,qL 20 1 19,qA 21 11 3,qM 22 2,qC 23 eZ [21,22],qK 24 .sub 20 23,qK 25 .mul 15 24,qA 26 11 3,qM 27 2,qC 28 eZ [26,27],qc 29 vg [25,28],qk 30 .add 12 29,qo 31 (.mx (.c zI) (.t 30)),qm 7 31]
def V3 :=[qf 32 0 3,qf 33 4 32,ql 34 1 33,qe 35 34,qi 36 0]
def V4 :=[qk 37 .lss 36 35]
def V5 :=[qj 38 5 34 36,qa 39 5 38,qo 9 (.dT [] [zI,zI,zI,zI,zI]),qs 9 5 9 39]
def V6 :=[qF 40 2 9,qV 41 9 1 40,qM 42 1,qM 43 2,qJ 44 3 42 43,qF 45 0 44,qL 46 1 45,qK 47 .mul 41 46,qM 48 1,qM 49 2,qJ 50 3 48 49,qF 51 1 50,qL 52 1 51,qk 53 .leq 47 52]
def V7 :=[qm 54 7,qf 55 1 9,qv 56 9 1 55,qo 57 (.mx (.t 54) (.t 56)),qm 7 57]
def V8 :=[qn 58 .add 36 1,qm 36 58]
def iG:Abs.cA:=sR [1,2,7,34,35,36,37] V4 (.seq (.ite (.t 37) .ep (.exit 0)) (.seq (.bL 1 (sR [1,2,7,9,34,35,36] V5 (sR [1,2,7,9,34,35,36,53] V6 (.ite (.t 53) (.cm [1,2,7,34,35,36] V7) .ep)))) (.cm [1,2,7,34,35,36] V8)))
def V9 :=[qm 59 7,qm 6 59]
def kH:Abs.Fn:=⟨3,[.t 6],sR [1,2,3] V1 (sR [1,2,3,7] V2 (sL [1,2,7,34,35,36] V3 0 [1,2,7,34,35,36] false iG (sR [6] V9 .ret)))⟩
attribute [simp] V1 V2 V3 V4 V5 V6 V7 V8 V9
def Wa :=[qo 0 (.dT [] [.ir,.ir,.ir,.ir,.ir])]
def Wb :=[qo 1 (.lf [.ir,.ir,.ir,.ir,.ir] [(2,1,(.c (.fn jT [] []))),(3,1,(.c (.fn ig [] []))),(4,1,(.c (.fn ja [] [])))]),qs 0 5 0 1]
def vV:Abs.Fn:=⟨0,[.v 0 true 5],sR [0] Wa (sR [0] Wb .ret)⟩
attribute [simp] Wa Wb
def Wc :=[qb 6 false]
def We :=[qm 7 1,qm 8 0,qk 9 .leq 7 8,qm 10 9,qg 10 true (qm 11 0),qg 10 true (qm 12 2),qg 10 true (qk 13 .leq 11 12),qp 14 10 13,qm 6 14]
def tB:Abs.Fn:=⟨3,[.t 6],sR [0,1,2] Wc (sR [6] We .ret)⟩
attribute [simp] Wc We
def alA :=[qx 3 1,qb 4 false]
def alB :=[qm 5 0,qo 6 (.xf jr [] [(.t 3)]),qc 7 eC [5,6],qu 8 7,qm 4 8]
def tA:Abs.Fn:=⟨2,[.t 4],sR [0,3] alA (sR [4] alB .ret)⟩
def Wf :=[qx 2 0,qb 3 false]
def Wg :=[qf 5 1 2,ql 6 1 5,ql 7 1 1,qo 8 (.call false (.c (.fn jD [] [])) [(.t 6),(.c zI),(.t 7)]),qm 4 8]
def Wh :=[qf 9 1 2,ql 10 1 9,qt 1 1 10]
def Wi :=[qm 11 4,qm 12 11,qg 12 true (qf 13 0 2),qg 12 true (ql 14 1 13),qg 12 true (qo 15 (.call false (.c (.fn jD [] [])) [(.t 14),(.c (.int .i64 1)),(.c (.int .i64 100000))])),qp 16 12 15,qm 3 16]
def my:Abs.Fn:=⟨2,[.t 3],sR [1,2] Wf (sR [1,2,4] Wg (sR [2,4] Wh (sR [3] Wi .ret)))⟩
attribute [simp] Wf Wg Wh Wi
def Wj :=[qx 2 0,qx 3 1,qi 4 0]
def Wk :=[qf 6 1 3,ql 7 1 6,qf 8 0 3,ql 9 1 8,qf 10 0 2,qf 11 2 10,ql 12 1 11,qk 13 .mul 9 12,qk 14 .sub 7 13,qm 5 14]
def Wl :=[qm 16 5,qn 17 .leq 16 0,qm 15 17]
def Wm :=[qi 4 0]
def Wn :=[qf 19 1 3,ql 20 1 19,qf 21 0 3,ql 22 1 21,qf 23 0 2,qf 24 3 23,ql 25 1 24,qk 26 .mul 22 25,qk 27 .geq 20 26,qm 18 27]
def Wo :=[qf 28 0 3,ql 29 1 28,qm 4 29]
def Wp :=[qm 30 5,qf 31 0 2,qf 32 3 31,ql 33 1 32,qf 34 0 2,qf 35 2 34,ql 36 1 35,qk 37 .sub 33 36,qk 38 .quo 30 37,qm 4 38]
def nL:Abs.Fn:=⟨2,[.t 4],sR [2,3] Wj (sR [2,3,5] Wk (.seq (.bL 0 (sR [2,3,5,15] Wl (.ite (.t 15) (sR [4] Wm .ret) (sR [2,3,5,18] Wn (.ite (.t 18) (sR [4] Wo .ret) .ep))))) (sR [4] Wp .ret)))⟩
attribute [simp] Wj Wk Wl Wm Wn Wo Wp
def alC :=[qx 3 1,qb 4 false]
def alD :=[qm 5 0,qo 6 (.xf gQ [] [(.t 3)]),qc 7 dN [5,6],qu 8 7,qm 4 8]
def rO:Abs.Fn:=⟨2,[.t 4],sR [0,3] alC (sR [4] alD .ret)⟩
def Wq :=[qx 1 0,qb 2 false]
def Wr :=[qa 3 4 1,qc 4 km [3],qn 5 .eql 4 0,qm 2 5]
def sf:Abs.Fn:=⟨1,[.t 2],sR [1] Wq (sR [2] Wr .ret)⟩
attribute [simp] Wq Wr
def Ws :=[qx 1 0,qi 2 0]
def Wt :=[qa 3 4 1,qc 4 gC [3],qu 5 4]
def Wu :=[qi 2 1]
def Wv :=[qi 2 0]
def nJ:Abs.Fn:=⟨1,[.t 2],sR [1] Ws (sE [5] Wt 5 [2] Wu (sR [2] Wv .ret))⟩
attribute [simp] Ws Wt Wu Wv
def Ww :=[qx 2 0,qo 3 (.Ha (.t 1)),qo 4 (.mv (.c .ir))]
def Wx :=[qo 5 (.xf ie [] [(.t 2),(.t 3)]),qm 4 5]
def pB:Abs.Fn:=⟨2,[.t 4],sR [2,3] Ww (sR [4] Wx .ret)⟩
attribute [simp] Ww Wx
def alE :=[qb 4 false]
def alF :=[qm 5 0,qm 6 1,qc 7 fX [5,6],qn 8 .geq 7 0,qm 4 8]
def nd:Abs.Fn:=⟨2,[.t 4],sR [0,1] alE (sR [4] alF .ret)⟩
def alG :=[qx 2 0,qb 3 false]
def alH :=[ql 4 1 1,qa 5 5 2,qo 6 (.call false (.t 4) [(.t 5)]),qu 7 6,qm 3 7]
def sQ:Abs.Fn:=⟨2,[.t 3],sR [1,2] alG (sR [3] alH .ret)⟩
def alI :=[qb 4 false]
def alJ :=[qm 5 0,qm 6 1,qc 7 fW [5,6],qn 8 .geq 7 0,qm 4 8]
def nc:Abs.Fn:=⟨2,[.t 4],sR [0,1] alI (sR [4] alJ .ret)⟩
def alK :=[qx 2 0,qb 3 false]
def alL :=[ql 4 1 1,qa 5 3 2,qo 6 (.call false (.t 4) [(.t 5)]),qu 7 6,qm 3 7]
def tE:Abs.Fn:=⟨2,[.t 3],sR [1,2] alK (sR [3] alL .ret)⟩
def alM :=[qx 3 1,qb 4 false]
def alN :=[qm 5 0,qo 6 (.xf nU [] [(.t 3)]),qc 7 bJ [5,6],qu 8 7,qm 4 8]
def AA:Abs.Fn:=⟨2,[.t 4],sR [0,3] alM (sR [4] alN .ret)⟩
def Wy :=[qx 2 0,qo 4 (.mv (.c .aI))]
def Wz :=[qF 5 9 2,qF 6 1 5,qL 7 1 6,qM 8 1,qF 9 0 2,qA 10 9 9,qC 11 cV [10],qK 12 .mul 8 11,qM 13 1,qN 14 .add 13 1,qF 15 0 2,qA 16 9 15,qC 17 cV [16],qK 18 .mul 14 17,qo 19 (.K8 1 (.t 7) (some (.t 12)) (some (.t 18)) none),qm 4 19]
def oI:Abs.Fn:=⟨2,[.t 4],sR [1,2] Wy (sR [4] Wz .ret)⟩
attribute [simp] Wy Wz
def WA :=[qb 3 false]
def WB :=[qm 4 0,qo 5 (.AI 2 1 (.t 1) (.c zI)),ql 6 1 5,qo 7 (.AI 2 1 (.t 1) (.c (.int .i64 1))),ql 8 1 7,qc 9 bY [4,6,8],qm 3 9]
def mA:Abs.Fn:=⟨2,[.t 3],sR [0,1] WA (sR [3] WB .ret)⟩
attribute [simp] WA WB
def alO :=[qb 3 false]
def alP :=[ql 4 1 1,qm 5 0,qo 6 (.call false (.t 4) [(.t 5)]),qu 7 6,qm 3 7]
def xp:Abs.Fn:=⟨2,[.t 3],sR [0,1] alO (sR [3] alP .ret)⟩
def alQ :=[qi 4 0]
def alR :=[qm 6 0,qe 7 6,qi 8 0]
def alS :=[qk 9 .lss 8 7]
def alT :=[qm 10 8,qm 5 10]
def alU :=[qm 11 1,qm 12 0,qm 13 5,qj 14 10 12 13,qa 15 10 14,qo 16 (.call false (.t 11) [(.t 15)])]
def alV :=[qm 17 5,qm 4 17]
def alW :=[qn 18 .add 8 1,qm 8 18]
def td:Abs.cA:=sR [0,1,7,8,9] alS (.seq (.ite (.t 9) .ep (.exit 0)) (.seq (.bL 1 (sR [0,1,5,7,8] alT (sR [0,1,5,7,8,16] alU (.ite (.t 16) (sR [4] alV .ret) .ep)))) (.cm [0,1,7,8] alW)))
def alX :=[qi 4 (-1)]
def iS:Abs.Fn:=⟨2,[.t 4],sR [0,1] alQ (sL [0,1,7,8] alR 0 [0,1,7,8] false td (sR [4] alX .ret))⟩
def alY :=[qi 4 0]
def alZ :=[qm 6 0,qe 7 6,qi 8 0]
def al0 :=[qk 9 .lss 8 7]
def al1 :=[qm 10 8,qm 5 10]
def al2 :=[qm 11 1,qm 12 0,qm 13 5,qj 14 2 12 13,qa 15 2 14,qo 16 (.call false (.t 11) [(.t 15)])]
def al3 :=[qm 17 5,qm 4 17]
def al4 :=[qn 18 .add 8 1,qm 8 18]
def sA:Abs.cA:=sR [0,1,7,8,9] al0 (.seq (.ite (.t 9) .ep (.exit 0)) (.seq (.bL 1 (sR [0,1,5,7,8] al1 (sR [0,1,5,7,8,16] al2 (.ite (.t 16) (sR [4] al3 .ret) .ep)))) (.cm [0,1,7,8] al4)))
def al5 :=[qi 4 (-1)]
def iB:Abs.Fn:=⟨2,[.t 4],sR [0,1] alY (sL [0,1,7,8] alZ 0 [0,1,7,8] false sA (sR [4] al5 .ret))⟩
def WE :=[qb 2 false]
def WG :=[qm 3 0,qo 4 (.call false (.c (.fn bX [] [])) [(.t 3),(.c (.int .i64 (-20000))),(.c (.int .i64 20000))]),qm 2 4]
def kL:Abs.Fn:=⟨1,[.t 2],sR [0] WE (sR [2] WG .ret)⟩
attribute [simp] WE WG
def tF2:List (Nat×uc×Abs.Fn):=[A4 [0,3,2,5,6,4,1,7] fg pc [] [0,3] [3] [] [] [] [] [] [(2,some 1)],A4 [] gS mB [] [4,12] [4] [(1,[(0,1),(1,1)]),(1004,[(0,1),(1,1)]),(8011,[(0,1),(1,1)]),(8013,[(0,1)]),(10001,[(0,1),(1,1)])] [] [] [] [] [(7,some 2)],A0 tN vU,A0 lD ow,A4 [] sU vb [] [6,8] [8] [] [] [] [] [] [(4,some 5)],A0 mO pG,A0 kl nG,A2 [] iV ot [] [3],A0 mQ pM,A0 gC mG,A3 [] nY rm [] [4] [4] [] [],A3 [0,1,4,3,6,5,2,7,8,9,10,11,12] nZ rn [] [4] [4] [] [],A0 rV uQ,A3 [] iO lQ [] [4] [4] [] [],(lC,Cu,oq),A4 [] nX rl [] [] [] [] [] [] [] [] [(2,some 1)],A4 [] nW rk [] [] [] [] [] [] [] [] [(2,some 1)],A0 kf nr,A0 cZ tJ,A0 iP uk,A0 jV pL,A0 bY uS,A0 cV si,A0 jF va,A0 eW oz,A2 [] jc oG [0] [4],A0 eZ oH,A0 lG oL,A3 [] eQ gJ [] [7] [7] [] [],A0 dc jm,A0 pg uM,A0 cY mo,A0 o4 zR,A0 fO lK,A0 du tt,A0 lq oj,A0 lr om,A0 kW qT,A0 cM gF,A0 ff ll,A0 tP vY,A0 cJ gf,A0 eF kM,A0 ft kK,A0 fe mI,A0 fq iT,A0 gW ln,A0 oQ sB,A0 kP pK,A0 qD vc,A0 nT rh,(lF,Cv,oK),A0 ia nj,A0 gR tD,A0 nV tF,A3 [] fm kH [] [9] [9] [] [],A3 [] tO vV [] [0] [0] [] [],A0 jD tB,A0 gP tA,A2 [] dE my [] [1],A0 kn nL,A0 jt rO,A0 mg sf,A0 km nJ,A2 [] mL pB [] [3],A0 eL nd,A0 jW sQ,A0 eK nc,A0 kN tE,A0 jE AA,A0 dM oI,A0 dF mA,A0 pQ xp,A0 dz iS,A0 di iB,A0 dP kL]
theorem kF2:(tF2.map fun p=>chk p)=tF2.map fun p=>some p.2.2:=by kernel_rfl
end Go.Proofs.YtklfdfnoebnciaaGreatDoor
