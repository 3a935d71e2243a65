import Derived.Test.YtcgippbplkagkaaGreatIds
set_option linter.all false
set_option maxRecDepth 100000
namespace Go.Proofs.YtcgippbplkagkaaGreat
open Go Go.Abs
def P6 :=[qx 2 0,qi 4 0]
def P7 :=[qm 8 1,qe 9 8,qn 10 .gtr 9 200]
def P8 :=[qi 4 3]
def P9 :=[qm 11 1,qe 12 11,qi 13 0]
def Qa :=[qk 14 .lss 13 12]
def Qb :=[qj 15 1 11 13,ql 16 1 15,qm 6 16]
def Qc :=[qa 17 9 2,qm 18 6,qc 19 jn [17,18],qm 7 19]
def Qd :=[qm 20 7,qn 21 .neq 20 0]
def Qe :=[qm 22 7,qm 4 22]
def Qf :=[qn 23 .add 13 1,qm 13 23]
def iX:Abs.bQ:=sR [2,11,12,13,14] Qa (.seq (.ite (.t 14) .ei (.exit 0)) (.seq (.bu 1 (sR [2,6,11,12,13] Qb (sR [2,7,11,12,13] Qc (sR [2,7,11,12,13,21] Qd (.ite (.t 21) (sR [4] Qe .ret) .ei))))) (.cL [2,11,12,13] Qf)))
def Ia :=[qi 4 0]
def l6:Abs.Fn:=⟨2,[.t 4],sR [1,2] P6 (sE [1,2,10] P7 10 [4] P8 (sL [2,11,12,13] P9 0 [2,11,12,13] false iX (sR [4] Ia .ret)))⟩
attribute [simp] P6 P7 P8 P9 Qa Qb Qc Qd Qe Qf Ia
def Qg :=[qo 4 (.fR [] [zI,zI])]
def Qh :=[qM 8 1,qM 9 0,qO 10 (.wI 2 (.t 9) (.c zI)),qA 11 2 10,qO 12 (.call false (.t 8) [(.t 11)]),qM 13 1,qM 14 0,qO 15 (.wI 2 (.t 14) (.c zI)),qA 16 2 15,qO 17 (.call false (.t 13) [(.t 16)]),qO 18 (.o7 [zI,zI] [(0,1,(.t 12)),(1,1,(.t 17))]),qO 5 (.fR [] [zI,zI]),qs 5 2 5 18]
def Qi :=[qm 19 0,qe 20 19,qi 21 0]
def Qj :=[qk 22 .lss 21 20]
def Qk :=[qj 23 2 19 21,qa 24 2 23,qo 7 (.fR [] [.bw,.bw]),qs 7 2 7 24]
def Ql :=[qF 25 0 5,qV 26 5 1 25,qM 27 1,qW 28 7 2 7,qO 29 (.call false (.t 27) [(.t 28)]),qO 30 (.mn (.t 26) (.t 29)),qF 31 1 5,qV 32 5 1 31,qM 33 1,qW 34 7 2 7,qO 35 (.call false (.t 33) [(.t 34)]),qO 36 (.mx (.t 32) (.t 35)),qo 37 (.o7 [zI,zI] [(0,1,(.t 30)),(1,1,(.t 36))]),qs 5 2 5 37]
def Qm :=[qn 38 .add 21 1,qm 21 38]
def jh:Abs.bQ:=sR [1,4,5,19,20,21,22] Qj (.seq (.ite (.t 22) .ei (.exit 0)) (.seq (.bu 1 (sR [1,4,5,7,19,20,21] Qk (.cL [1,4,5,19,20,21] Ql))) (.cL [1,4,5,19,20,21] Qm)))
def Qo :=[qw 39 5 2 5,qs 4 2 4 39]
def iA:Abs.Fn:=⟨2,[.v 4 true 2],sR [0,1,4] Qg (sR [0,1,4,5] Qh (sL [1,4,5,19,20,21] Qi 0 [1,4,5,19,20,21] false jh (sR [4] Qo .ret)))⟩
attribute [simp] Qg Qh Qi Qj Qk Ql Qm Qo
def Qp :=[qx 3 0,qo 6 (.rC 2)]
def Qq :=[qm 9 1,qe 10 9,qi 11 0]
def Qr :=[qk 12 .lss 11 10]
def Qs :=[qj 13 2 9 11,qa 14 2 13,qo 8 (.fR [] [(.str []),.bw]),qs 8 2 8 14]
def Qu :=[qm 15 6,qa 16 9 3,qw 17 8 2 8,qo 18 (.o7 [zI,zI,zI,zI,.bw,zI,zI,zI,.bw,(.str []),.bw] [(0,9,(.t 16)),(9,2,(.t 17))]),qm 19 2]
def Qv :=[qo 21 (.wH 1 2 [.bw,.bw] [(0,2,(.t 20))]),qy 22 2 48 15 21,qm 6 22]
def Qw :=[qn 23 .add 11 1,qm 11 23]
def mK:Abs.bQ:=sR [2,3,6,9,10,11,12] Qr (.seq (.ite (.t 12) .ei (.exit 0)) (.seq (.bu 1 (sR [2,3,6,8,9,10,11] Qs (.wN [2,3,6,9,10,11] Qu ⟨some 20,none,false,.call false (.c (.fn fC [] [])) [(.t 18),(.t 19)]⟩ Qv))) (.cL [2,3,6,9,10,11] Qw)))
def Qx :=[qm 24 6,qm 6 24]
def nX:Abs.Fn:=⟨3,[.t 6],sR [1,2,3,6] Qp (sL [2,3,6,9,10,11] Qq 0 [2,3,6,9,10,11] false mK (sR [6] Qx .ret))⟩
attribute [simp] Qp Qq Qr Qs Qu Qv Qw Qx
def Qy :=[qx 3 0,qi 4 0]
def Qz :=[qf 7 1 3,ql 8 1 7,qe 9 8,qi 10 0]
def QA :=[qk 11 .lss 10 9]
def QB :=[qm 12 10,qj 13 1 8 10,ql 14 1 13,qm 5 12,qm 6 14]
def QC :=[qL 15 1 1,qM 16 6,qL 17 1 2,qJ 18 3 16 17,qA 19 3 18,qo 20 (.call false (.t 15) [(.t 19)])]
def QD :=[qm 21 5,qn 22 .add 21 1,qm 4 22]
def QE :=[qn 23 .add 10 1,qm 10 23]
def lq:Abs.bQ:=sR [1,2,3,8,9,10,11] QA (.seq (.ite (.t 11) .ei (.exit 0)) (.seq (.bu 1 (sR [1,2,3,5,6,8,9,10] QB (sR [1,2,3,5,8,9,10,20] QC (.ite (.t 20) (sR [4] QD .ret) .ei)))) (.cL [1,2,3,8,9,10] QE)))
def QF :=[qf 24 1 3,ql 25 1 24,qe 26 25,qn 27 .add 26 1,qm 4 27]
def nQ:Abs.Fn:=⟨3,[.t 4],sR [1,2,3] Qy (sL [1,2,3,8,9,10] Qz 0 [1,2,3,8,9,10] false lq (sR [4] QF .ret))⟩
attribute [simp] Qy Qz QA QB QC QD QE QF
def QG :=[qb 6 false]
def QH :=[qm 7 0,qm 8 1,qk 9 .geq 7 8,qm 10 9,qg 10 true (qm 11 0),qg 10 true (qm 12 2),qg 10 true (qk 13 .leq 11 12),qp 14 10 13,qm 6 14]
def rj:Abs.Fn:=⟨3,[.t 6],sR [0,1,2] QG (sR [6] QH .ret)⟩
attribute [simp] QG QH
def QI :=[qx 2 0,qx 3 1,qi 4 0]
def QJ :=[qf 6 0 3,ql 7 1 6,qc 8 mO [7],qu 9 8]
def QK :=[qi 4 5]
def QL :=[qF 10 1 3,qL 11 1 10,qE 12 11,qF 13 3 2,qL 14 1 13,qA 15 4 2,qC 16 gg [15],qK 17 .mul 14 16,qk 18 .neq 12 17]
def QM :=[qi 4 1]
def QN :=[qi 5 0]
def QO :=[qm 19 5,qf 20 1 3,ql 21 1 20,qe 22 21,qk 23 .lss 19 22]
def QP :=[qf 26 1 3,ql 27 1 26,qm 28 5,qj 29 1 27 28,ql 30 1 29,qo 31 (.call false (.c (.fn jS [] [])) [(.t 30),(.c (.int .i64 (-100000))),(.c (.int .i64 100000))]),qu 32 31]
def QQ :=[qi 4 1]
def QR :=[qm 24 5,qn 25 .add 24 1,qm 5 25]
def fW:Abs.bQ:=sI [3,5,23] QO 23 .ei (.exit 0) (.seq (.bu 1 (sR [3,5,32] QP (.ite (.t 32) (sR [4] QQ .ret) .ei))) (.cL [3,5] QR))
def Ib :=[qi 4 0]
def jE:Abs.Fn:=⟨2,[.t 4],sR [2,3] QI (sE [2,3,9] QJ 9 [4] QK (sE [3,18] QL 18 [4] QM (sL [3,5] QN 0 [3,5] false fW (sR [4] Ib .ret))))⟩
attribute [simp] QI QJ QK QL QM QN QO QP QQ QR Ib
def QS :=[qx 4 0,qx 5 1,qi 8 0]
def QT :=[qF 9 1 5,qL 10 1 9,qM 11 2,qF 12 0 4,qA 13 4 12,qC 14 gg [13],qK 15 .mul 11 14,qM 16 3,qK 17 .add 15 16,qj 18 1 10 17,ql 19 1 18,qm 8 19]
def nP:Abs.Fn:=⟨4,[.t 8],sR [2,3,4,5] QS (sR [8] QT .ret)⟩
attribute [simp] QS QT
def QU :=[qx 1 0,qo 2 (.mv (.c .nd))]
def QV :=[qa 11 2 1,qo 12 (.o7 [zI,.bw,zI,zI,zI,zI,zI,zI,zI,zI,zI,zI,zI,zI,zI,zI,zI,zI,zI,zI,zI,zI,zI,zI,zI,zI,zI,zI,zI,zI,zI,zI,zI,zI,zI,zI,zI,zI,zI,zI,zI,zI,zI,zI,zI,zI,zI,zI,zI,zI,zI,zI,zI,zI,zI,zI,zI,zI,zI,zI,zI,zI,zI,zI,zI,zI,zI,zI,zI,zI,zI,zI,zI,zI,zI,zI,zI,zI,zI,zI,zI,zI,zI,zI,zI,zI,zI,zI,zI,zI,zI,zI,zI,zI,zI,zI,zI,zI,zI,zI,zI,zI,zI,zI,zI,zI,zI,zI,zI,zI,zI,zI,zI,zI,zI,zI,zI,zI,zI,zI,zI,zI,zI,zI,zI,zI,zI,zI,zI,zI,zI,zI,zI,zI,zI,zI,zI,zI,zI,zI,zI,zI,zI,zI,zI,zI,zI,zI,zI,zI,zI,zI,zI,zI,zI,zI,zI,zI,zI,zI,zI,zI,zI,zI,zI,zI,zI,zI,zI,zI,zI,zI,zI,zI,zI,zI,zI,zI,zI,zI,zI,zI,zI,zI,zI,zI,zI,zI,zI,zI,zI,zI,zI,zI,zI,zI,zI,zI,zI,zI,zI,zI,zI,zI,zI,zI,zI,zI,zI,zI,zI,zI,zI,zI,zI,zI,zI,zI,zI,zI,zI,zI,zI,zI,zI,zI,zI,zI,zI,zI,zI,zI,zI,zI,zI,zI,zI,zI,zI,zI,zI,zI,zI,zI,zI,zI,zI,zI,zI,zI,zI,zI,zI,zI,zI,zI,zI,zI,zI,zI,zI,zI,zI,zI,zI,zI,zI,zI,zI,zI,zI,zI,zI,zI,zI,zI,zI,zI,zI,zI,zI,zI,zI,zI,zI,zI,zI,zI,zI,zI] [(0,2,(.t 11))]),qo 13 (.xr (.t 12)),qm 3 13]
def QW :=[qi 14 0]
def QX :=[qn 15 .lss 14 12]
def QY :=[qm 16 14,qm 4 16]
def QZ :=[qi 17 0]
def Q0 :=[qn 18 .lss 17 12]
def Q1 :=[qm 19 17,qm 5 19]
def Q2 :=[qm 20 3,qm 21 4,qm 22 5,qo 23 (.uj (.t 20)),qf 24 146 23,qo 25 (.lH 12 12 (.t 24) (.t 21)),qo 26 (.lH 12 1 (.t 25) (.t 22)),⟨none,none,false,.st [] 1 (.t 26) (.c (.int .i64 (-1)))⟩]
def Q3 :=[qm 27 4,qm 28 5,qk 29 .neq 27 28]
def Ic :=[qm 30 3,qm 31 4,qm 32 5,qo 33 (.uj (.t 30)),qf 34 2 33,qo 35 (.lH 12 12 (.t 34) (.t 31)),qo 36 (.lH 12 1 (.t 35) (.t 32)),⟨none,none,false,.st [] 1 (.t 36) (.c (.int .i64 1000000))⟩]
def Ie :=[qn 37 .add 17 1,qm 17 37]
def dS:Abs.bQ:=sR [1,3,4,14,17,18] Q0 (.seq (.ite (.t 18) .ei (.exit 2)) (.seq (.bu 3 (sR [1,3,4,5,14,17] Q1 (sR [1,3,4,5,14,17] Q2 (sR [1,3,4,5,14,17,29] Q3 (.ite (.t 29) (.cL [1,3,4,14,17] Ic) .ei))))) (.cL [1,3,4,14,17] Ie)))
def Ig :=[qn 38 .add 14 1,qm 14 38]
def dT:Abs.bQ:=sR [1,3,14,15] QX (.seq (.ite (.t 15) .ei (.exit 0)) (.seq (.bu 1 (sR [1,3,4,14] QY (sR [1,3,4,14,17] QZ (.bu 2 (.loop [1,3,4,14,17] false dS))))) (.cL [1,3,14] Ig)))
def Ih :=[qm 39 3,qo 40 (.uj (.t 39)),qf 41 2 40,qa 42 144 41,qo 6 (.fR [] [zI,zI,zI,zI,zI,zI,zI,zI,zI,zI,zI,zI,zI,zI,zI,zI,zI,zI,zI,zI,zI,zI,zI,zI,zI,zI,zI,zI,zI,zI,zI,zI,zI,zI,zI,zI,zI,zI,zI,zI,zI,zI,zI,zI,zI,zI,zI,zI,zI,zI,zI,zI,zI,zI,zI,zI,zI,zI,zI,zI,zI,zI,zI,zI,zI,zI,zI,zI,zI,zI,zI,zI,zI,zI,zI,zI,zI,zI,zI,zI,zI,zI,zI,zI,zI,zI,zI,zI,zI,zI,zI,zI,zI,zI,zI,zI,zI,zI,zI,zI,zI,zI,zI,zI,zI,zI,zI,zI,zI,zI,zI,zI,zI,zI,zI,zI,zI,zI,zI,zI,zI,zI,zI,zI,zI,zI,zI,zI,zI,zI,zI,zI,zI,zI,zI,zI,zI,zI,zI,zI,zI,zI,zI,zI]),qs 6 144 6 42]
def Ii :=[qf 43 1 1,ql 44 1 43,qe 45 44,qi 46 0]
def Ij :=[qk 47 .lss 46 45]
def Ik :=[qm 48 46,qj 49 4 44 46,qa 50 4 49,qo 8 (.fR [] [zI,zI,zI,zI]),qm 7 48,qs 8 4 8 50]
def Il :=[qf 51 0 1,ql 52 1 51,qi 53 0]
def Im :=[qk 54 .lss 53 52]
def Io :=[qm 55 53,qm 9 55]
def Ip :=[qF 56 2 8,qF 57 1 56,qV 58 8 1 57,qM 59 3,qF 60 1 8,qV 61 8 1 60,qM 62 9,qO 63 (.uj (.t 59)),qF 64 2 63,qO 65 (.lH 12 12 (.t 64) (.t 61)),qO 66 (.lH 12 1 (.t 65) (.t 62)),qL 67 1 66,qk 68 .add 58 67,qm 10 68]
def Iq :=[qM 69 10,qM 70 3,qF 71 0 8,qV 72 8 1 71,qM 73 9,qO 74 (.uj (.t 70)),qF 75 2 74,qO 76 (.lH 12 12 (.t 75) (.t 72)),qO 77 (.lH 12 1 (.t 76) (.t 73)),qL 78 1 77,qk 79 .lss 69 78]
def Ir :=[qM 80 3,qF 81 0 8,qV 82 8 1 81,qM 83 9,qM 84 3,qF 85 0 8,qV 86 8 1 85,qM 87 9,qM 88 10,qM 89 7,qO 90 (.uj (.t 80)),qF 91 2 90,qO 92 (.lH 12 12 (.t 91) (.t 82)),qO 93 (.lH 12 1 (.t 92) (.t 83)),⟨none,none,true,.st [] 1 (.t 93) (.t 88)⟩,qO 94 (.uj (.t 84)),qF 95 146 94,qO 96 (.lH 12 12 (.t 95) (.t 86)),qo 97 (.lH 12 1 (.t 96) (.t 87)),qt 1 97 89]
def Is :=[qn 98 .add 53 1,qm 53 98]
def dU:Abs.bQ:=sR [1,3,6,7,8,44,45,46,52,53,54] Im (.seq (.ite (.t 54) .ei (.exit 8)) (.seq (.bu 9 (sR [1,3,6,7,8,9,44,45,46,52,53] Io (sR [1,3,6,7,8,9,10,44,45,46,52,53] Ip (sR [1,3,6,7,8,9,10,44,45,46,52,53,79] Iq (.ite (.t 79) (.cL [1,3,6,7,8,44,45,46,52,53] Ir) .ei))))) (.cL [1,3,6,7,8,44,45,46,52,53] Is)))
def It :=[qn 99 .add 46 1,qm 46 99]
def dV:Abs.bQ:=sR [1,3,6,44,45,46,47] Ij (.seq (.ite (.t 47) .ei (.exit 6)) (.seq (.bu 7 (sR [1,3,6,7,8,44,45,46] Ik (sR [1,3,6,7,8,44,45,46,52,53] Il (.bu 8 (.loop [1,3,6,7,8,44,45,46,52,53] false dU))))) (.cL [1,3,6,44,45,46] It)))
def Iu :=[qM 100 3,qO 101 (.uj (.t 100)),qF 102 2 101,qA 103 144 102,qW 104 6 144 6,qo 105 (.eqv true [some .i64,some .i64,some .i64,some .i64,some .i64,some .i64,some .i64,some .i64,some .i64,some .i64,some .i64,some .i64,some .i64,some .i64,some .i64,some .i64,some .i64,some .i64,some .i64,some .i64,some .i64,some .i64,some .i64,some .i64,some .i64,some .i64,some .i64,some .i64,some .i64,some .i64,some .i64,some .i64,some .i64,some .i64,some .i64,some .i64,some .i64,some .i64,some .i64,some .i64,some .i64,some .i64,some .i64,some .i64,some .i64,some .i64,some .i64,some .i64,some .i64,some .i64,some .i64,some .i64,some .i64,some .i64,some .i64,some .i64,some .i64,some .i64,some .i64,some .i64,some .i64,some .i64,some .i64,some .i64,some .i64,some .i64,some .i64,some .i64,some .i64,some .i64,some .i64,some .i64,some .i64,some .i64,some .i64,some .i64,some .i64,some .i64,some .i64,some .i64,some .i64,some .i64,some .i64,some .i64,some .i64,some .i64,some .i64,some .i64,some .i64,some .i64,some .i64,some .i64,some .i64,some .i64,some .i64,some .i64,some .i64,some .i64,some .i64,some .i64,some .i64,some .i64,some .i64,some .i64,some .i64,some .i64,some .i64,some .i64,some .i64,some .i64,some .i64,some .i64,some .i64,some .i64,some .i64,some .i64,some .i64,some .i64,some .i64,some .i64,some .i64,some .i64,some .i64,some .i64,some .i64,some .i64,some .i64,some .i64,some .i64,some .i64,some .i64,some .i64,some .i64,some .i64,some .i64,some .i64,some .i64,some .i64,some .i64,some .i64,some .i64,some .i64,some .i64,some .i64] false (.t 103) (.t 104))]
def gz:Abs.bQ:=.bu 5 (sR [1,3,6] Ih (sL [1,3,6,44,45,46] Ii 6 [1,3,6,44,45,46] false dV (sR [1,3,105] Iu (.ite (.t 105) (.exit 4) .ei))))
def Iv :=[qm 106 3,qm 2 106]
def fT:Abs.Fn:=⟨1,[.t 2],sR [1] QU (.seq .ei (sR [1,3] QV (sL [1,3,14] QW 0 [1,3,14] false dT (.seq .ei (.seq (.bu 4 (.loop [1,3] false gz)) (.seq (.seq (.cb [1000003]) (.cL [2] Iv)) .ret))))))⟩
attribute [simp] QU QV QW QX QY QZ Q0 Q1 Q2 Q3 Ic Ie Ig Ih Ii Ij Ik Il Im Io Ip Iq Ir Is It Iu Iv
def Q4 :=[qx 1 0,qi 2 0]
def Q5 :=[ql 3 1 1,qo 4 (.uj (.t 3)),qf 5 0 4,qf 6 1 5,ql 7 1 6,qo 8 (.wo de [] [(.t 1)]),qc 9 bP [7,8],qm 2 9]
def ij:Abs.Fn:=⟨1,[.t 2],sR [1] Q4 (sR [2] Q5 .ret)⟩
attribute [simp] Q4 Q5
def Q6 :=[qx 1 0,qi 2 0]
def Q7 :=[qa 3 4 1,qc 4 dp [3],qm 2 4]
def jD:Abs.Fn:=⟨1,[.t 2],sR [1] Q6 (sR [2] Q7 .ret)⟩
attribute [simp] Q6 Q7
def Q8 :=[qi 2 0]
def Q9 :=[qm 3 0,qc 4 fO [3],qu 5 4]
def Ra :=[qi 2 1]
def Rb :=[qi 2 0]
def jR:Abs.Fn:=⟨1,[.t 2],sR [0] Q8 (sE [5] Q9 5 [2] Ra (sR [2] Rb .ret))⟩
attribute [simp] Q8 Q9 Ra Rb
def Rc :=[qx 1 0,qi 2 0]
def Re :=[qf 3 0 1,qf 4 0 3,ql 5 1 4,qf 6 0 1,qf 7 1 6,ql 8 1 7,qk 9 .mul 5 8,qf 10 0 1,qf 11 2 10,ql 12 1 11,qk 13 .mul 9 12,qm 2 13]
def l7:Abs.Fn:=⟨1,[.t 2],sR [1] Rc (sR [2] Re .ret)⟩
attribute [simp] Rc Re
def Ye :=[qx 3 1,qb 4 false]
def Yf :=[qm 5 0,qo 6 (.wo gh [] [(.t 3)]),qc 7 cT [5,6],qu 8 7,qm 4 8]
def nW:Abs.Fn:=⟨2,[.t 4],sR [0,3] Ye (sR [4] Yf .ret)⟩
def Rf :=[qx 2 0,qb 3 false]
def Rg :=[qf 4 0 2,ql 5 1 4,ql 6 1 1,qe 7 6,qn 8 .sub 7 1,qo 9 (.call false (.c (.fn bN [] [])) [(.t 5),(.c zI),(.t 8)]),qu 10 9,qm 11 10,qg 11 false (ql 12 1 1),qg 11 false (qf 13 0 2),qg 11 false (ql 14 1 13),qg 11 false (qj 15 1 12 14),qg 11 false (ql 16 1 15),qP 17 11 16]
def Rh :=[qb 3 false]
def Ri :=[ql 18 1 1,qf 19 0 2,ql 20 1 19,qj 21 1 18 20,⟨none,none,false,.st [] 1 (.t 21) (.c (.bool true))⟩]
def Rj :=[qf 22 1 2,ql 23 1 22,qo 24 (.call false (.c (.fn bN [] [])) [(.t 23),(.c zI),(.c (.int .i64 3000))]),qm 25 24,qg 25 true (qf 26 2 2),qg 25 true (ql 27 1 26),qg 25 true (qo 28 (.call false (.c (.fn bN [] [])) [(.t 27),(.c zI),(.c (.int .i64 1000000))])),qp 29 25 28,qm 3 29]
def jI:Abs.Fn:=⟨2,[.t 3],sR [1,2] Rf (sE [1,2,17] Rg 17 [3] Rh (sR [2] Ri (sR [3] Rj .ret)))⟩
attribute [simp] Rf Rg Rh Ri Rj
def Rk :=[qi 2 0]
def Rl :=[qm 6 0,qe 7 6,qi 8 0]
def Rm :=[qk 9 .lss 8 7]
def Rn :=[qj 10 1 6 8,ql 11 1 10,qm 4 11]
def Ro :=[qm 12 4,qo 13 (.call false (.t 12) []),qm 5 13]
def Rp :=[qm 14 5,qn 15 .neq 14 0]
def Rq :=[qm 16 5,qm 2 16]
def Rr :=[qn 17 .add 8 1,qm 8 17]
def kY:Abs.bQ:=sR [6,7,8,9] Rm (.seq (.ite (.t 9) .ei (.exit 0)) (.seq (.bu 1 (sR [4,6,7,8] Rn (sR [5,6,7,8] Ro (sR [5,6,7,8,15] Rp (.ite (.t 15) (sR [2] Rq .ret) .ei))))) (.cL [6,7,8] Rr)))
def Rt :=[qi 2 0]
def nG:Abs.Fn:=⟨1,[.t 2],sR [0] Rk (sL [6,7,8] Rl 0 [6,7,8] false kY (sR [2] Rt .ret))⟩
attribute [simp] Rk Rl Rm Rn Ro Rp Rq Rr Rt
def Ru :=[qx 1 0,qi 2 0]
def Rx :=[qa 3 4 1,qc 4 eg [3],qu 5 4]
def Ry :=[qi 2 1]
def Rz :=[qi 2 0]
def iR:Abs.Fn:=⟨1,[.t 2],sR [1] Ru (sE [5] Rx 5 [2] Ry (sR [2] Rz .ret))⟩
attribute [simp] Ru Rx Ry Rz
def RA :=[qi 2 0]
def RB :=[qa 3 4 0,ql 4 1 1,qc 5 eZ [3,4],qm 2 5]
def gI:Abs.Fn:=⟨2,[.t 2],sR [0,1] RA (sR [2] RB .ret)⟩
attribute [simp] RA RB
def RC :=[qx 2 0,qi 4 0]
def RD :=[qm 5 1,qe 6 5,qo 7 (.call false (.c (.fn cC [] [])) [(.t 6),(.c (.int .i64 1)),(.c (.int .i64 40))]),qu 8 7]
def RE :=[qi 4 3]
def RF :=[qm 9 1,qo 10 (.wo cu [] [(.t 2)]),qc 11 du [9,10],qm 4 11]
def ic:Abs.Fn:=⟨2,[.t 4],sR [1,2] RC (sE [1,2,8] RD 8 [4] RE (sR [4] RF .ret))⟩
attribute [simp] RC RD RE RF
def Yi :=[qb 4 false]
def Yj :=[qm 5 0,qm 6 1,qc 7 di [5,6],qn 8 .geq 7 0,qm 4 8]
def gT:Abs.Fn:=⟨2,[.t 4],sR [0,1] Yi (sR [4] Yj .ret)⟩
def Yk :=[qx 2 0,qb 3 false]
def Yl :=[ql 4 1 1,qa 5 2 2,qo 6 (.call false (.t 4) [(.t 5)]),qu 7 6,qm 3 7]
def lJ:Abs.Fn:=⟨2,[.t 3],sR [1,2] Yk (sR [3] Yl .ret)⟩
def Ym :=[qx 3 1,qb 4 false]
def Yn :=[qm 5 0,qo 6 (.wo jr [] [(.t 3)]),qc 7 bU [5,6],qu 8 7,qm 4 8]
def sr:Abs.Fn:=⟨2,[.t 4],sR [0,3] Ym (sR [4] Yn .ret)⟩
def RG :=[qx 2 0,qo 4 (.mv (.c .bw))]
def RH :=[qF 5 9 2,qF 6 1 5,qL 7 1 6,qM 8 1,qF 9 0 2,qA 10 9 9,qC 11 cj [10],qK 12 .mul 8 11,qM 13 1,qN 14 .add 13 1,qF 15 0 2,qA 16 9 15,qC 17 cj [16],qK 18 .mul 14 17,qo 19 (.Lf 1 (.t 7) (some (.t 12)) (some (.t 18)) none),qm 4 19]
def jN:Abs.Fn:=⟨2,[.t 4],sR [1,2] RG (sR [4] RH .ret)⟩
attribute [simp] RG RH
def RI :=[qb 3 false]
def RJ :=[qm 4 0,qo 5 (.lH 2 1 (.t 1) (.c zI)),ql 6 1 5,qo 7 (.lH 2 1 (.t 1) (.c (.int .i64 1))),ql 8 1 7,qc 9 bN [4,6,8],qm 3 9]
def iw:Abs.Fn:=⟨2,[.t 3],sR [0,1] RI (sR [3] RJ .ret)⟩
attribute [simp] RI RJ
def RL :=[qx 2 0,qi 4 0]
def RM :=[qm 6 1,qe 7 6,qf 8 8 2,ql 9 1 8,qe 10 9,qk 11 .neq 7 10,qm 5 11]
def RN :=[qi 4 1]
def RO :=[qm 13 1,qo 14 (.call false (.c (.fn fa [] [])) [(.t 13),(.c (.fn eK [] []))]),qu 15 14,qm 12 15]
def RP :=[qi 4 2]
def RQ :=[qi 4 0]
def lk:Abs.Fn:=⟨2,[.t 4],sR [1,2] RL (.seq (.bu 0 (sR [1,5] RM (.ite (.t 5) (sR [4] RN .ret) (sR [12] RO (.ite (.t 12) (sR [4] RP .ret) .ei))))) (sR [4] RQ .ret))⟩
attribute [simp] RL RM RN RO RP RQ
def RR :=[qx 2 0,qo 4 (.fR [(0,1),(1,1)] [.bw,.bw])]
def RS :=[qa 10 11 2,qc 11 fL [10],qo 12 (.Fb 1 1 [.bw] [(0,1,(.t 11))]),qf 13 0 4,⟨none,none,false,.wM 4 [(0,1),(1,1)] 1 13 (.t 12)⟩]
def RT :=[qm 14 1,qe 15 14,qi 16 0]
def RU :=[qk 17 .lss 16 15]
def RV :=[qm 18 16,qj 19 1 14 16,ql 20 1 19,qm 5 18,qm 6 20]
def RW :=[qA 22 11 2,qF 23 0 4,qV 24 4 1 23,qM 25 5,qJ 26 1 24 25,qL 27 1 26,qM 28 6,qC 29 gD [22,27,28],qM 21 29,qZ 30 21 0,qZ 31 21 1,qZ 32 21 2,qM 7 30,qM 8 31,qm 9 32]
def RX :=[qm 33 9,qn 34 .neq 33 0]
def RY :=[qo 35 (.o7 [] []),qo 36 (.To 126 (.t 35))]
def RZ:List Abs.Op:=[]
def R0 :=[qF 37 0 4,qV 38 4 1 37,qM 39 7,qO 40 (.wH 1 1 [.bw] [(0,1,(.t 39))]),qO 41 (.app 1 24 (.t 38) (.t 40)),qF 42 1 4,qV 43 4 1 42,qM 44 8,qO 45 (.wH 1 1 [.bw] [(0,1,(.t 44))]),qO 46 (.app 1 24 (.t 43) (.t 45)),qF 47 0 4,⟨none,none,false,.wM 4 [(0,1),(1,1)] 1 47 (.t 41)⟩,qf 48 1 4,⟨none,none,false,.wM 4 [(0,1)] 1 48 (.t 46)⟩]
def Iw :=[qn 49 .add 16 1,qm 16 49]
def gN:Abs.bQ:=sR [2,4,14,15,16,17] RU (.seq (.ite (.t 17) .ei (.exit 0)) (.seq (.bu 1 (sR [2,4,5,6,14,15,16] RV (sR [2,4,7,8,9,14,15,16] RW (sI [2,4,7,8,14,15,16,34] RX 34 (.wN [2,4,7,8,14,15,16] RY ⟨none,none,false,.Fg (.t 36)⟩ RZ) .ei (.cL [2,4,14,15,16] R0))))) (.cL [2,4,14,15,16] Iw)))
def Ix :=[qw 50 4 2 4,⟨none,none,false,.wM 4 [(0,1),(1,1)] 2 4 (.t 50)⟩]
def ix:Abs.Fn:=⟨2,[.v 4 true 2],sR [1,2,4] RR (sR [1,2,4] RS (sL [2,4,14,15,16] RT 0 [2,4,14,15,16] false gN (sR [4] Ix .ret)))⟩
attribute [simp] RR RS RT RU RV RW RX RY RZ R0 Iw Ix
def R4 :=[qb 2 false]
def R5 :=[qi 3 0]
def R6 :=[qm 5 3,qm 6 0,qo 7 (.uA (.wL) [(.t 6)]),qk 8 .lss 5 7]
def R7 :=[qm 11 0,qm 12 3,qo 13 (.uA (.sO) [(.t 11),(.t 12)]),qo 14 (.bin .geq (.t 13) (.c (.int .u8 97))),qm 15 14,qg 15 true (qm 16 0),qg 15 true (qm 17 3),qg 15 true (qo 18 (.uA (.sO) [(.t 16),(.t 17)])),qg 15 true (qo 19 (.bin .leq (.t 18) (.c (.int .u8 122)))),qp 20 15 19,qm 4 20]
def R8 :=[qm 21 4,qu 22 21,qm 23 22,qg 23 true (qm 24 3),qg 23 true (qn 25 .eql 24 0),qg 23 true (qm 26 25),qg 26 false (qm 27 0),qg 26 false (qm 28 3),qg 26 false (qo 29 (.uA (.sO) [(.t 27),(.t 28)])),qg 26 false (qo 30 (.bin .lss (.t 29) (.c (.int .u8 48)))),qg 23 true (qP 31 26 30),qg 23 true (qm 32 31),qg 32 false (qm 33 0),qg 32 false (qm 34 3),qg 32 false (qo 35 (.uA (.sO) [(.t 33),(.t 34)])),qg 32 false (qo 36 (.bin .gtr (.t 35) (.c (.int .u8 57)))),qg 23 true (qP 37 32 36),qp 38 23 37]
def R9 :=[qb 2 false]
def Sa :=[qm 9 3,qn 10 .add 9 1,qm 3 10]
def lZ:Abs.bQ:=sI [0,3,8] R6 8 .ei (.exit 0) (.seq (.bu 1 (sR [0,3,4] R7 (sR [0,3,38] R8 (.ite (.t 38) (sR [2] R9 .ret) .ei)))) (.cL [0,3] Sa))
def Sb :=[qm 39 0,qo 40 (.uA (.wL) [(.t 39)]),qn 41 .geq 40 1,qm 42 41,qg 42 true (qm 43 0),qg 42 true (qo 44 (.uA (.wL) [(.t 43)])),qg 42 true (qn 45 .leq 44 16),qp 46 42 45,qm 2 46]
def ov:Abs.Fn:=⟨1,[.t 2],sR [0] R4 (sL [0,3] R5 0 [0,3] false lZ (sR [2] Sb .ret))⟩
attribute [simp] R4 R5 R6 R7 R8 R9 Sa Sb
def Sc :=[qx 2 0,qb 3 false]
def Sd :=[qF 4 2 2,qF 5 0 4,qL 6 1 5,qL 7 1 1,qF 8 0 2,qL 9 1 8,qF 10 1 2,qL 11 1 10,qO 12 (.uj (.t 7)),qF 13 2 12,qO 14 (.lH 12 12 (.t 13) (.t 9)),qO 15 (.lH 12 1 (.t 14) (.t 11)),qL 16 1 15,qk 17 .gtr 6 16,qm 3 17]
def fV:Abs.Fn:=⟨2,[.t 3],sR [1,2] Sc (sR [3] Sd .ret)⟩
attribute [simp] Sc Sd
def Se :=[qb 2 false]
def Sf :=[qm 6 0,qe 7 6,qo 8 (.call false (.c (.fn ed [] [])) [(.t 7),(.c (.int .i64 2)),(.c (.int .i64 20))]),qu 9 8,qm 10 9,qg 10 false (qm 11 0),qg 10 false (qo 12 (.call false (.c (.fn eF [] [])) [(.t 11),(.c (.fn fD [] []))])),qg 10 false (qu 13 12),qP 14 10 13]
def Sg :=[qb 2 false]
def Sh :=[qm 15 0,qo 16 (.Lf 5 (.t 15) (some (.c (.int .i64 1))) none none),qe 17 16,qi 18 0]
def Si :=[qk 19 .lss 18 17]
def Sj :=[qm 20 18,qj 21 5 16 18,qa 22 5 21,qo 4 (.fR [] [zI,zI,zI,zI,zI]),qm 3 20,qs 4 5 4 22]
def Sk :=[qm 23 0,qm 24 3,qj 25 5 23 24,qa 26 5 25,qo 5 (.fR [] [zI,zI,zI,zI,zI]),qs 5 5 5 26]
def Sl :=[qf 27 0 4,qv 28 4 1 27,qf 29 0 5,qv 30 5 1 29,qk 31 .leq 28 30,qm 32 31,qg 32 false (qf 33 1 4),qg 32 false (qv 34 4 1 33),qg 32 false (qf 35 1 5),qg 32 false (qv 36 5 1 35),qg 32 false (qk 37 .leq 34 36),qP 38 32 37,qm 39 38,qg 39 false (qf 40 2 4),qg 39 false (qv 41 4 1 40),qg 39 false (qf 42 2 5),qg 39 false (qv 43 5 1 42),qg 39 false (qk 44 .leq 41 43),qP 45 39 44,qm 46 45,qg 46 false (qf 47 4 4),qg 46 false (qv 48 4 1 47),qg 46 false (qf 49 4 5),qg 46 false (qv 50 5 1 49),qg 46 false (qk 51 .lss 48 50),qP 52 46 51]
def Sm :=[qb 2 false]
def Sn :=[qn 53 .add 18 1,qm 18 53]
def fy:Abs.bQ:=sR [0,16,17,18,19] Si (.seq (.ite (.t 19) .ei (.exit 0)) (.seq (.bu 1 (sR [0,3,4,16,17,18] Sj (sR [0,4,5,16,17,18] Sk (sR [0,16,17,18,52] Sl (.ite (.t 52) (sR [2] Sm .ret) .ei))))) (.cL [0,16,17,18] Sn)))
def Iy :=[qb 2 true]
def jb:Abs.Fn:=⟨1,[.t 2],sR [0] Se (sE [0,14] Sf 14 [2] Sg (sL [0,16,17,18] Sh 0 [0,16,17,18] false fy (sR [2] Iy .ret)))⟩
attribute [simp] Se Sf Sg Sh Si Sj Sk Sl Sm Sn Iy
def Yw :=[qb 4 false]
def Yx :=[qm 5 0,qm 6 1,qc 7 dC [5,6],qn 8 .geq 7 0,qm 4 8]
def iL:Abs.Fn:=⟨2,[.t 4],sR [0,1] Yw (sR [4] Yx .ret)⟩
def Yy :=[qx 2 0,qb 3 false]
def Yz :=[ql 4 1 1,qa 5 3 2,qo 6 (.call false (.t 4) [(.t 5)]),qu 7 6,qm 3 7]
def mI:Abs.Fn:=⟨2,[.t 3],sR [1,2] Yy (sR [3] Yz .ret)⟩
def Sp :=[qi 4 0]
def Sq :=[qo 10 (.mp (.make) []),qm 5 10]
def Sr :=[qm 11 0,qe 12 11,qi 13 0]
def Ss :=[qk 14 .lss 13 12]
def Su :=[qj 15 2 11 13,qa 16 2 15,qo 7 (.fR [] [(.str []),.bw]),qs 7 2 7 16]
def Sw :=[qm 18 1,qw 19 7 2 7,qo 20 (.call false (.t 18) [(.t 19)]),qm 17 20,qz 21 17 0,qz 22 17 1,qm 8 21,qm 9 22]
def Sx :=[qm 23 9,qn 24 .neq 23 0]
def Sy :=[qm 25 9,qm 4 25]
def Sz :=[qm 26 5,qm 27 8,qo 28 (.mp (.get none (.bool false) false) [(.t 26),(.t 27)])]
def SA :=[qi 4 6]
def Iz :=[qm 29 5,qm 30 8,⟨none,none,false,.mp (.put none) [(.t 29),(.t 30),(.c (.bool true))]⟩]
def IA :=[qn 31 .add 13 1,qm 13 31]
def dB:Abs.bQ:=sR [1,5,11,12,13,14] Ss (.seq (.ite (.t 14) .ei (.exit 0)) (.seq (.bu 1 (sR [1,5,7,11,12,13] Su (sR [1,5,8,9,11,12,13] Sw (sE [1,5,8,9,11,12,13,24] Sx 24 [4] Sy (sE [1,5,8,11,12,13,28] Sz 28 [4] SA (.cL [1,5,11,12,13] Iz)))))) (.cL [1,5,11,12,13] IA)))
def IB :=[qi 4 0]
def eT:Abs.Fn:=⟨2,[.t 4],sR [0,1] Sp (sR [0,1,5] Sq (sL [1,5,11,12,13] Sr 0 [1,5,11,12,13] false dB (sR [4] IB .ret)))⟩
attribute [simp] Sp Sq Sr Ss Su Sw Sx Sy Sz SA Iz IA IB
def SB :=[qx 2 0,qo 3 (.mv (.c (.str []))),qi 4 0]
def SC :=[qF 5 0 2,qL 6 1 5,qA 7 4 1,qA 8 2 2,qC 9 fI [7,8],qm 3 6,qm 4 9]
def fS:Abs.Fn:=⟨2,[.t 3,.t 4],sR [1,2] SB (sR [3,4] SC .ret)⟩
attribute [simp] SB SC
def SD :=[qx 2 0,qx 3 1,qi 4 0]
def SE :=[qf 6 0 3,ql 7 1 6,qc 8 lM [7],qu 9 8,qm 5 9]
def SF :=[qi 4 5]
def SG :=[qF 11 1 3,qL 12 1 11,qE 13 12,qF 14 3 2,qL 15 1 14,qA 16 4 2,qC 17 cY [16],qK 18 .mul 15 17,qk 19 .neq 13 18,qm 20 19,qg 20 false (qf 21 1 3),qg 20 false (ql 22 1 21),qg 20 false (qo 23 (.call false (.c (.fn j2 [] [])) [(.t 22),(.c (.fn dt [] []))])),qg 20 false (qu 24 23),qP 25 20 24,qm 10 25]
def SH :=[qi 4 1]
def SI :=[qi 4 0]
def iQ:Abs.Fn:=⟨2,[.t 4],sR [2,3] SD (.seq (.bu 0 (sR [2,3,5] SE (.ite (.t 5) (sR [4] SF .ret) (sR [10] SG (.ite (.t 10) (sR [4] SH .ret) .ei))))) (sR [4] SI .ret))⟩
attribute [simp] SD SE SF SG SH SI
def YA :=[qi 4 0]
def YB :=[qm 6 0,qe 7 6,qi 8 0]
def YC :=[qk 9 .lss 8 7]
def YD :=[qm 10 8,qm 5 10]
def YE :=[qm 11 1,qm 12 0,qm 13 5,qj 14 2 12 13,qa 15 2 14,qo 16 (.call false (.t 11) [(.t 15)])]
def YF :=[qm 17 5,qm 4 17]
def YG :=[qn 18 .add 8 1,qm 8 18]
def my:Abs.bQ:=sR [0,1,7,8,9] YC (.seq (.ite (.t 9) .ei (.exit 0)) (.seq (.bu 1 (sR [0,1,5,7,8] YD (sR [0,1,5,7,8,16] YE (.ite (.t 16) (sR [4] YF .ret) .ei)))) (.cL [0,1,7,8] YG)))
def YH :=[qi 4 (-1)]
def ji:Abs.Fn:=⟨2,[.t 4],sR [0,1] YA (sL [0,1,7,8] YB 0 [0,1,7,8] false my (sR [4] YH .ret))⟩
def YI :=[qb 4 false]
def YJ :=[qm 5 0,qm 6 1,qc 7 dj [5,6],qn 8 .geq 7 0,qm 4 8]
def lA:Abs.Fn:=⟨2,[.t 4],sR [0,1] YI (sR [4] YJ .ret)⟩
def YK :=[qb 3 false]
def YL :=[ql 4 1 1,qm 5 0,qo 6 (.call false (.t 4) [(.t 5)]),qu 7 6,qm 3 7]
def pW:Abs.Fn:=⟨2,[.t 3],sR [0,1] YK (sR [3] YL .ret)⟩
def SJ :=[qb 2 false]
def acO :=[qm 3 0,qo 4 (.call false (.c (.fn bN [] [])) [(.t 3),(.c (.int .i64 (-100000))),(.c (.int .i64 100000))]),qm 2 4]
def jH:Abs.Fn:=⟨1,[.t 2],sR [0] SJ (sR [2] acO .ret)⟩
attribute [simp] SJ acO
def SL :=[qx 1 0,qo 2 (.rC 3)]
def SM :=[qf 4 0 1,qa 5 9 4,qc 6 cj [5],qi 7 0]
def SN :=[qk 8 .lss 7 6]
def SO :=[qm 9 7,qm 3 9]
def SP :=[qM 10 2,qA 11 11 1,qM 12 3,qC 13 c8 [11,12],qA 14 11 1,qM 15 3,qC 16 c8 [14,15],qA 17 11 1,qM 18 3,qC 19 gF [17,18],qK 20 .mul 16 19,qO 21 (.o7 [zI,zI,zI] [(0,1,(.t 13)),(1,1,(.t 20))]),qO 22 (.wH 1 3 [zI,zI,zI] [(0,3,(.t 21))]),qy 23 3 24 10 22,qm 2 23]
def SQ :=[qn 24 .add 7 1,qm 7 24]
def fX:Abs.bQ:=sR [1,2,6,7,8] SN (.seq (.ite (.t 8) .ei (.exit 0)) (.seq (.bu 1 (sR [1,2,3,6,7] SO (.cL [1,2,6,7] SP))) (.cL [1,2,6,7] SQ)))
def SR :=[qm 25 2,qm 2 25]
def iY:Abs.Fn:=⟨1,[.t 2],sR [1,2] SL (sL [1,2,6,7] SM 0 [1,2,6,7] false fX (sR [2] SR .ret))⟩
attribute [simp] SL SM SN SO SP SQ SR
def SS :=[qx 3 0,qo 6 (.mv (.c .bw)),qo 7 (.mv (.c .bw)),qi 8 0]
def SU :=[qm 18 1,qo 19 (.call true (.c (.fn bJ [] [])) [(.t 18)]),qm 9 19]
def SV :=[qa 20 11 3,qm 21 1,qo 22 (.call true (.c (.fn fM [] [])) [(.t 20),(.t 21)]),qo 23 (.mp (.ZP) [(.t 22)])]
def SW :=[qo 26 (.mp (.Wq) [(.t 23)]),qz 27 26 0,qz 28 26 1,qo 10 (.fR [] [zI,zI]),qo 11 (.fR [] [zI,zI,zI]),qs 10 2 10 27,qs 11 3 11 28]
def SX :=[qM 29 9,qF 30 0 10,qV 31 10 1 30,qJ 32 3 29 31,qW 33 11 3 11,qo 34 (.call false (.c (.fn bB [] [])) [(.t 32),(.t 33),(.c (.int .i64 (-1)))])]
def SY :=[qM 35 9,qF 36 1 10,qV 37 10 1 36,qJ 38 3 35 37,qW 39 11 3 11,qo 40 (.call false (.c (.fn bB [] [])) [(.t 38),(.t 39),(.c (.int .i64 1))])]
def gO:Abs.bQ:=.seq (.ite (.t 25) .ei (.exit 0)) (.bu 1 (sR [1,2,3,9,10,11,23] SW (sR [1,2,3,9,10,11,23] SX (.cL [1,2,3,9,23] SY))))
def SZ :=[qo 12 (.rC 3)]
def S0 :=[qm 41 2,qe 42 41,qi 43 0]
def S1 :=[qk 44 .lss 43 42]
def IC :=[qm 45 43,qj 46 1 41 43,ql 47 1 46,qm 13 45,qm 14 47]
def ID :=[qf 48 0 3,qf 49 8 48,ql 50 1 49,qm 51 13,qj 52 3 50 51,qf 53 0 52,ql 54 1 53,qm 15 54]
def IE :=[qo 16 (.fR [] [zI,zI,zI])]
def IF :=[qm 55 14,qn 56 .lss 55 0]
def IG :=[qM 57 9,qM 58 15,qJ 59 3 57 58,qF 60 0 3,qF 61 8 60,qL 62 1 61,qM 63 13,qJ 64 3 62 63,qA 65 3 64,qM 66 14,qC 67 iF [65,66],qo 68 (.call false (.c (.fn bB [] [])) [(.t 59),(.t 67),(.c (.int .i64 1))])]
def IH :=[qM 69 1,qM 70 15,qJ 71 3 69 70,qA 72 3 71,qM 73 14,qM 74 1,qM 75 15,qJ 76 3 74 75,qF 77 0 76,qL 78 1 77,qN 79 .quo 78 8,qO 80 (.mn (.t 73) (.t 79)),qc 81 gr [72,80],qs 16 3 16 81]
def II :=[qM 82 9,qM 83 15,qJ 84 3 82 83,qW 85 16 3 16,qo 86 (.call false (.c (.fn bB [] [])) [(.t 84),(.t 85),(.c (.int .i64 (-1)))])]
def IJ :=[qm 87 12,qw 88 16 3 16,qo 89 (.wH 1 3 [zI,zI,zI] [(0,3,(.t 88))]),qy 90 3 24 87 89,qm 12 90]
def IK :=[qn 91 .add 43 1,qm 43 91]
def fZ:Abs.bQ:=sR [1,3,9,12,41,42,43,44] S1 (.seq (.ite (.t 44) .ei (.exit 2)) (.seq (.bu 3 (sR [1,3,9,12,13,14,41,42,43] IC (sR [1,3,9,12,13,14,15,41,42,43] ID (sR [1,3,9,12,13,14,15,16,41,42,43] IE (sI [1,3,9,12,13,14,15,16,41,42,43,56] IF 56 (.cL [1,3,9,12,16,41,42,43] IG) (sR [1,3,9,12,15,16,41,42,43] IH (.cL [1,3,9,12,16,41,42,43] II)) (.cL [1,3,9,12,41,42,43] IJ)))))) (.cL [1,3,9,12,41,42,43] IK)))
def IL :=[qm 92 9,qe 93 92,qi 94 0]
def IM :=[qk 95 .lss 94 93]
def IN :=[qm 96 94,qm 17 96]
def IP :=[qM 97 9,qM 98 17,qJ 99 3 97 98,qA 100 11 3,qM 101 17,qC 102 iG [100,101],qo 103 (.call false (.c (.fn bB [] [])) [(.t 99),(.t 102),(.c (.int .i64 1))])]
def IQ :=[qn 104 .add 94 1,qm 94 104]
def ga:Abs.bQ:=sR [3,9,12,93,94,95] IM (.seq (.ite (.t 95) .ei (.exit 4)) (.seq (.bu 5 (sR [3,9,12,17,93,94] IN (.cL [3,9,12,93,94] IP))) (.cL [3,9,12,93,94] IQ)))
def IS :=[qa 105 11 3,qm 106 9,qc 107 fN [105,106],qu 108 107]
def IT :=[qo 6 (.mv (.c .bw)),qo 7 (.mv (.c .bw)),qi 8 9]
def IU :=[qm 109 9,qm 110 12,qm 6 109,qm 7 110,qi 8 0]
def dX:Abs.bQ:=sR [1,2,3,9,12] SZ (sL [1,3,9,12,41,42,43] S0 2 [1,3,9,12,41,42,43] false fZ (sL [3,9,12,93,94] IL 4 [3,9,12,93,94] false ga (sE [9,12,108] IS 108 [6,7,8] IT (sR [6,7,8] IU .ret))))
def ud:nv:=an7 [(26,[6,7,8]),(25,[6,7,8]),(24,[9,12,108]),(23,[3,9,12,93,94]),(22,[3,9,12,93,94]),(21,[3,9,12,17,93,94]),(20,[3,9,12,93,94,95]),(19,[3,9,12,93,94]),(18,[1,3,9,12,41,42,43]),(17,[1,3,9,12,41,42,43]),(14,[1,3,9,12,16,41,42,43]),(16,[1,3,9,12,16,41,42,43]),(15,[1,3,9,12,15,16,41,42,43]),(13,[1,3,9,12,13,14,15,16,41,42,43,56]),(12,[1,3,9,12,13,14,15,16,41,42,43]),(11,[1,3,9,12,13,14,15,41,42,43]),(10,[1,3,9,12,13,14,41,42,43]),(9,[1,3,9,12,41,42,43,44]),(8,[1,3,9,12,41,42,43]),(7,[1,2,3,9,12]),(6,[1,2,3,9,23]),(5,[1,2,3,9,10,11,23]),(4,[1,2,3,9,10,11,23]),(3,[1,2,3,9,23,25]),(2,[1,2,3,9,23]),(1,[1,2,3,9]),(0,[1,2,3])] [(4,[3,9,12,93,94]),(2,[1,3,9,12,41,42,43]),(0,[1,2,3,9,23])] [] [10,11,12,16] [10,11,16] [] [2002,1001]
def jP:Abs.Fn:=⟨3,[.t 6,.t 7,.t 8],sR [1,2,3] SS (sR [1,2,3,9] SU (sR [1,2,3,9,23] SV (.ew [1,2,3,9,23] (.t 23) 24 25 0 gO dX)))⟩
attribute [simp] SS SU SV SW SX SY SZ S0 S1 IC ID IE IF IG IH II IJ IK IL IM IN IP IQ IS IT IU
def S2 :=[qb 6 false]
def S3 :=[qm 7 1,qm 8 0,qk 9 .leq 7 8,qm 10 9,qg 10 true (qm 11 0),qg 10 true (qm 12 2),qg 10 true (qk 13 .leq 11 12),qp 14 10 13,qm 6 14]
def mN:Abs.Fn:=⟨3,[.t 6],sR [0,1,2] S2 (sR [6] S3 .ret)⟩
attribute [simp] S2 S3
def YO :=[qx 3 1,qb 4 false]
def YP :=[qm 5 0,qo 6 (.wo fE [] [(.t 3)]),qc 7 cU [5,6],qu 8 7,qm 4 8]
def nk:Abs.Fn:=⟨2,[.t 4],sR [0,3] YO (sR [4] YP .ret)⟩
def S4 :=[qx 1 0,qb 2 false]
def S5 :=[qf 3 0 1,ql 4 1 3,qo 5 (.call false (.c (.fn ed [] [])) [(.t 4),(.c zI),(.c (.int .i64 400))]),qm 6 5,qg 6 true (qf 7 1 1),qg 6 true (ql 8 1 7),qg 6 true (qo 9 (.call false (.c (.fn ed [] [])) [(.t 8),(.c (.int .i64 1)),(.c (.int .i64 10000))])),qp 10 6 9,qm 11 10,qg 11 true (qf 12 2 1),qg 11 true (ql 13 1 12),qg 11 true (qo 14 (.call false (.c (.fn ed [] [])) [(.t 13),(.c zI),(.c (.int .i64 4000))])),qp 15 11 14,qm 16 15,qg 16 true (qf 17 4 1),qg 16 true (ql 18 1 17),qg 16 true (qo 19 (.call false (.c (.fn ed [] [])) [(.t 18),(.c zI),(.c (.int .i64 2000))])),qp 20 16 19,qm 21 20,qg 21 true (qf 22 2 1),qg 21 true (ql 23 1 22),qg 21 true (qf 24 3 1),qg 21 true (ql 25 1 24),qg 21 true (qk 26 .lss 23 25),qp 27 21 26,qm 28 27,qg 28 true (qf 29 3 1),qg 28 true (ql 30 1 29),qg 28 true (qn 31 .leq 30 4000),qp 32 28 31,qm 2 32]
def kH:Abs.Fn:=⟨1,[.t 2],sR [1] S4 (sR [2] S5 .ret)⟩
attribute [simp] S4 S5
def YQ :=[qi 4 0]
def YR :=[qm 6 0,qe 7 6,qi 8 0]
def YS :=[qk 9 .lss 8 7]
def YT :=[qm 10 8,qm 5 10]
def YU :=[qm 11 1,qm 12 0,qm 13 5,qj 14 3 12 13,qa 15 3 14,qo 16 (.call false (.t 11) [(.t 15)])]
def YV :=[qm 17 5,qm 4 17]
def YW :=[qn 18 .add 8 1,qm 8 18]
def na:Abs.bQ:=sR [0,1,7,8,9] YS (.seq (.ite (.t 9) .ei (.exit 0)) (.seq (.bu 1 (sR [0,1,5,7,8] YT (sR [0,1,5,7,8,16] YU (.ite (.t 16) (sR [4] YV .ret) .ei)))) (.cL [0,1,7,8] YW)))
def YX :=[qi 4 (-1)]
def jY:Abs.Fn:=⟨2,[.t 4],sR [0,1] YQ (sL [0,1,7,8] YR 0 [0,1,7,8] false na (sR [4] YX .ret))⟩
def S6 :=[qb 2 false]
def S7 :=[qm 5 0,qo 6 (.uA (.wL) [(.t 5)]),qi 7 0]
def S8 :=[qk 8 .lss 7 6]
def S9 :=[qm 9 7,qm 3 9]
def Ta :=[qm 10 0,qm 11 3,qo 12 (.uA (.sO) [(.t 10),(.t 11)]),qo 13 (.bin .geq (.t 12) (.c (.int .u8 97))),qm 14 13,qg 14 true (qm 15 0),qg 14 true (qm 16 3),qg 14 true (qo 17 (.uA (.sO) [(.t 15),(.t 16)])),qg 14 true (qo 18 (.bin .leq (.t 17) (.c (.int .u8 122)))),qp 19 14 18,qm 4 19]
def Tc :=[qm 20 4,qu 21 20,qm 22 21,qg 22 true (qm 23 3),qg 22 true (qn 24 .eql 23 0),qg 22 true (qm 25 24),qg 25 false (qm 26 0),qg 25 false (qm 27 3),qg 25 false (qo 28 (.uA (.sO) [(.t 26),(.t 27)])),qg 25 false (qo 29 (.bin .lss (.t 28) (.c (.int .u8 48)))),qg 22 true (qP 30 25 29),qg 22 true (qm 31 30),qg 31 false (qm 32 0),qg 31 false (qm 33 3),qg 31 false (qo 34 (.uA (.sO) [(.t 32),(.t 33)])),qg 31 false (qo 35 (.bin .gtr (.t 34) (.c (.int .u8 57)))),qg 22 true (qP 36 31 35),qp 37 22 36]
def Td :=[qb 2 false]
def Te :=[qn 38 .add 7 1,qm 7 38]
def kZ:Abs.bQ:=sR [0,6,7,8] S8 (.seq (.ite (.t 8) .ei (.exit 0)) (.seq (.bu 1 (sR [0,3,6,7] S9 (sR [0,3,4,6,7] Ta (sR [0,6,7,37] Tc (.ite (.t 37) (sR [2] Td .ret) .ei))))) (.cL [0,6,7] Te)))
def Tf :=[qm 39 0,qo 40 (.uA (.wL) [(.t 39)]),qo 41 (.call false (.c (.fn cC [] [])) [(.t 40),(.c (.int .i64 1)),(.c (.int .i64 16))]),qm 2 41]
def nH:Abs.Fn:=⟨1,[.t 2],sR [0] S6 (sL [0,6,7] S7 0 [0,6,7] false kZ (sR [2] Tf .ret))⟩
attribute [simp] S6 S7 S8 S9 Ta Tc Td Te Tf
def YY :=[qx 3 1,qb 4 false]
def YZ :=[qm 5 0,qo 6 (.wo kI [] [(.t 3)]),qc 7 bU [5,6],qu 8 7,qm 4 8]
def rS:Abs.Fn:=⟨2,[.t 4],sR [0,3] YY (sR [4] YZ .ret)⟩
def Tg :=[qb 2 false]
def Th :=[qm 3 0,qo 4 (.call false (.c (.fn cC [] [])) [(.t 3),(.c (.int .i64 (-100000))),(.c (.int .i64 100000))]),qm 2 4]
def gJ:Abs.Fn:=⟨1,[.t 2],sR [0] Tg (sR [2] Th .ret)⟩
attribute [simp] Tg Th
def Y0 :=[qi 4 0]
def Y2 :=[qm 6 0,qe 7 6,qi 8 0]
def Y3 :=[qk 9 .lss 8 7]
def Y4 :=[qm 10 8,qm 5 10]
def Y5 :=[qm 11 1,qm 12 0,qm 13 5,qj 14 1 12 13,ql 15 1 14,qo 16 (.call false (.t 11) [(.t 15)])]
def Y6 :=[qm 17 5,qm 4 17]
def Y7 :=[qn 18 .add 8 1,qm 8 18]
def pb:Abs.bQ:=sR [0,1,7,8,9] Y3 (.seq (.ite (.t 9) .ei (.exit 0)) (.seq (.bu 1 (sR [0,1,5,7,8] Y4 (sR [0,1,5,7,8,16] Y5 (.ite (.t 16) (sR [4] Y6 .ret) .ei)))) (.cL [0,1,7,8] Y7)))
def Y8 :=[qi 4 (-1)]
def mL:Abs.Fn:=⟨2,[.t 4],sR [0,1] Y0 (sL [0,1,7,8] Y2 0 [0,1,7,8] false pb (sR [4] Y8 .ret))⟩
def Gk :=[qx 2 0,qi 4 0]
def Gl :=[qa 5 11 2,qo 6 (.call false (.c (.fn cA [] [])) [(.t 5),(.c zI)]),qm 7 1,qj 8 1 6 7,ql 9 1 8,qm 4 9]
def jM:Abs.Fn:=⟨2,[.t 4],sR [1,2] Gk (sR [4] Gl .ret)⟩
attribute [simp] Gk Gl
def Gm :=[qx 2 0,qi 4 0]
def Gn :=[qa 5 11 2,qo 6 (.call false (.c (.fn cA [] [])) [(.t 5),(.c (.int .i64 2))]),qm 7 1,qj 8 1 6 7,ql 9 1 8,qm 4 9]
def jQ:Abs.Fn:=⟨2,[.t 4],sR [1,2] Gm (sR [4] Gn .ret)⟩
attribute [simp] Gm Gn
def Gp :=[qo 2 (.rC 3)]
def Gq :=[qm 3 0,qo 4 (.KT false false (.t 3))]
def Gr :=[qo 2 (.rC 3)]
def Gs :=[qo 5 (.Fb 0 3 [] []),qm 6 0,qy 7 3 24 5 6,qm 2 7]
def cg:Abs.Fn:=⟨1,[.t 2],sR [0] Gp (sE [0,4] Gq 4 [2] Gr (sR [2] Gs .ret))⟩
attribute [simp] Gp Gq Gr Gs
def Gt :=[qx 2 0,qx 3 1,qo 4 (.mv (.c .undef))]
def Gu :=[qo 11 (.mp (.make) []),qo 5 (.Ch [] [.undef]),qt 1 5 11]
def Gv :=[qa 12 11 2,ql 13 1 3,qc 14 dN [12,13],qo 6 (.Ch [] [.bw]),qt 1 6 14]
def Gw :=[qf 15 0 2,qa 16 9 15,qc 17 jm [16]]
def Gx :=[qo 7 (.fR [] [zI,zI]),qs 7 2 7 18]
def Gy :=[qL 19 1 6,qF 20 0 7,qV 21 7 1 20,qJ 22 1 19 21,qL 23 1 22,qA 24 11 2,qF 25 0 7,qV 26 7 1 25,qC 27 da [24,26],qK 28 .sub 23 27,qL 29 1 6,qF 30 1 7,qV 31 7 1 30,qJ 32 1 29 31,qL 33 1 32,qK 34 .sub 28 33,qA 35 11 2,qF 36 1 7,qV 37 7 1 36,qC 38 da [35,37],qk 39 .add 34 38,qm 8 39]
def Gz :=[qm 40 8,qn 41 .lss 40 0]
def GA :=[qf 42 1 7,qv 43 7 1 42,qf 44 0 7,qv 45 7 1 44,qo 46 (.o7 [zI,zI] [(0,1,(.t 43)),(1,1,(.t 45))]),qm 47 8,qo 48 (.un .neg (.t 47)),qs 7 2 7 46,qm 8 48]
def GB :=[qA 49 11 2,qF 50 0 7,qV 51 7 1 50,qC 52 eN [49,51],qA 53 11 2,qF 54 1 7,qV 55 7 1 54,qc 56 eN [53,55],qo 57 (.mn (.t 52) (.t 56)),qm 9 57]
def GC :=[qm 58 9,qm 59 8,qk 60 .mul 58 59,qn 61 .quo 60 1000,ql 62 1 3,qf 63 0 7,qv 64 7 1 63,qj 65 3 62 64,qf 66 0 65,ql 67 1 66,qn 68 .quo 67 8,qo 69 (.mn (.t 61) (.t 68)),qm 10 69]
def DE :=[qm 70 10,qn 71 .gtr 70 0]
def DF :=[qL 72 1 5,qW 73 7 2 7,qL 74 1 3,qF 75 0 7,qV 76 7 1 75,qJ 77 3 74 76,qA 78 3 77,qM 79 10,qC 80 gr [78,79],⟨none,none,false,.mp (.put (some (true,[some .i64,some .i64]))) [(.t 72),(.t 73),(.t 80)]⟩]
def fw:Abs.bQ:=.cL [2,3,5,6,7] Gx
def ck:Abs.bQ:=.bu 1 (sR [2,3,5,7,8] Gy (sI [2,3,5,7,8,41] Gz 41 (.cL [2,3,5,7,8] GA) .ei (sR [3,5,7,8,9] GB (sR [3,5,7,10] GC (sR [3,5,7,10,71] DE (.ite (.t 71) (.cL [] DF) .ei))))))
def DG :=[ql 81 1 5,qm 4 81]
def tD:nv:=an7 [(12,[4]),(11,[]),(10,[3,5,7,10,71]),(9,[3,5,7,10]),(8,[3,5,7,8,9]),(7,[2,3,5,7,8]),(6,[2,3,5,7,8,41]),(5,[2,3,5,7,8]),(4,[2,3,5,6,7]),(3,[2,3,4,5,6,17]),(2,[2,3,4,5,6]),(1,[2,3,4,5]),(0,[2,3,4])] [(0,[2,3,4,5,6])] [] [5,6,7] [7] [] []
def iZ:Abs.Fn:=⟨2,[.t 4],sR [2,3,4] Gt (sR [2,3,4,5] Gu (sR [2,3,4,5,6] Gv (.seq (sR [2,3,4,5,6,17] Gw (.bu 0 (.Al [2,3,4,5,6] (.t 17) [18] fw ck))) (sR [4] DG .ret))))⟩
attribute [simp] Gt Gu Gv Gw Gx Gy Gz GA GB GC DE DF DG
def GD :=[qx 4 1]
def GF :=[qM 6 0,qO 7 (.uj (.t 6)),qF 8 0 7,qL 9 1 8,qM 10 2,qF 11 0 4,qL 12 1 11,qK 13 .mul 10 12,qk 14 .add 9 13,qo 15 (.uj (.t 6)),qf 16 0 15,qt 1 16 14]
def GG :=[qM 17 0,qO 18 (.uj (.t 17)),qF 19 1 18,qL 20 1 19,qM 21 2,qF 22 1 4,qL 23 1 22,qK 24 .mul 21 23,qk 25 .add 20 24,qo 26 (.uj (.t 17)),qf 27 1 26,qt 1 27 25]
def GH :=[qM 28 0,qO 29 (.uj (.t 28)),qF 30 2 29,qL 31 1 30,qM 32 2,qF 33 2 4,qL 34 1 33,qK 35 .mul 32 34,qk 36 .add 31 35,qo 37 (.uj (.t 28)),qf 38 2 37,qt 1 38 36]
def kD:Abs.Fn:=⟨3,[],sR [0,2,4] GD (sR [0,2,4] GF (sR [0,2,4] GG (.cL [] GH)))⟩
attribute [simp] GD GF GG GH
def GI :=[qx 2 0,qo 4 (.fR [] [zI,zI,zI])]
def GJ :=[qm 5 1,qo 6 (.un .neg (.t 5)),qm 7 1,qo 8 (.un .neg (.t 7)),qf 9 1 2,ql 10 1 9,qk 11 .mul 8 10,qm 12 1,qo 13 (.un .neg (.t 12)),qf 14 2 2,ql 15 1 14,qk 16 .mul 13 15,qo 17 (.o7 [zI,zI,zI] [(0,1,(.t 6)),(1,1,(.t 11)),(2,1,(.t 16))]),qs 4 3 4 17]
def kF:Abs.Fn:=⟨2,[.v 4 true 3],sR [1,2,4] GI (sR [4] GJ .ret)⟩
attribute [simp] GI GJ
def GK :=[qx 2 0,qo 4 (.fR [] [zI,zI,zI])]
def GL :=[qM 5 1,qF 6 1 2,qL 7 1 6,qM 8 1,qK 9 .mul 7 8,qF 10 0 2,qL 11 1 10,qK 12 .quo 9 11,qF 13 2 2,qL 14 1 13,qM 15 1,qK 16 .mul 14 15,qF 17 0 2,qL 18 1 17,qK 19 .quo 16 18,qo 20 (.o7 [zI,zI,zI] [(0,1,(.t 5)),(1,1,(.t 12)),(2,1,(.t 19))]),qs 4 3 4 20]
def ln:Abs.Fn:=⟨2,[.v 4 true 3],sR [1,2,4] GK (sR [4] GL .ret)⟩
attribute [simp] GK GL
def GM :=[qx 2 0,qo 4 (.fR [] [zI,zI,zI])]
def GN :=[qA 5 11 2,qM 6 1,qC 7 eM [5,6],qA 8 11 2,qM 9 1,qC 10 eM [8,9],qF 11 0 2,qF 12 7 11,qL 13 1 12,qk 14 .mul 10 13,qo 15 (.o7 [zI,zI,zI] [(0,1,(.t 7)),(1,1,(.t 14))]),qs 4 3 4 15]
def kG:Abs.Fn:=⟨2,[.v 4 true 3],sR [1,2,4] GM (sR [4] GN .ret)⟩
attribute [simp] GM GN
def GO :=[qx 2 0,qb 4 false]
def GP :=[qm 5 1,qe 6 5,qf 7 0 2,qa 8 9 7,qc 9 cj [8],qk 10 .eql 6 9,qm 11 10,qg 11 true (qm 12 1),qg 11 true (qo 13 (.call false (.c (.fn gP [] [])) [(.t 12),(.c (.fn eL [] []))])),qp 14 11 13,qm 4 14]
def ja:Abs.Fn:=⟨2,[.t 4],sR [1,2] GO (sR [4] GP .ret)⟩
attribute [simp] GO GP
def Ux :=[qb 4 false]
def Uy :=[qm 5 0,qm 6 1,qc 7 dD [5,6],qn 8 .geq 7 0,qm 4 8]
def iM:Abs.Fn:=⟨2,[.t 4],sR [0,1] Ux (sR [4] Uy .ret)⟩
def Uz :=[qx 2 0,qb 3 false]
def UA :=[ql 4 1 1,qa 5 5 2,qo 6 (.call false (.t 4) [(.t 5)]),qu 7 6,qm 3 7]
def mi:Abs.Fn:=⟨2,[.t 3],sR [1,2] Uz (sR [3] UA .ret)⟩
def UB :=[qb 3 false]
def UC :=[ql 4 1 1,qm 5 0,qo 6 (.call false (.t 4) [(.t 5)]),qu 7 6,qm 3 7]
def pk:Abs.Fn:=⟨2,[.t 3],sR [0,1] UB (sR [3] UC .ret)⟩
def Hc :=[qx 2 0,qo 4 (.rC 1)]
def Hd :=[qm 6 1,qe 7 6,qi 8 0]
def He :=[qk 9 .lss 8 7]
def Hf :=[qm 10 8,qm 5 10]
def Hg :=[qm 11 4,qa 12 11 2,qm 13 1,qm 14 5,qc 15 dZ [12,13,14],qo 16 (.wH 1 1 [zI] [(0,1,(.t 15))]),qy 17 1 8 11 16,qm 4 17]
def Hh :=[qn 18 .add 8 1,qm 8 18]
def dW:Abs.bQ:=sR [1,2,4,7,8,9] He (.seq (.ite (.t 9) .ei (.exit 0)) (.seq (.bu 1 (sR [1,2,4,5,7,8] Hf (.cL [1,2,4,7,8] Hg))) (.cL [1,2,4,7,8] Hh)))
def Hj :=[qm 19 4,qm 4 19]
def fx:Abs.Fn:=⟨2,[.t 4],sR [1,2,4] Hc (sL [1,2,4,7,8] Hd 0 [1,2,4,7,8] false dW (sR [4] Hj .ret))⟩
attribute [simp] Hc Hd He Hf Hg Hh Hj
def Hk :=[qx 1 0,qo 2 (.mv (.c .pO))]
def Hl :=[qo 3 (.wo eJ [] [(.t 1)]),qm 2 3]
def lj:Abs.Fn:=⟨1,[.t 2],sR [1] Hk (sR [2] Hl .ret)⟩
attribute [simp] Hk Hl
def Hm :=[qx 2 0,qi 4 0]
def Hn :=[qM 5 1,qF 6 0 2,qF 7 0 6,qF 8 0 7,qL 9 1 8,qF 10 0 2,qF 11 0 10,qF 12 1 11,qL 13 1 12,qK 14 .mul 9 13,qK 15 .quo 5 14,qF 16 0 2,qF 17 6 16,qL 18 1 17,qk 19 .mul 15 18,qm 4 19]
def iy:Abs.Fn:=⟨2,[.t 4],sR [1,2] Hm (sR [4] Hn .ret)⟩
attribute [simp] Hm Hn
def Ho :=[qx 2 0,qi 4 0]
def Hp :=[qa 5 11 2,qo 6 (.call false (.c (.fn cA [] [])) [(.t 5),(.c (.int .i64 1))]),qm 7 1,qj 8 1 6 7,ql 9 1 8,qm 4 9]
def jO:Abs.Fn:=⟨2,[.t 4],sR [1,2] Ho (sR [4] Hp .ret)⟩
attribute [simp] Ho Hp
def Hq :=[qx 2 0,qi 4 0]
def Hr :=[qa 5 11 2,qo 6 (.call false (.c (.fn cA [] [])) [(.t 5),(.c (.int .i64 3))]),qm 7 1,qj 8 1 6 7,ql 9 1 8,qm 4 9]
def jK:Abs.Fn:=⟨2,[.t 4],sR [1,2] Hq (sR [4] Hr .ret)⟩
attribute [simp] Hq Hr
def UD :=[qx 3 1,qb 4 false]
def UE :=[qm 5 0,qo 6 (.wo fB [] [(.t 3)]),qc 7 cQ [5,6],qu 8 7,qm 4 8]
def nj:Abs.Fn:=⟨2,[.t 4],sR [0,3] UD (sR [4] UE .ret)⟩
def tF1:List (Nat×nv×Abs.Fn):=[A0 j3 l6,A3 [] ff iA [] [4,5,7] [4,5,7] [] [],A4 [] ml nX [] [6,8] [8] [] [] [] [] [] [(4,some 5)],A0 j8 nQ,A0 jS rj,A1 [0,1,2,3,4,5,6,8,9,7,10] eI jE ,A0 gj nP,A4 [] dc fT [] [6,8,13] [6,8] [] [] [(26,[1000003])] [] [] [],A0 e6 ij,A0 gA jD,A0 gG jR,A0 cj l7,A0 fe nW,A0 cZ jI,A0 lL nG,A0 dp iR,A0 dr gI,A0 eZ ic,A0 cF gT,A0 eV lJ,A0 fa sr,A0 cA jN,A0 cr iw,A0 jn lk,A4 [] fC ix [] [4,12] [4] [(1,[(0,1),(1,1)]),(1004,[(0,1),(1,1)]),(8011,[(0,1),(1,1)]),(8013,[(0,1)]),(10001,[(0,1),(1,1)])] [] [] [] [] [(7,some 2)],A1 [0,1,2,4,5,6,3,7] mO ov ,A0 de fV,A3 [] fO jb [] [4,5] [4,5] [] [],A0 cT iL,A0 gh mI,A3 [] du eT [] [7] [7] [] [],A0 cu fS,A0 fI iQ,A0 di ji,A0 bU lA,A0 jr pW,A0 eK jH,A2 [] fL iY [] [2],(gD,ud,jP),A0 ed mN,A0 eF nk,A0 fD kH,A0 dC jY,A0 lM nH,A0 j2 rS,A0 dt gJ,A0 dj mL,A0 c8 jM,A0 gF jQ,A2 [] bJ cg [] [2,5],(fM,tD,iZ),A2 [] bB kD [] [0],A3 [] iF kF [] [4] [4] [] [],A3 [] gr ln [] [4] [4] [] [],A3 [] iG kG [] [4] [4] [] [],A0 fN ja,A0 cU iM,A0 fE mi,A0 kI pk,A2 [] dN fx [] [4],A0 jm lj,A0 da iy,A0 eN jO,A0 eM jK,A0 gP nj]
theorem kF1:(tF1.map fun p=>XF p)=tF1.map fun p=>some p.2.2:=by kernel_rfl
end Go.Proofs.YtcgippbplkagkaaGreat
