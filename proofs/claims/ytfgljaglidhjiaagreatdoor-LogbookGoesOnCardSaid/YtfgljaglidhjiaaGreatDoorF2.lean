import Derived.Test.YtfgljaglidhjiaaGreatDoorIds
set_option linter.all false
set_option maxRecDepth 100000
namespace Go.Proofs.YtfgljaglidhjiaaGreatDoor
open Go Go.Abs
def XP :=[qi 2 0]
def XQ :=[qa 3 4 0,ql 4 1 1,qc 5 kf [3,4],qm 2 5]
def mB:Abs.Fn:=⟨2,[.t 2],sR [0,1] XP (sR [2] XQ .ret)⟩
attribute [simp] XP XQ
def XR :=[qx 2 0,qi 4 0]
def XS :=[qm 5 1,qe 6 5,qo 7 (.call false (.c (.fn dS [] [])) [(.t 6),(.c (.int .i64 1)),(.c (.int .i64 40))]),qu 8 7]
def XT :=[qi 4 3]
def XU :=[qm 9 1,qo 10 (.xW ew [] [(.t 2)]),qc 11 gK [9,10],qm 4 11]
def nq:Abs.Fn:=⟨2,[.t 4],sR [1,2] XR (sE [1,2,8] XS 8 [4] XT (sR [4] XU .ret))⟩
attribute [simp] XR XS XT XU
def aoT :=[qb 4 false]
def aoU :=[qm 5 0,qm 6 1,qc 7 fX [5,6],qn 8 .geq 7 0,qm 4 8]
def mV:Abs.Fn:=⟨2,[.t 4],sR [0,1] aoT (sR [4] aoU .ret)⟩
def aoV :=[qx 2 0,qb 3 false]
def aoW :=[ql 4 1 1,qa 5 2 2,qo 6 (.call false (.t 4) [(.t 5)]),qu 7 6,qm 3 7]
def sQ:Abs.Fn:=⟨2,[.t 3],sR [1,2] aoV (sR [3] aoW .ret)⟩
def aoX :=[qx 3 1,qb 4 false]
def aoY :=[qm 5 0,qo 6 (.xW oO [] [(.t 3)]),qc 7 bZ [5,6],qu 8 7,qm 4 8]
def Bq:Abs.Fn:=⟨2,[.t 4],sR [0,3] aoX (sR [4] aoY .ret)⟩
def XV :=[qx 2 0,qo 4 (.mv (.c .aK))]
def XW :=[qF 5 9 2,qF 6 1 5,qL 7 1 6,qM 8 1,qF 9 0 2,qA 10 9 9,qC 11 dn [10],qK 12 .mul 8 11,qM 13 1,qN 14 .add 13 1,qF 15 0 2,qA 16 9 15,qC 17 dn [16],qK 18 .mul 14 17,qo 19 (.IF 1 (.t 7) (some (.t 12)) (some (.t 18)) none),qm 4 19]
def pF:Abs.Fn:=⟨2,[.t 4],sR [1,2] XV (sR [4] XW .ret)⟩
attribute [simp] XV XW
def XX :=[qb 3 false]
def XY :=[qm 4 0,qo 5 (.Bw 2 1 (.t 1) (.c zI)),ql 6 1 5,qo 7 (.Bw 2 1 (.t 1) (.c (.int .i64 1))),ql 8 1 7,qc 9 cn [4,6,8],qm 3 9]
def nC:Abs.Fn:=⟨2,[.t 3],sR [0,1] XX (sR [3] XY .ret)⟩
attribute [simp] XX XY
def XZ :=[qx 2 0,qi 4 0]
def X0 :=[qM 5 1,qF 6 0 2,qF 7 0 6,qF 8 0 7,qL 9 1 8,qF 10 0 2,qF 11 0 10,qF 12 1 11,qL 13 1 12,qK 14 .mul 9 13,qK 15 .quo 5 14,qF 16 0 2,qF 17 6 16,qL 18 1 17,qk 19 .mul 15 18,qm 4 19]
def nE:Abs.Fn:=⟨2,[.t 4],sR [1,2] XZ (sR [4] X0 .ret)⟩
attribute [simp] XZ X0
def X2 :=[qi 4 0]
def X3 :=[qm 6 0,qm 7 1,qk 8 .quo 6 7,qm 5 8]
def X4 :=[qm 9 5,qm 10 1,qk 11 .mul 9 10,qm 12 0,qk 13 .gtr 11 12]
def X5 :=[qm 14 5,qn 15 .sub 14 1,qm 5 15]
def X6 :=[qm 16 5,qm 4 16]
def yj:Abs.Fn:=⟨2,[.t 4],sR [0,1] X2 (sR [0,1,5] X3 (sI [5,13] X4 13 (.cr [5] X5) .eo (sR [4] X6 .ret)))⟩
attribute [simp] X2 X3 X4 X5 X6
def X7 :=[qx 2 0,qi 4 0]
def X8 :=[qa 5 11 2,qo 6 (.call false (.c (.fn eA [] [])) [(.t 5),(.c zI)]),qm 7 1,qj 8 1 6 7,ql 9 1 8,qm 4 9]
def pD:Abs.Fn:=⟨2,[.t 4],sR [1,2] X7 (sR [4] X8 .ret)⟩
attribute [simp] X7 X8
def X9 :=[qx 1 0,qi 2 0]
def Ya :=[qf 3 0 1,ql 4 1 3,qm 2 4]
def rz:Abs.Fn:=⟨1,[.t 2],sR [1] X9 (sR [2] Ya .ret)⟩
attribute [simp] X9 Ya
def Yb :=[qx 1 0,qi 2 0]
def Yc :=[qf 3 0 1,ql 4 1 3,qn 5 .eql 4 0]
def Yd :=[qi 2 0]
def Ye :=[qf 6 1 1,ql 7 1 6,qf 8 0 1,ql 9 1 8,qk 10 .quo 7 9,qm 2 10]
def ot:Abs.Fn:=⟨1,[.t 2],sR [1] Yb (sE [1,5] Yc 5 [2] Yd (sR [2] Ye .ret))⟩
attribute [simp] Yb Yc Yd Ye
def Yf :=[qx 1 0,qi 2 0]
def Yg :=[qf 3 2 1,ql 4 1 3,qm 2 4]
def pA:Abs.Fn:=⟨1,[.t 2],sR [1] Yf (sR [2] Yg .ret)⟩
attribute [simp] Yf Yg
def aoZ :=[qi 4 0]
def ao0 :=[qm 6 0,qe 7 6,qi 8 0]
def ao1 :=[qk 9 .lss 8 7]
def ao2 :=[qm 10 8,qm 5 10]
def ao3 :=[qm 11 1,qm 12 0,qm 13 5,qj 14 10 12 13,qa 15 10 14,qo 16 (.call false (.t 11) [(.t 15)])]
def ao4 :=[qm 17 5,qm 4 17]
def ao5 :=[qn 18 .add 8 1,qm 8 18]
def tZ:Abs.cF:=sR [0,1,7,8,9] ao1 (.seq (.ite (.t 9) .eo (.exit 0)) (.seq (.bO 1 (sR [0,1,5,7,8] ao2 (sR [0,1,5,7,8,16] ao3 (.ite (.t 16) (sR [4] ao4 .ret) .eo)))) (.cr [0,1,7,8] ao5)))
def ao6 :=[qi 4 (-1)]
def jF:Abs.Fn:=⟨2,[.t 4],sR [0,1] aoZ (sL [0,1,7,8] ao0 0 [0,1,7,8] false tZ (sR [4] ao6 .ret))⟩
def ao7 :=[qi 4 0]
def ao8 :=[qm 6 0,qe 7 6,qi 8 0]
def ao9 :=[qk 9 .lss 8 7]
def apa :=[qm 10 8,qm 5 10]
def apb :=[qm 11 1,qm 12 0,qm 13 5,qj 14 2 12 13,qa 15 2 14,qo 16 (.call false (.t 11) [(.t 15)])]
def apd :=[qm 17 5,qm 4 17]
def apf :=[qn 18 .add 8 1,qm 8 18]
def tC:Abs.cF:=sR [0,1,7,8,9] ao9 (.seq (.ite (.t 9) .eo (.exit 0)) (.seq (.bO 1 (sR [0,1,5,7,8] apa (sR [0,1,5,7,8,16] apb (.ite (.t 16) (sR [4] apd .ret) .eo)))) (.cr [0,1,7,8] apf)))
def apg :=[qi 4 (-1)]
def jj:Abs.Fn:=⟨2,[.t 4],sR [0,1] ao7 (sL [0,1,7,8] ao8 0 [0,1,7,8] false tC (sR [4] apg .ret))⟩
def aph :=[qx 3 1,qb 4 false]
def api :=[qm 5 0,qo 6 (.xW pL [] [(.t 3)]),qc 7 bZ [5,6],qu 8 7,qm 4 8]
def vi:Abs.Fn:=⟨2,[.t 4],sR [0,3] aph (sR [4] api .ret)⟩
def Yh :=[qb 2 false]
def Yi :=[qm 3 0,qo 4 (.call false (.c (.fn cm [] [])) [(.t 3),(.c (.int .i64 (-20000))),(.c (.int .i64 20000))]),qm 2 4]
def lN:Abs.Fn:=⟨1,[.t 2],sR [0] Yh (sR [2] Yi .ret)⟩
attribute [simp] Yh Yi
def Yj :=[qb 2 false]
def Yk :=[qm 3 0,qo 4 (.call false (.c (.fn cn [] [])) [(.t 3),(.c (.int .i64 (-100000))),(.c (.int .i64 100000))]),qm 2 4]
def pn:Abs.Fn:=⟨1,[.t 2],sR [0] Yj (sR [2] Yk .ret)⟩
attribute [simp] Yj Yk
def Yl :=[qx 2 0,qi 4 0]
def Ym :=[qa 5 11 2,qo 6 (.call false (.c (.fn eA [] [])) [(.t 5),(.c (.int .i64 2))]),qm 7 1,qj 8 1 6 7,ql 9 1 8,qm 4 9]
def pI:Abs.Fn:=⟨2,[.t 4],sR [1,2] Yl (sR [4] Ym .ret)⟩
attribute [simp] Yl Ym
def Yn :=[qo 2 (.qh 3)]
def Yo :=[qm 3 0,qo 4 (.SX false false (.t 3))]
def Yp :=[qo 2 (.qh 3)]
def Yq :=[qo 5 (.MX 0 3 [] []),qm 6 0,qy 7 3 24 5 6,qm 2 7]
def dN:Abs.Fn:=⟨1,[.t 2],sR [0] Yn (sE [0,4] Yo 4 [2] Yp (sR [2] Yq .ret))⟩
attribute [simp] Yn Yo Yp Yq
def Yr :=[qx 2 0,qx 3 1,qo 4 (.mv (.c .undef))]
def Yt :=[qo 11 (.mp (.make) []),qo 5 (.Hg [] [.undef]),qt 1 5 11]
def Yu :=[qa 12 11 2,ql 13 1 3,qc 14 ir [12,13],qo 6 (.Hg [] [.aK]),qt 1 6 14]
def Yw :=[qf 15 0 2,qa 16 9 15,qc 17 oM [16]]
def Yx :=[qo 7 (.fm [] [zI,zI]),qs 7 2 7 18]
def Yy :=[qL 19 1 6,qF 20 0 7,qV 21 7 1 20,qJ 22 1 19 21,qL 23 1 22,qA 24 11 2,qF 25 0 7,qV 26 7 1 25,qC 27 fH [24,26],qK 28 .sub 23 27,qL 29 1 6,qF 30 1 7,qV 31 7 1 30,qJ 32 1 29 31,qL 33 1 32,qK 34 .sub 28 33,qA 35 11 2,qF 36 1 7,qV 37 7 1 36,qC 38 fH [35,37],qk 39 .add 34 38,qm 8 39]
def Yz :=[qm 40 8,qn 41 .lss 40 0]
def YA :=[qf 42 1 7,qv 43 7 1 42,qf 44 0 7,qv 45 7 1 44,qo 46 (.l9 [zI,zI] [(0,1,(.t 43)),(1,1,(.t 45))]),qm 47 8,qo 48 (.un .neg (.t 47)),qs 7 2 7 46,qm 8 48]
def YB :=[qA 49 11 2,qF 50 0 7,qV 51 7 1 50,qC 52 jQ [49,51],qA 53 11 2,qF 54 1 7,qV 55 7 1 54,qc 56 jQ [53,55],qo 57 (.mn (.t 52) (.t 56)),qm 9 57]
def YC :=[qm 58 9,qm 59 8,qk 60 .mul 58 59,qn 61 .quo 60 1000,ql 62 1 3,qf 63 0 7,qv 64 7 1 63,qj 65 3 62 64,qf 66 0 65,ql 67 1 66,qn 68 .quo 67 8,qo 69 (.mn (.t 61) (.t 68)),qm 10 69]
def Px :=[qm 70 10,qn 71 .gtr 70 0]
def Py :=[qL 72 1 5,qW 73 7 2 7,qL 74 1 3,qF 75 0 7,qV 76 7 1 75,qJ 77 3 74 76,qA 78 3 77,qM 79 10,qC 80 l4 [78,79],⟨none,none,false,.mp (.put (some (true,[some .i64,some .i64]))) [(.t 72),(.t 73),(.t 80)]⟩]
def kF:Abs.cF:=.cr [2,3,5,6,7] Yx
def dQ:Abs.cF:=.bO 1 (sR [2,3,5,7,8] Yy (sI [2,3,5,7,8,41] Yz 41 (.cr [2,3,5,7,8] YA) .eo (sR [3,5,7,8,9] YB (sR [3,5,7,10] YC (sR [3,5,7,10,71] Px (.ite (.t 71) (.cr [] Py) .eo))))))
def Pz :=[ql 81 1 5,qm 4 81]
def Cz:ub:=an7 [(12,[4]),(11,[]),(10,[3,5,7,10,71]),(9,[3,5,7,10]),(8,[3,5,7,8,9]),(7,[2,3,5,7,8]),(6,[2,3,5,7,8,41]),(5,[2,3,5,7,8]),(4,[2,3,5,6,7]),(3,[2,3,4,5,6,17]),(2,[2,3,4,5,6]),(1,[2,3,4,5]),(0,[2,3,4])] [(0,[2,3,4,5,6])] [] [5,6,7] [7] [] []
def ov:Abs.Fn:=⟨2,[.t 4],sR [2,3,4] Yr (sR [2,3,4,5] Yt (sR [2,3,4,5,6] Yu (.seq (sR [2,3,4,5,6,17] Yw (.bO 0 (.IC [2,3,4,5,6] (.t 17) [18] kF dQ))) (sR [4] Pz .ret))))⟩
attribute [simp] Yr Yt Yu Yw Yx Yy Yz YA YB YC Px Py Pz
def YD :=[qx 4 1]
def YE :=[qM 6 0,qO 7 (.mW (.t 6)),qF 8 0 7,qL 9 1 8,qM 10 2,qF 11 0 4,qL 12 1 11,qK 13 .mul 10 12,qk 14 .add 9 13,qo 15 (.mW (.t 6)),qf 16 0 15,qt 1 16 14]
def YF :=[qM 17 0,qO 18 (.mW (.t 17)),qF 19 1 18,qL 20 1 19,qM 21 2,qF 22 1 4,qL 23 1 22,qK 24 .mul 21 23,qk 25 .add 20 24,qo 26 (.mW (.t 17)),qf 27 1 26,qt 1 27 25]
def YG :=[qM 28 0,qO 29 (.mW (.t 28)),qF 30 2 29,qL 31 1 30,qM 32 2,qF 33 2 4,qL 34 1 33,qK 35 .mul 32 34,qk 36 .add 31 35,qo 37 (.mW (.t 28)),qf 38 2 37,qt 1 38 36]
def rp:Abs.Fn:=⟨3,[],sR [0,2,4] YD (sR [0,2,4] YE (sR [0,2,4] YF (.cr [] YG)))⟩
attribute [simp] YD YE YF YG
def YH :=[qx 2 0,qo 4 (.fm [] [zI,zI,zI])]
def YI :=[qm 5 1,qo 6 (.un .neg (.t 5)),qm 7 1,qo 8 (.un .neg (.t 7)),qf 9 1 2,ql 10 1 9,qk 11 .mul 8 10,qm 12 1,qo 13 (.un .neg (.t 12)),qf 14 2 2,ql 15 1 14,qk 16 .mul 13 15,qo 17 (.l9 [zI,zI,zI] [(0,1,(.t 6)),(1,1,(.t 11)),(2,1,(.t 16))]),qs 4 3 4 17]
def rq:Abs.Fn:=⟨2,[.v 4 true 3],sR [1,2,4] YH (sR [4] YI .ret)⟩
attribute [simp] YH YI
def YJ :=[qx 2 0,qo 4 (.fm [] [zI,zI,zI])]
def YK :=[qM 5 1,qF 6 1 2,qL 7 1 6,qM 8 1,qK 9 .mul 7 8,qF 10 0 2,qL 11 1 10,qK 12 .quo 9 11,qF 13 2 2,qL 14 1 13,qM 15 1,qK 16 .mul 14 15,qF 17 0 2,qL 18 1 17,qK 19 .quo 16 18,qo 20 (.l9 [zI,zI,zI] [(0,1,(.t 5)),(1,1,(.t 12)),(2,1,(.t 19))]),qs 4 3 4 20]
def si:Abs.Fn:=⟨2,[.v 4 true 3],sR [1,2,4] YJ (sR [4] YK .ret)⟩
attribute [simp] YJ YK
def YL :=[qx 2 0,qo 4 (.fm [] [zI,zI,zI])]
def YM :=[qA 5 11 2,qM 6 1,qC 7 jO [5,6],qA 8 11 2,qM 9 1,qC 10 jO [8,9],qF 11 0 2,qF 12 7 11,qL 13 1 12,qk 14 .mul 10 13,qo 15 (.l9 [zI,zI,zI] [(0,1,(.t 7)),(1,1,(.t 14))]),qs 4 3 4 15]
def rA:Abs.Fn:=⟨2,[.v 4 true 3],sR [1,2,4] YL (sR [4] YM .ret)⟩
attribute [simp] YL YM
def YN :=[qx 2 0,qb 4 false]
def YO :=[qm 5 1,qe 6 5,qf 7 0 2,qa 8 9 7,qc 9 dn [8],qk 10 .eql 6 9,qm 11 10,qg 11 true (qm 12 1),qg 11 true (qo 13 (.call false (.c (.fn mQ [] [])) [(.t 12),(.c (.fn jM [] []))])),qp 14 11 13,qm 4 14]
def ow:Abs.Fn:=⟨2,[.t 4],sR [1,2] YN (sR [4] YO .ret)⟩
attribute [simp] YN YO
def apo :=[qb 4 false]
def apq :=[qm 5 0,qm 6 1,qc 7 gR [5,6],qn 8 .geq 7 0,qm 4 8]
def n8:Abs.Fn:=⟨2,[.t 4],sR [0,1] apo (sR [4] apq .ret)⟩
def apr :=[qx 2 0,qb 3 false]
def aps :=[ql 4 1 1,qa 5 5 2,qo 6 (.call false (.t 4) [(.t 5)]),qu 7 6,qm 3 7]
def tP:Abs.Fn:=⟨2,[.t 3],sR [1,2] apr (sR [3] aps .ret)⟩
def apt :=[qb 4 false]
def apu :=[qm 5 0,qm 6 1,qc 7 gw [5,6],qn 8 .geq 7 0,qm 4 8]
def nF:Abs.Fn:=⟨2,[.t 4],sR [0,1] apt (sR [4] apu .ret)⟩
def apv :=[qx 2 0,qb 3 false]
def apw :=[ql 4 1 1,qa 5 2 2,qo 6 (.call false (.t 4) [(.t 5)]),qu 7 6,qm 3 7]
def sO:Abs.Fn:=⟨2,[.t 3],sR [1,2] apv (sR [3] apw .ret)⟩
def apx :=[qb 4 false]
def apy :=[qm 5 0,qm 6 1,qc 7 ft [5,6],qn 8 .geq 7 0,qm 4 8]
def mf:Abs.Fn:=⟨2,[.t 4],sR [0,1] apx (sR [4] apy .ret)⟩
def apA :=[qx 2 0,qb 3 false]
def apB :=[ql 4 1 1,qa 5 4 2,qo 6 (.call false (.t 4) [(.t 5)]),qu 7 6,qm 3 7]
def rL:Abs.Fn:=⟨2,[.t 3],sR [1,2] apA (sR [3] apB .ret)⟩
def YP :=[qf 7 1 1,ql 8 1 7,qe 9 8,qi 10 0]
def YQ :=[qk 11 .lss 10 9]
def YR :=[qj 12 2 8 10,qa 13 2 12,qo 5 (.fm [] [zI,zI]),qs 5 2 5 13]
def YS :=[ql 14 1 2,qf 15 0 5,qv 16 5 1 15,qo 17 (.mn (.t 14) (.t 16)),qm 6 17]
def YT :=[qm 18 0,qw 19 5 2 5,qm 20 6,qo 21 (.call false (.t 18) [(.t 19),(.t 20)]),qu 22 21]
def YU :=[ql 23 1 2,qm 24 6,qk 25 .sub 23 24,qt 1 2 25]
def YV :=[qn 26 .add 10 1,qm 10 26]
def lG:Abs.cF:=sR [0,2,8,9,10,11] YQ (.seq (.ite (.t 11) .eo (.exit 0)) (.seq (.bO 1 (sR [0,2,5,8,9,10] YR (sR [0,2,5,6,8,9,10] YS (sI [0,2,6,8,9,10,22] YT 22 .ret .eo (.cr [0,2,8,9,10] YU))))) (.cr [0,2,8,9,10] YV)))
def oo:Abs.Fn:=⟨3,[],sR [0,2,8,9,10] YP (.bO 0 (.loop [0,2,8,9,10] false lG))⟩
attribute [simp] YP YQ YR YS YT YU YV
def YW :=[qi 2 0]
def YX :=[qi 3 1]
def YY :=[qm 6 0,qo 7 (.me (.s2b) [(.t 6)]),qe 8 7,qi 9 0]
def YZ :=[qk 10 .lss 9 8]
def Y0 :=[qj 11 1 7 9,ql 12 1 11,qm 5 12]
def Y2 :=[qm 13 3,qo 14 (.bin .mul (.c (.int .i64 31)) (.t 13)),qm 15 5,qo 16 (.J6 .i64 (.t 15)),qk 17 .add 14 16,qn 18 .rem 17 65521,qm 3 18]
def Y3 :=[qn 19 .add 9 1,qm 9 19]
def sb:Abs.cF:=sR [3,7,8,9,10] YZ (.seq (.ite (.t 10) .eo (.exit 0)) (.seq (.bO 1 (sR [3,5,7,8,9] Y0 (.cr [3,7,8,9] Y2))) (.cr [3,7,8,9] Y3)))
def Y4 :=[qm 20 3,qm 2 20]
def vy:Abs.Fn:=⟨1,[.t 2],sR [0] YW (sR [0,3] YX (sL [3,7,8,9] YY 0 [3,7,8,9] false sb (sR [2] Y4 .ret)))⟩
attribute [simp] YW YX YY YZ Y0 Y2 Y3 Y4
def Y5 :=[qo 0 (.mv (.c .undef))]
def Y6 :=[qo 1 (.mp (.make) []),qo 2 (.l9 [(.bool false),zI,zI,.iW] [(0,1,(.c (.bool false))),(1,1,(.c (.int .i64 4))),(2,1,(.c zI)),(3,1,(.c (.fn fA [] [])))]),⟨none,none,false,.mp (.put none) [(.t 1),(.c (.str [102,105,101,108,100])),(.t 2)]⟩,qo 3 (.l9 [(.bool false),zI,zI,.iW] [(0,1,(.c (.bool false))),(1,1,(.c zI)),(2,1,(.c (.int .i64 5))),(3,1,(.c (.fn fE [] [])))]),⟨none,none,false,.mp (.put none) [(.t 1),(.c (.str [116,97,98,108,101])),(.t 3)]⟩,qo 4 (.l9 [(.bool false),zI,zI,.iW] [(0,1,(.c (.bool false))),(1,1,(.c (.int .i64 3))),(2,1,(.c zI)),(3,1,(.c (.fn gW [] [])))]),⟨none,none,false,.mp (.put none) [(.t 1),(.c (.str [98,101,100])),(.t 4)]⟩,qo 5 (.l9 [(.bool false),zI,zI,.iW] [(0,1,(.c (.bool false))),(1,1,(.c (.int .i64 3))),(2,1,(.c zI)),(3,1,(.c (.fn gv [] [])))]),⟨none,none,false,.mp (.put none) [(.t 1),(.c (.str [119,101,108,108])),(.t 5)]⟩,qo 6 (.l9 [(.bool false),zI,zI,.iW] [(0,1,(.c (.bool true))),(1,1,(.c zI)),(2,1,(.c (.int .i64 1))),(3,1,(.c (.fn fC [] [])))]),⟨none,none,false,.mp (.put none) [(.t 1),(.c (.str [109,111,100,101,108])),(.t 6)]⟩,qo 7 (.l9 [(.bool false),zI,zI,.iW] [(0,1,(.c (.bool true))),(1,1,(.c (.int .i64 3))),(2,1,(.c (.int .i64 2))),(3,1,(.c (.fn gX [] [])))]),⟨none,none,false,.mp (.put none) [(.t 1),(.c (.str [108,111,103])),(.t 7)]⟩,qo 8 (.l9 [(.bool false),zI,zI,.iW] [(0,1,(.c (.bool false))),(1,1,(.c (.int .i64 10))),(2,1,(.c zI)),(3,1,(.c (.fn gn [] [])))]),⟨none,none,false,.mp (.put none) [(.t 1),(.c (.str [114,117,108,101])),(.t 8)]⟩,qo 9 (.l9 [(.bool false),zI,zI,.iW] [(0,1,(.c (.bool false))),(1,1,(.c (.int .i64 3))),(2,1,(.c zI)),(3,1,(.c (.fn gi [] [])))]),⟨none,none,false,.mp (.put none) [(.t 1),(.c (.str [107,101,101,112])),(.t 9)]⟩,qo 10 (.l9 [(.bool false),zI,zI,.iW] [(0,1,(.c (.bool false))),(1,1,(.c zI)),(2,1,(.c (.int .i64 4))),(3,1,(.c (.fn fD [] [])))]),⟨none,none,false,.mp (.put none) [(.t 1),(.c (.str [113,117,97,107,101])),(.t 10)]⟩,qo 11 (.l9 [(.bool false),zI,zI,.iW] [(0,1,(.c (.bool false))),(1,1,(.c zI)),(2,1,(.c (.int .i64 1))),(3,1,(.c (.fn gq [] [])))]),⟨none,none,false,.mp (.put none) [(.t 1),(.c (.str [116,105,99,107])),(.t 11)]⟩,qo 12 (.l9 [(.bool false),zI,zI,.iW] [(0,1,(.c (.bool false))),(1,1,(.c (.int .i64 4))),(2,1,(.c zI)),(3,1,(.c (.fn gk [] [])))]),⟨none,none,false,.mp (.put none) [(.t 1),(.c (.str [114,101,97,100])),(.t 12)]⟩,qo 13 (.l9 [(.bool false),zI,zI,.iW] [(0,1,(.c (.bool false))),(1,1,(.c (.int .i64 1))),(2,1,(.c (.int .i64 2))),(3,1,(.c (.fn gr [] [])))]),⟨none,none,false,.mp (.put none) [(.t 1),(.c (.str [117,110,105,116])),(.t 13)]⟩,qo 14 (.l9 [(.bool false),zI,zI,.iW] [(0,1,(.c (.bool false))),(1,1,(.c (.int .i64 4))),(2,1,(.c zI)),(3,1,(.c (.fn gp [] [])))]),⟨none,none,false,.mp (.put none) [(.t 1),(.c (.str [115,101,108,108])),(.t 14)]⟩,qm 15 1,qm 0 15]
def tj:Abs.Fn:=⟨0,[.t 0],sR [] Y5 (sR [0] Y6 .ret)⟩
attribute [simp] Y5 Y6
def Y7 :=[qm 4 0,qu 5 4]
def Y8 :=[qm 6 1,qo 7 (.l9 [zI] [(0,1,(.t 6))]),qo 8 (.mki 311 (.t 7))]
def Y9:List Abs.Op:=[]
def sM:Abs.Fn:=⟨2,[],sR [1,5] Y7 (.ite (.t 5) (.iY [] Y8 ⟨none,none,false,.MZ (.t 8)⟩ Y9) .eo)⟩
attribute [simp] Y7 Y8 Y9
def Za :=[qi 2 0]
def Zb :=[qm 6 0,qc 7 iR [6],qm 5 7,qz 8 5 0,qz 9 5 1,qm 3 8,qm 4 9]
def Zc :=[qm 10 4,qo 11 (.isi false (.t 10)),qm 12 11,qg 12 true (qm 13 3),qg 12 true (qc 14 eG [13]),qg 12 true (qm 15 0),qg 12 true (qo 16 (.zf (.seq false) [(.t 14),(.t 15)])),qp 17 12 16,qm 18 17,qg 18 true (qm 19 3),qg 18 true (qo 20 (.call false (.c (.fn cC [] [])) [(.t 19),(.c (.int .i64 (-999999999))),(.c (.int .i64 999999999))])),qp 21 18 20]
def Zd:List Abs.Op:=[]
def Ze :=[qm 23 3,qm 2 23]
def oI:Abs.Fn:=⟨1,[.t 2],sR [0] Za (sR [0,3,4] Zb (.seq (.iY [3] Zc ⟨some 22,none,false,.call false (.c (.fn aZ [] [])) [(.t 21),(.c (.int .i64 4))]⟩ Zd) (sR [2] Ze .ret)))⟩
attribute [simp] Za Zb Zc Zd Ze
def apO :=[qi 4 0]
def apP :=[qm 6 0,qe 7 6,qi 8 0]
def apQ :=[qk 9 .lss 8 7]
def apR :=[qm 10 8,qm 5 10]
def apS :=[qm 11 1,qm 12 0,qm 13 5,qj 14 1 12 13,ql 15 1 14,qo 16 (.call false (.t 11) [(.t 15)])]
def apT :=[qm 17 5,qm 4 17]
def apU :=[qn 18 .add 8 1,qm 8 18]
def xV:Abs.cF:=sR [0,1,7,8,9] apQ (.seq (.ite (.t 9) .eo (.exit 0)) (.seq (.bO 1 (sR [0,1,5,7,8] apR (sR [0,1,5,7,8,16] apS (.ite (.t 16) (sR [4] apT .ret) .eo)))) (.cr [0,1,7,8] apU)))
def apV :=[qi 4 (-1)]
def pJ:Abs.Fn:=⟨2,[.t 4],sR [0,1] apO (sL [0,1,7,8] apP 0 [0,1,7,8] false xV (sR [4] apV .ret))⟩
def apW :=[qb 4 false]
def apX :=[qm 5 0,qm 6 1,qc 7 gQ [5,6],qn 8 .geq 7 0,qm 4 8]
def n0:Abs.Fn:=⟨2,[.t 4],sR [0,1] apW (sR [4] apX .ret)⟩
def apY :=[qx 2 0,qb 3 false]
def apZ :=[ql 4 1 1,qa 5 3 2,qo 6 (.call false (.t 4) [(.t 5)]),qu 7 6,qm 3 7]
def uw:Abs.Fn:=⟨2,[.t 3],sR [1,2] apY (sR [3] apZ .ret)⟩
def Zf :=[qi 4 0]
def Zg :=[qo 10 (.mp (.make) []),qm 5 10]
def Zh :=[qm 11 0,qe 12 11,qi 13 0]
def Zi :=[qk 14 .lss 13 12]
def Zj :=[qj 15 2 11 13,qa 16 2 15,qo 7 (.fm [] [(.str []),.aK]),qs 7 2 7 16]
def Zk :=[qm 18 1,qw 19 7 2 7,qo 20 (.call false (.t 18) [(.t 19)]),qm 17 20,qz 21 17 0,qz 22 17 1,qm 8 21,qm 9 22]
def Zl :=[qm 23 9,qn 24 .neq 23 0]
def Zm :=[qm 25 9,qm 4 25]
def Zn :=[qm 26 5,qm 27 8,qo 28 (.mp (.get none (.bool false) false) [(.t 26),(.t 27)])]
def Zo :=[qi 4 6]
def PA :=[qm 29 5,qm 30 8,⟨none,none,false,.mp (.put none) [(.t 29),(.t 30),(.c (.bool true))]⟩]
def PB :=[qn 31 .add 13 1,qm 13 31]
def gP:Abs.cF:=sR [1,5,11,12,13,14] Zi (.seq (.ite (.t 14) .eo (.exit 0)) (.seq (.bO 1 (sR [1,5,7,11,12,13] Zj (sR [1,5,8,9,11,12,13] Zk (sE [1,5,8,9,11,12,13,24] Zl 24 [4] Zm (sE [1,5,8,11,12,13,28] Zn 28 [4] Zo (.cr [1,5,11,12,13] PA)))))) (.cr [1,5,11,12,13] PB)))
def PC :=[qi 4 0]
def jX:Abs.Fn:=⟨2,[.t 4],sR [0,1] Zf (sR [0,1,5] Zg (sL [1,5,11,12,13] Zh 0 [1,5,11,12,13] false gP (sR [4] PC .ret)))⟩
attribute [simp] Zf Zg Zh Zi Zj Zk Zl Zm Zn Zo PA PB PC
def Zp :=[qx 2 0,qo 3 (.mv (.c (.str []))),qi 4 0]
def Zq :=[qF 5 0 2,qL 6 1 5,qA 7 4 1,qA 8 2 2,qC 9 jb [7,8],qm 3 6,qm 4 9]
def lA:Abs.Fn:=⟨2,[.t 3,.t 4],sR [1,2] Zp (sR [3,4] Zq .ret)⟩
attribute [simp] Zp Zq
def ap0 :=[qi 4 0]
def ap1 :=[qm 6 0,qe 7 6,qi 8 0]
def ap2 :=[qk 9 .lss 8 7]
def ap3 :=[qm 10 8,qm 5 10]
def ap4 :=[qm 11 1,qm 12 0,qm 13 5,qj 14 2 12 13,qa 15 2 14,qo 16 (.call false (.t 11) [(.t 15)])]
def ap5 :=[qm 17 5,qm 4 17]
def ap6 :=[qn 18 .add 8 1,qm 8 18]
def tY:Abs.cF:=sR [0,1,7,8,9] ap2 (.seq (.ite (.t 9) .eo (.exit 0)) (.seq (.bO 1 (sR [0,1,5,7,8] ap3 (sR [0,1,5,7,8,16] ap4 (.ite (.t 16) (sR [4] ap5 .ret) .eo)))) (.cr [0,1,7,8] ap6)))
def ap7 :=[qi 4 (-1)]
def oK:Abs.Fn:=⟨2,[.t 4],sR [0,1] ap0 (sL [0,1,7,8] ap1 0 [0,1,7,8] false tY (sR [4] ap7 .ret))⟩
def ap8 :=[qb 3 false]
def ap9 :=[ql 4 1 1,qm 5 0,qo 6 (.call false (.t 4) [(.t 5)]),qu 7 6,qm 3 7]
def zt:Abs.Fn:=⟨2,[.t 3],sR [0,1] ap8 (sR [3] ap9 .ret)⟩
def aqa :=[qb 3 false]
def aqb :=[ql 4 1 1,qm 5 0,qo 6 (.call false (.t 4) [(.t 5)]),qu 7 6,qm 3 7]
def tD:Abs.Fn:=⟨2,[.t 3],sR [0,1] aqa (sR [3] aqb .ret)⟩
def Zr :=[qx 2 0,qo 4 (.qh 1)]
def Zs :=[qm 6 1,qe 7 6,qi 8 0]
def Zt :=[qk 9 .lss 8 7]
def Zu :=[qm 10 8,qm 5 10]
def Zv :=[qm 11 4,qa 12 11 2,qm 13 1,qm 14 5,qc 15 fV [12,13,14],qo 16 (.uU 1 1 [zI] [(0,1,(.t 15))]),qy 17 1 8 11 16,qm 4 17]
def Zw :=[qn 18 .add 8 1,qm 8 18]
def iI:Abs.cF:=sR [1,2,4,7,8,9] Zt (.seq (.ite (.t 9) .eo (.exit 0)) (.seq (.bO 1 (sR [1,2,4,5,7,8] Zu (.cr [1,2,4,7,8] Zv))) (.cr [1,2,4,7,8] Zw)))
def Zx :=[qm 19 4,qm 4 19]
def kG:Abs.Fn:=⟨2,[.t 4],sR [1,2,4] Zr (sL [1,2,4,7,8] Zs 0 [1,2,4,7,8] false iI (sR [4] Zx .ret))⟩
attribute [simp] Zr Zs Zt Zu Zv Zw Zx
def Zy :=[qx 1 0,qo 2 (.mv (.c .iW))]
def Zz :=[qo 3 (.xW jJ [] [(.t 1)]),qm 2 3]
def se:Abs.Fn:=⟨1,[.t 2],sR [1] Zy (sR [2] Zz .ret)⟩
attribute [simp] Zy Zz
def ZA :=[qx 2 0,qi 4 0]
def ZB :=[qa 5 11 2,qo 6 (.call false (.c (.fn eA [] [])) [(.t 5),(.c (.int .i64 1))]),qm 7 1,qj 8 1 6 7,ql 9 1 8,qm 4 9]
def pG:Abs.Fn:=⟨2,[.t 4],sR [1,2] ZA (sR [4] ZB .ret)⟩
attribute [simp] ZA ZB
def ZC :=[qx 2 0,qi 4 0]
def ZD :=[qa 5 11 2,qo 6 (.call false (.c (.fn eA [] [])) [(.t 5),(.c (.int .i64 3))]),qm 7 1,qj 8 1 6 7,ql 9 1 8,qm 4 9]
def pB:Abs.Fn:=⟨2,[.t 4],sR [1,2] ZC (sR [4] ZD .ret)⟩
attribute [simp] ZC ZD
def aqc :=[qx 3 1,qb 4 false]
def aqd :=[qm 5 0,qo 6 (.xW kL [] [(.t 3)]),qc 7 fg [5,6],qu 8 7,qm 4 8]
def u6:Abs.Fn:=⟨2,[.t 4],sR [0,3] aqc (sR [4] aqd .ret)⟩
def ZE :=[qx 1 0,qb 2 false]
def ZF :=[qf 3 0 1,ql 4 1 3,qo 5 (.call false (.c (.fn cn [] [])) [(.t 4),(.c (.int .i64 1)),(.c (.int .i64 1000000))]),qm 6 5,qg 6 true (qf 7 1 1),qg 6 true (ql 8 1 7),qg 6 true (qo 9 (.call false (.c (.fn cn [] [])) [(.t 8),(.c zI),(.c (.int .i64 10000000000))])),qp 10 6 9,qm 11 10,qg 11 true (qf 12 2 1),qg 11 true (ql 13 1 12),qg 11 true (qo 14 (.call false (.c (.fn cn [] [])) [(.t 13),(.c zI),(.c (.int .i64 1000000000000))])),qp 15 11 14,qm 2 15]
def pr:Abs.Fn:=⟨1,[.t 2],sR [1] ZE (sR [2] ZF .ret)⟩
attribute [simp] ZE ZF
def aqe :=[qi 4 0]
def aqf :=[qm 6 0,qe 7 6,qi 8 0]
def aqg :=[qk 9 .lss 8 7]
def aqh :=[qm 10 8,qm 5 10]
def aqi :=[qm 11 1,qm 12 0,qm 13 5,qj 14 5 12 13,qa 15 5 14,qo 16 (.call false (.t 11) [(.t 15)])]
def aqj :=[qm 17 5,qm 4 17]
def aqk :=[qn 18 .add 8 1,qm 8 18]
def uW:Abs.cF:=sR [0,1,7,8,9] aqg (.seq (.ite (.t 9) .eo (.exit 0)) (.seq (.bO 1 (sR [0,1,5,7,8] aqh (sR [0,1,5,7,8,16] aqi (.ite (.t 16) (sR [4] aqj .ret) .eo)))) (.cr [0,1,7,8] aqk)))
def aql :=[qi 4 (-1)]
def pT:Abs.Fn:=⟨2,[.t 4],sR [0,1] aqe (sL [0,1,7,8] aqf 0 [0,1,7,8] false uW (sR [4] aql .ret))⟩
def aqm :=[qi 4 0]
def aqn :=[qm 6 0,qe 7 6,qi 8 0]
def aqo :=[qk 9 .lss 8 7]
def aqp :=[qm 10 8,qm 5 10]
def aqq :=[qm 11 1,qm 12 0,qm 13 5,qj 14 2 12 13,qa 15 2 14,qo 16 (.call false (.t 11) [(.t 15)])]
def aqr :=[qm 17 5,qm 4 17]
def aqs :=[qn 18 .add 8 1,qm 8 18]
def uz:Abs.cF:=sR [0,1,7,8,9] aqo (.seq (.ite (.t 9) .eo (.exit 0)) (.seq (.bO 1 (sR [0,1,5,7,8] aqp (sR [0,1,5,7,8,16] aqq (.ite (.t 16) (sR [4] aqr .ret) .eo)))) (.cr [0,1,7,8] aqs)))
def aqt :=[qi 4 (-1)]
def oZ:Abs.Fn:=⟨2,[.t 4],sR [0,1] aqm (sL [0,1,7,8] aqn 0 [0,1,7,8] false uz (sR [4] aqt .ret))⟩
def aqu :=[qi 4 0]
def aqv :=[qm 6 0,qe 7 6,qi 8 0]
def aqw :=[qk 9 .lss 8 7]
def aqx :=[qm 10 8,qm 5 10]
def aqy :=[qm 11 1,qm 12 0,qm 13 5,qj 14 4 12 13,qa 15 4 14,qo 16 (.call false (.t 11) [(.t 15)])]
def aqz :=[qm 17 5,qm 4 17]
def aqA :=[qn 18 .add 8 1,qm 8 18]
def tB:Abs.cF:=sR [0,1,7,8,9] aqw (.seq (.ite (.t 9) .eo (.exit 0)) (.seq (.bO 1 (sR [0,1,5,7,8] aqx (sR [0,1,5,7,8,16] aqy (.ite (.t 16) (sR [4] aqz .ret) .eo)))) (.cr [0,1,7,8] aqA)))
def aqB :=[qi 4 (-1)]
def n9:Abs.Fn:=⟨2,[.t 4],sR [0,1] aqu (sL [0,1,7,8] aqv 0 [0,1,7,8] false tB (sR [4] aqB .ret))⟩
def ZG :=[qm 7 0,qo 8 (.mW (.t 7)),qf 9 0 8,qf 10 0 9,qf 11 0 10,qa 12 4 11,qo 13 (.l9 [zI,zI,zI,zI] []),qo 14 (.eqv true [some .i64,some .i64,some .i64,some .i64] false (.t 12) (.t 13))]
def ZH:List Abs.Op:=[]
def ZI :=[qM 16 2,qO 17 (.fM 1 (.t 16) (.c zI)),qL 18 1 17,qM 19 2,qO 20 (.fM 1 (.t 19) (.c (.int .i64 1))),qL 21 1 20,qM 22 2,qO 23 (.fM 1 (.t 22) (.c (.int .i64 2))),qL 24 1 23,qM 25 2,qO 26 (.fM 1 (.t 25) (.c (.int .i64 3))),qL 27 1 26,qO 28 (.l9 [zI,zI,zI,zI] [(0,1,(.t 18)),(1,1,(.t 21)),(2,1,(.t 24)),(3,1,(.t 27))]),qO 6 (.fm [] [zI,zI,zI,zI]),qs 6 4 6 28]
def ZJ :=[qw 29 6 4 6,qc 30 jH [29],qn 31 .eql 30 0,qm 32 31,qg 32 true (qf 33 3 6),qg 32 true (qv 34 6 1 33),qg 32 true (qn 35 .geq 34 4),qp 36 32 35]
def ZK:List Abs.Op:=[]
def ZL :=[qm 38 0,qw 39 6 4 6,qo 40 (.mW (.t 38)),qf 41 0 40,qf 42 0 41,qf 43 0 42,qt 4 43 39]
def j9:Abs.Fn:=⟨3,[],.seq (.iY [0,2] ZG ⟨some 15,none,false,.call false (.c (.fn aZ [] [])) [(.t 14),(.c (.int .i64 8))]⟩ ZH) (sR [0,6] ZI (.seq (.iY [0,6] ZJ ⟨some 37,none,false,.call false (.c (.fn aZ [] [])) [(.t 36),(.c (.int .i64 1))]⟩ ZK) (.cr [] ZL)))⟩
attribute [simp] ZG ZH ZI ZJ ZK ZL
def ZM :=[qm 7 0,qo 8 (.mW (.t 7)),qf 9 0 8,qf 10 0 9,qf 11 4 10,ql 12 1 11,qe 13 12,qn 14 .eql 13 0]
def ZN:List Abs.Op:=[]
def ZO :=[qo 6 (.qh 5)]
def ZP :=[qm 16 2,qe 17 16,qn 18 .gtr 17 0]
def ZQ :=[qM 21 6,qM 22 2,qO 23 (.fM 1 (.t 22) (.c zI)),qL 24 1 23,qM 25 2,qO 26 (.fM 1 (.t 25) (.c (.int .i64 1))),qL 27 1 26,qM 28 2,qO 29 (.fM 1 (.t 28) (.c (.int .i64 2))),qL 30 1 29,qM 31 2,qO 32 (.fM 1 (.t 31) (.c (.int .i64 3))),qL 33 1 32,qM 34 2,qO 35 (.fM 1 (.t 34) (.c (.int .i64 4))),qL 36 1 35,qO 37 (.l9 [zI,zI,zI,zI,zI] [(0,1,(.t 24)),(1,1,(.t 27)),(2,1,(.t 30)),(3,1,(.t 33)),(4,1,(.t 36))]),qO 38 (.uU 1 5 [zI,zI,zI,zI,zI] [(0,5,(.t 37))]),qy 39 5 40 21 38,qm 6 39]
def ZR :=[qm 19 2,qo 20 (.IF 1 (.t 19) (some (.c (.int .i64 5))) none none),qm 2 20]
def kB:Abs.cF:=sI [0,2,6,18] ZP 18 .eo (.exit 0) (.seq (.bO 1 (.cr [0,2,6] ZQ)) (.cr [0,2,6] ZR))
def ZS :=[qm 40 6,qc 41 jR [40]]
def ZT:List Abs.Op:=[]
def ZU :=[qm 43 0,qm 44 6,qo 45 (.mW (.t 43)),qf 46 0 45,qf 47 0 46,qf 48 4 47,qt 1 48 44]
def kc:Abs.Fn:=⟨3,[],.seq (.iY [0,2] ZM ⟨some 15,none,false,.call false (.c (.fn aZ [] [])) [(.t 14),(.c (.int .i64 8))]⟩ ZN) (sR [0,2,6] ZO (.seq (.bO 0 (.loop [0,2,6] false kB)) (.seq (.seq (.cJ [6]) (.iY [0,6] ZS ⟨some 42,none,false,.call false (.c (.fn bS [] [])) [(.t 41)]⟩ ZT)) (.cr [] ZU))))⟩
attribute [simp] ZM ZN ZO ZP ZQ ZR ZS ZT ZU
def ZV :=[qm 7 0,qo 8 (.mW (.t 7)),qf 9 0 8,qf 10 0 9,qf 11 0 10,qa 12 4 11,qo 13 (.l9 [zI,zI,zI,zI] []),qo 14 (.eqv true [some .i64,some .i64,some .i64,some .i64] true (.t 12) (.t 13)),qm 15 14,qg 15 true (qm 16 0),qg 15 true (qo 17 (.mW (.t 16))),qg 15 true (qf 18 0 17),qg 15 true (qf 19 0 18),qg 15 true (qf 20 4 19),qg 15 true (ql 21 1 20),qg 15 true (qe 22 21),qg 15 true (qn 23 .gtr 22 0),qp 24 15 23,qm 25 24,qg 25 true (qm 26 0),qg 25 true (qo 27 (.mW (.t 26))),qg 25 true (qf 28 18 27),qg 25 true (ql 29 1 28),qg 25 true (qu 30 29),qp 31 25 30]
def ZW:List Abs.Op:=[]
def ZX :=[qm 33 0,qo 34 (.mW (.t 33)),qf 35 0 34,qf 36 0 35,qa 37 9 36,qo 6 (.fm [] [zI,zI,zI,zI,.aK,zI,zI,zI,.aK]),qs 6 9 6 37]
def ZY :=[qM 38 2,qO 39 (.fM 1 (.t 38) (.c zI)),qL 40 1 39,qM 41 2,qO 42 (.fM 1 (.t 41) (.c (.int .i64 1))),qL 43 1 42,qM 44 2,qO 45 (.fM 1 (.t 44) (.c (.int .i64 2))),qL 46 1 45,qF 47 5 6,qS 6 1 47 40,qF 48 6 6,qS 6 1 48 43,qf 49 7 6,qs 6 1 49 46]
def ZZ :=[qw 50 6 9 6,qc 51 nh [50]]
def Z0:List Abs.Op:=[]
def Z1 :=[qm 53 0,qm 54 0,qw 55 6 9 6,qo 56 (.mW (.t 53)),qf 57 0 56,qf 58 0 57,qt 9 58 55,qo 59 (.mW (.t 54)),qf 60 18 59,⟨none,none,false,.st [] 1 (.t 60) (.c (.bool true))⟩]
def ma:Abs.Fn:=⟨3,[],.seq (.iY [0,2] ZV ⟨some 32,none,false,.call false (.c (.fn aZ [] [])) [(.t 31),(.c (.int .i64 8))]⟩ ZW) (sR [0,2,6] ZX (sR [0,6] ZY (.seq (.iY [0,6] ZZ ⟨some 52,none,false,.call false (.c (.fn bS [] [])) [(.t 51)]⟩ Z0) (.cr [] Z1))))⟩
attribute [simp] ZV ZW ZX ZY ZZ Z0 Z1
def Z2 :=[qm 7 0,qo 8 (.mW (.t 7)),qf 9 18 8,ql 10 1 9,qm 11 10,qg 11 true (qm 12 0),qg 11 true (qo 13 (.mW (.t 12))),qg 11 true (qf 14 0 13),qg 11 true (qf 15 9 14),qg 11 true (ql 16 1 15),qg 11 true (qe 17 16),qg 11 true (qn 18 .eql 17 0),qp 19 11 18]
def Z3:List Abs.Op:=[]
def Z4 :=[qm 21 0,qo 22 (.mW (.t 21)),qf 23 0 22,qf 24 0 23,qa 25 9 24,qo 6 (.fm [] [zI,zI,zI,zI,.aK,zI,zI,zI,.aK]),qs 6 9 6 25]
def Z5 :=[qF 26 8 6,qV 27 6 1 26,qo 28 (.call true (.c (.fn eM [] [])) [(.t 27)]),qM 29 2,qO 30 (.fM 1 (.t 29) (.c zI)),qO 31 (.SZ false 1 (.t 30)),qM 32 2,qO 33 (.fM 1 (.t 32) (.c (.int .i64 1))),qO 34 (.SZ false 1 (.t 33)),qM 35 2,qO 36 (.fM 1 (.t 35) (.c (.int .i64 2))),qO 37 (.SZ false 1 (.t 36)),qO 38 (.l9 [zI,zI,zI] [(0,1,(.t 31)),(1,1,(.t 34)),(2,1,(.t 37))]),qO 39 (.uU 1 3 [zI,zI,zI] [(0,3,(.t 38))]),qy 40 3 24 28 39,qf 41 8 6,qs 6 1 41 40]
def Z6 :=[qw 42 6 9 6,qc 43 nh [42]]
def Z7:List Abs.Op:=[]
def Z8 :=[qm 45 0,qw 46 6 9 6,qo 47 (.mW (.t 45)),qf 48 0 47,qf 49 0 48,qt 9 49 46]
def kZ:Abs.Fn:=⟨3,[],.seq (.iY [0,2] Z2 ⟨some 20,none,false,.call false (.c (.fn aZ [] [])) [(.t 19),(.c (.int .i64 8))]⟩ Z3) (sR [0,2,6] Z4 (sR [0,6] Z5 (.seq (.seq (.cJ [6]) (.iY [0,6] Z6 ⟨some 44,none,false,.call false (.c (.fn bS [] [])) [(.t 43)]⟩ Z7)) (.cr [] Z8))))⟩
attribute [simp] Z2 Z3 Z4 Z5 Z6 Z7 Z8
def Z9 :=[qx 4 1]
def aaa :=[qm 9 0,qo 10 (.mW (.t 9)),qf 11 18 10,ql 12 1 11,qm 13 12,qg 13 true (qm 14 0),qg 13 true (qo 15 (.mW (.t 14))),qg 13 true (qf 16 0 15),qg 13 true (qf 17 10 16),qg 13 true (ql 18 1 17),qg 13 true (qe 19 18),qg 13 true (qn 20 .eql 19 0),qp 21 13 20]
def aab:List Abs.Op:=[]
def aac :=[qm 23 0,qo 24 (.mW (.t 23)),qf 25 0 24,qf 26 9 25,ql 27 1 26,qo 28 (.xW ez [] [(.t 4)]),qc 29 ec [27,28],qu 30 29]
def aad:List Abs.Op:=[]
def aae :=[qm 32 0,qo 33 (.mW (.t 32)),qf 34 0 33,qf 35 9 34,ql 36 1 35,qe 37 36,qn 38 .lss 37 40]
def aaf:List Abs.Op:=[]
def aag :=[qo 40 (.SZ false 1 (.t 4)),qm 41 2,qo 42 (.l9 [(.str []),.aK] [(0,1,(.t 40)),(1,1,(.t 41))]),qo 6 (.fm [] [(.str []),.aK]),qs 6 2 6 42]
def aah :=[qM 44 0,qO 45 (.mW (.t 44)),qF 46 0 45,qF 47 0 46,qA 48 9 47,qW 49 6 2 6,qC 50 uD [48,49],qM 43 50,qZ 51 43 0,qZ 52 43 1,qM 7 51,qm 8 52]
def aai :=[qm 53 8]
def PD:List Abs.Op:=[]
def PE :=[qM 55 0,qM 56 0,qM 57 0,qO 58 (.mW (.t 57)),qF 59 0 58,qF 60 9 59,qL 61 1 60,qW 62 6 2 6,qO 63 (.l9 [(.str []),.aK,(.bool false),zI] [(0,2,(.t 62)),(2,1,(.c (.bool true))),(3,1,(.c zI))]),qO 64 (.uU 1 4 [(.str []),.aK,(.bool false),zI] [(0,4,(.t 63))]),qO 65 (.RN [] 4 56 (.t 61) (.t 64)),qM 66 0,qO 67 (.mW (.t 66)),qF 68 19 67,qO 69 (.SY false 1 (.t 68)),qO 70 (.l9 [zI,zI,zI,zI] []),qO 71 (.uU 1 4 [zI,zI,zI,zI] [(0,4,(.t 70))]),qO 72 (.app 4 32 (.t 69) (.t 71)),qO 73 (.mW (.t 55)),qF 74 0 73,qF 75 9 74,⟨none,none,true,.st [(0,4),(10,4)] 1 (.t 75) (.t 65)⟩,qo 76 (.mW (.t 56)),qf 77 19 76,⟨none,none,false,.st [(0,4)] 1 (.t 77) (.t 72)⟩]
def ka:Abs.Fn:=⟨3,[],sR [0,2,4] Z9 (.seq (.iY [0,2,4] aaa ⟨some 22,none,false,.call false (.c (.fn aZ [] [])) [(.t 21),(.c (.int .i64 8))]⟩ aab) (.seq (.iY [0,2,4] aac ⟨some 31,none,false,.call false (.c (.fn aZ [] [])) [(.t 30),(.c (.int .i64 6))]⟩ aad) (.seq (.iY [0,2,4] aae ⟨some 39,none,false,.call false (.c (.fn aZ [] [])) [(.t 38),(.c (.int .i64 3))]⟩ aaf) (sR [0,6] aag (sR [0,6,8] aah (.seq (.iY [0,6] aai ⟨some 54,none,false,.call false (.c (.fn bS [] [])) [(.t 53)]⟩ PD) (.cr [] PE)))))))⟩
attribute [simp] Z9 aaa aab aac aad aae aaf aag aah aai PD PE
def aaj :=[qx 3 0]
def aak :=[ql 9 1 3,qo 10 (.mW (.t 9)),qf 11 0 10,qf 12 9 11,ql 13 1 12,qe 14 13,qn 15 .gtr 14 0]
def aal:List Abs.Op:=[]
def aam :=[qM 17 1,qM 18 2,qO 19 (.fM 1 (.t 18) (.c zI)),qL 20 1 19,qM 21 2,qO 22 (.fM 1 (.t 21) (.c (.int .i64 1))),qL 23 1 22,qM 24 2,qO 25 (.fM 1 (.t 24) (.c (.int .i64 2))),qL 26 1 25,qO 27 (.l9 [zI,zI] [(0,1,(.t 23)),(1,1,(.t 26))]),qO 28 (.l9 [(.str []),zI,.aK,.aK,zI,zI] [(0,1,(.t 17)),(1,1,(.t 20)),(4,2,(.t 27))]),qO 6 (.Hg [] [(.str []),zI,.aK,.aK,zI,zI]),⟨none,none,false,.st [(2,1),(3,1)] 6 (.t 6) (.t 28)⟩]
def aan :=[qm 29 2,qo 30 (.IF 1 (.t 29) (some (.c (.int .i64 3))) none none),qe 31 30,qi 32 0]
def aao :=[qk 33 .lss 32 31]
def aap :=[qm 34 32,qj 35 1 30 32,ql 36 1 35,qm 7 34,qm 8 36]
def aaq :=[qm 37 7,qn 38 .rem 37 2,qn 39 .eql 38 0]
def aar :=[qf 40 2 6,ql 41 1 40,qm 42 8,qo 43 (.uU 1 1 [zI] [(0,1,(.t 42))]),qy 44 1 8 41 43,qf 45 2 6,⟨none,none,false,.st [(0,1),(1,1)] 1 (.t 45) (.t 44)⟩]
def aas :=[qf 46 3 6,ql 47 1 46,qm 48 8,qo 49 (.uU 1 1 [zI] [(0,1,(.t 48))]),qy 50 1 8 47 49,qf 51 3 6,⟨none,none,false,.st [(0,1)] 1 (.t 51) (.t 50)⟩]
def PF :=[qn 52 .add 32 1,qm 32 52]
def iH:Abs.cF:=sR [2,3,6,30,31,32,33] aao (.seq (.ite (.t 33) .eo (.exit 0)) (.seq (.bO 1 (sR [2,3,6,7,8,30,31,32] aap (sR [2,3,6,8,30,31,32,39] aaq (.ite (.t 39) (.cr [2,3,6,30,31,32] aar) (.cr [2,3,6,30,31,32] aas))))) (.cr [2,3,6,30,31,32] PF)))
def PG :=[qL 53 1 3,qO 54 (.mW (.t 53)),qF 55 0 54,qF 56 0 55,qF 57 0 56,qA 58 4 57,qA 59 6 6,qO 60 (.uU 1 6 [(.str []),zI,.aK,.aK,zI,zI] [(0,6,(.t 59))]),qc 61 jx [58,60]]
def PH:List Abs.Op:=[]
def PI :=[qL 63 1 3,qM 64 2,qO 65 (.fM 1 (.t 64) (.c (.int .i64 1))),qL 66 1 65,qM 67 2,qO 68 (.fM 1 (.t 67) (.c (.int .i64 2))),qL 69 1 68,qO 70 (.l9 [zI,zI] [(0,1,(.t 66)),(1,1,(.t 69))]),qO 71 (.xW fB [] [(.t 3),(.t 6)]),qc 72 gH [63,70,71]]
def mc:Abs.Fn:=⟨3,[],sR [1,2,3] aaj (.seq (.iY [1,2,3] aak ⟨some 16,none,false,.call false (.c (.fn aZ [] [])) [(.t 15),(.c (.int .i64 8))]⟩ aal) (sR [2,3,6] aam (sL [2,3,6,30,31,32] aan 0 [2,3,6,30,31,32] false iH (.seq (.seq (.cJ [1000006]) (.iY [2,3,6] PG ⟨some 62,none,false,.call false (.c (.fn bS [] [])) [(.t 61)]⟩ PH)) (.cr [] PI)))))⟩
attribute [simp] aaj aak aal aam aan aao aap aaq aar aas PF PG PH PI
def aat :=[qm 10 0,qo 11 (.mW (.t 10)),qf 12 0 11,qf 13 11 12,ql 14 1 13,qe 15 14,qn 16 .lss 15 20]
def aau:List Abs.Op:=[]
def aav :=[qm 18 2,qo 19 (.fM 1 (.t 18) (.c (.int .i64 9))),ql 20 1 19,qo 21 (.call false (.c (.fn cC [] [])) [(.t 20),(.c (.int .i64 1)),(.c (.int .i64 2))])]
def aaw:List Abs.Op:=[]
def aax :=[qM 23 2,qO 24 (.fM 1 (.t 23) (.c zI)),qL 25 1 24,qM 26 2,qO 27 (.fM 1 (.t 26) (.c (.int .i64 1))),qL 28 1 27,qM 29 2,qO 30 (.fM 1 (.t 29) (.c (.int .i64 2))),qL 31 1 30,qO 32 (.l9 [zI,zI,zI] [(0,1,(.t 25)),(1,1,(.t 28)),(2,1,(.t 31))]),qM 33 2,qO 34 (.fM 1 (.t 33) (.c (.int .i64 3))),qL 35 1 34,qM 36 2,qO 37 (.fM 1 (.t 36) (.c (.int .i64 4))),qL 38 1 37,qM 39 2,qO 40 (.fM 1 (.t 39) (.c (.int .i64 5))),qL 41 1 40,qO 42 (.l9 [zI,zI,zI] [(0,1,(.t 35)),(1,1,(.t 38)),(2,1,(.t 41))]),qM 43 2,qO 44 (.fM 1 (.t 43) (.c (.int .i64 6))),qL 45 1 44,qM 46 2,qO 47 (.fM 1 (.t 46) (.c (.int .i64 7))),qL 48 1 47,qM 49 2,qO 50 (.fM 1 (.t 49) (.c (.int .i64 8))),qL 51 1 50,qM 52 2,qO 53 (.fM 1 (.t 52) (.c (.int .i64 9))),qL 54 1 53,qO 55 (.J6 .u8 (.t 54)),qO 56 (.l9 [zI,zI,zI,zI,zI,zI,zI,zI,zI,(.int .u8 0)] [(0,3,(.t 32)),(3,3,(.t 42)),(6,1,(.t 45)),(7,1,(.t 48)),(8,1,(.t 51)),(9,1,(.t 55))]),qO 6 (.fm [] [zI,zI,zI,zI,zI,zI,zI,zI,zI,(.int .u8 0)]),qs 6 10 6 56]
def aay :=[qw 58 6 10 6,qo 59 (.uU 1 10 [zI,zI,zI,zI,zI,zI,zI,zI,zI,(.int .u8 0)] [(0,10,(.t 58))]),qo 60 (.call false (.c (.fn iS [] [])) [(.t 59),(.c .aK),(.c zI)]),qm 57 60,qz 61 57 0,qz 62 57 1,qz 63 57 2,qm 7 61,qm 8 62,qm 9 63]
def aaz :=[qm 64 9]
def aaA:List Abs.Op:=[]
def aaB :=[qM 66 0,qM 67 0,qO 68 (.mW (.t 67)),qF 69 0 68,qF 70 11 69,qL 71 1 70,qW 72 6 10 6,qO 73 (.uU 1 10 [zI,zI,zI,zI,zI,zI,zI,zI,zI,(.int .u8 0)] [(0,10,(.t 72))]),qO 74 (.app 10 80 (.t 71) (.t 73)),qo 75 (.mW (.t 66)),qf 76 0 75,qf 77 11 76,⟨none,none,false,.st [(0,10)] 1 (.t 77) (.t 74)⟩]
def kV:Abs.Fn:=⟨3,[],.seq (.iY [0,2] aat ⟨some 17,none,false,.call false (.c (.fn aZ [] [])) [(.t 16),(.c (.int .i64 3))]⟩ aau) (.seq (.iY [0,2] aav ⟨some 22,none,false,.call false (.c (.fn aZ [] [])) [(.t 21),(.c (.int .i64 1))]⟩ aaw) (sR [0,6] aax (sR [0,6,9] aay (.seq (.iY [0,6] aaz ⟨some 65,none,false,.call false (.c (.fn bS [] [])) [(.t 64)]⟩ aaA) (.cr [] aaB)))))⟩
attribute [simp] aat aau aav aaw aax aay aaz aaA aaB
def aaC :=[qm 9 2,qo 10 (.me (.s2a 3 1) [(.t 9)]),qa 11 3 10,qo 12 (.call false (.c (.fn pY [] [])) [(.c .aK),(.c .aK),(.t 11),(.c zI)]),qm 8 12,qz 13 8 0,qz 14 8 1,qm 6 13,qm 7 14]
def aaD :=[qm 15 7]
def aaE:List Abs.Op:=[]
def aaF :=[qm 17 0,qm 18 2,qo 19 (.me (.s2a 3 1) [(.t 18)]),qa 20 3 19,qo 21 (.mW (.t 17)),qf 22 0 21,qf 23 13 22,qt 3 23 20]
def kT:Abs.Fn:=⟨3,[],sR [0,2,7] aaC (.seq (.iY [0,2] aaD ⟨some 16,none,false,.call false (.c (.fn bS [] [])) [(.t 15)]⟩ aaE) (.cr [] aaF))⟩
attribute [simp] aaC aaD aaE aaF
def aaG :=[qm 10 0,qo 11 (.mW (.t 10)),qf 12 0 11,qf 13 12 12,ql 14 1 13,qe 15 14,qn 16 .lss 15 200]
def aaH:List Abs.Op:=[]
def aaI :=[qm 18 0,qo 19 (.mW (.t 18)),qf 20 0 19,qf 21 10 20,ql 22 1 21,qe 23 22,qo 24 (.l9 [zI,.aK] [(0,1,(.t 23))]),qo 6 (.fm [] [zI,.aK]),⟨none,none,false,.Gt 6 [(1,4)] 2 6 (.t 24)⟩]
def aaJ :=[qm 25 2,qe 26 25,qn 27 .gtr 26 0]
def aaK :=[qF 30 1 6,qV 31 6 1 30,qM 32 2,qO 33 (.fM 1 (.t 32) (.c zI)),qL 34 1 33,qM 35 2,qO 36 (.fM 1 (.t 35) (.c (.int .i64 1))),qL 37 1 36,qM 38 2,qO 39 (.fM 1 (.t 38) (.c (.int .i64 2))),qL 40 1 39,qO 41 (.l9 [zI,zI,zI] [(0,1,(.t 34)),(1,1,(.t 37)),(2,1,(.t 40))]),qM 42 2,qO 43 (.fM 1 (.t 42) (.c (.int .i64 3))),qL 44 1 43,qO 45 (.l9 [zI,zI,zI,zI] [(0,3,(.t 41)),(3,1,(.t 44))]),qO 46 (.uU 1 4 [zI,zI,zI,zI] [(0,4,(.t 45))]),qy 47 4 32 31 46,qf 48 1 6,⟨none,none,false,.Gt 6 [(0,4)] 1 48 (.t 47)⟩]
def aaL :=[qm 28 2,qo 29 (.IF 1 (.t 28) (some (.c (.int .i64 4))) none none),qm 2 29]
def kz:Abs.cF:=sI [0,2,6,27] aaJ 27 .eo (.exit 0) (.seq (.bO 1 (.cr [0,2,6] aaK)) (.cr [0,2,6] aaL))
def aaM :=[qw 50 6 2 6,qo 51 (.uU 1 2 [zI,.aK] [(0,2,(.t 50))]),qo 52 (.call false (.c (.fn iS [] [])) [(.c .aK),(.t 51),(.c zI)]),qm 49 52,qz 53 49 0,qz 54 49 1,qz 55 49 2,qm 7 53,qm 8 54,qm 9 55]
def aaN :=[qm 56 9]
def aaO:List Abs.Op:=[]
def PJ :=[qM 58 0,qM 59 0,qO 60 (.mW (.t 59)),qF 61 0 60,qF 62 12 61,qL 63 1 62,qW 64 6 2 6,qO 65 (.uU 1 2 [zI,.aK] [(0,2,(.t 64))]),qO 66 (.app 2 32 (.t 63) (.t 65)),qo 67 (.mW (.t 58)),qf 68 0 67,qf 69 12 68,⟨none,none,false,.st [(0,2)] 1 (.t 69) (.t 66)⟩]
def kb:Abs.Fn:=⟨3,[],.seq (.iY [0,2] aaG ⟨some 17,none,false,.call false (.c (.fn aZ [] [])) [(.t 16),(.c (.int .i64 3))]⟩ aaH) (sR [0,2,6] aaI (.seq (.bO 0 (.loop [0,2,6] false kz)) (.seq (.seq (.cJ [6,1000006]) (.cr [0,6,9] aaM)) (.seq (.iY [0,6] aaN ⟨some 57,none,false,.call false (.c (.fn bS [] [])) [(.t 56)]⟩ aaO) (.cr [] PJ)))))⟩
attribute [simp] aaG aaH aaI aaJ aaK aaL aaM aaN aaO PJ
def aaP :=[qm 16 0,qc 17 gj [16],qm 6 17]
def aaQ :=[qm 18 6,qe 19 18,qn 20 .gtr 19 0]
def aaR:List Abs.Op:=[]
def aaS :=[qm 22 0,qo 23 (.mW (.t 22)),qf 24 0 23,qf 25 10 24,ql 26 1 25,qe 27 26,qn 28 .lss 27 200]
def aaT:List Abs.Op:=[]
def aaU :=[qm 30 2,qe 31 30,qm 32 0,qo 33 (.mW (.t 32)),qf 34 0 33,qf 35 0 34,qf 36 8 35,ql 37 1 36,qe 38 37,qk 39 .eql 31 38]
def aaV:List Abs.Op:=[]
def aaW :=[qM 41 0,qM 42 0,qC 43 gG [42],qO 44 (.mW (.t 41)),qF 45 0 44,qF 46 13 45,qo 47 (.Bw 3 1 (.t 46) (.t 43)),ql 48 1 47,qm 7 48]
def aaX :=[qo 8 (.qh 1)]
def aaY :=[qm 49 2,qe 50 49,qi 51 0]
def PK :=[qk 52 .lss 51 50]
def PL :=[qj 53 1 49 51,ql 54 1 53,qm 10 54]
def PM :=[qm 55 10,qo 56 (.call false (.c (.fn cC [] [])) [(.t 55),(.c (.int .i64 (-100000))),(.c (.int .i64 100000))])]
def PN:List Abs.Op:=[]
def PO :=[qm 58 10,qn 59 .lss 58 0]
def PQ :=[qm 60 10,qo 61 (.un .neg (.t 60)),qm 62 7,qk 63 .mul 61 62,qn 64 .quo 63 1000,qo 65 (.un .neg (.t 64)),qm 10 65]
def PR :=[qm 66 8,qm 67 10,qo 68 (.uU 1 1 [zI] [(0,1,(.t 67))]),qy 69 1 8 66 68,qm 8 69]
def PS :=[qn 70 .add 51 1,qm 51 70]
def kD:Abs.cF:=sR [0,6,7,8,49,50,51,52] PK (.seq (.ite (.t 52) .eo (.exit 0)) (.seq (.bO 1 (sR [0,6,7,8,10,49,50,51] PL (.seq (.iY [0,6,7,8,10,49,50,51] PM ⟨some 57,none,false,.call false (.c (.fn aZ [] [])) [(.t 56),(.c (.int .i64 2))]⟩ PN) (sI [0,6,7,8,10,49,50,51,59] PO 59 (.cr [0,6,7,8,10,49,50,51] PQ) .eo (.cr [0,6,7,8,49,50,51] PR))))) (.cr [0,6,7,8,49,50,51] PS)))
def PT :=[qm 71 0,qo 72 (.mW (.t 71)),qf 73 0 72,qf 74 10 73,ql 75 1 74,qo 76 (.call true (.c (.fn iu [] [])) [(.t 75)]),qm 77 8,qo 78 (.uU 1 1 [.aK] [(0,1,(.t 77))]),qy 79 1 24 76 78,qm 11 79]
def PU :=[qm 80 6,qe 81 80,qi 82 0]
def PV :=[qk 83 .lss 82 81]
def PW :=[qj 84 4 80 82,qa 85 4 84,qo 13 (.fm [] [(.str []),.aK,(.bool false),zI]),qs 13 4 13 85]
def PX :=[qM 87 0,qO 88 (.mW (.t 87)),qF 89 0 88,qF 90 0 89,qA 91 9 90,qF 92 0 13,qW 93 13 2 92,qM 94 11,qC 95 tQ [91,93,94],qM 86 95,qZ 96 86 0,qZ 97 86 1,qO 14 (.fm [] [.aK,.aK]),qS 14 2 14 96,qm 15 97]
def PY :=[qm 98 15]
def PZ:List Abs.Op:=[]
def P0 :=[qn 100 .add 82 1,qm 82 100]
def kE:Abs.cF:=sR [0,11,80,81,82,83] PV (.seq (.ite (.t 83) .eo (.exit 2)) (.seq (.bO 3 (sR [0,11,13,80,81,82] PW (sR [0,11,15,80,81,82] PX (.iY [0,11,80,81,82] PY ⟨some 99,none,false,.call false (.c (.fn bS [] [])) [(.t 98)]⟩ PZ)))) (.cr [0,11,80,81,82] P0)))
def P3 :=[qm 101 0,qm 102 11,qo 103 (.mW (.t 101)),qf 104 0 103,qf 105 10 104,qt 1 105 102]
def kX:Abs.Fn:=⟨3,[],sR [0,2,6] aaP (.seq (.iY [0,2,6] aaQ ⟨some 21,none,false,.call false (.c (.fn aZ [] [])) [(.t 20),(.c (.int .i64 8))]⟩ aaR) (.seq (.iY [0,2,6] aaS ⟨some 29,none,false,.call false (.c (.fn aZ [] [])) [(.t 28),(.c (.int .i64 3))]⟩ aaT) (.seq (.iY [0,2,6] aaU ⟨some 40,none,false,.call false (.c (.fn aZ [] [])) [(.t 39),(.c (.int .i64 1))]⟩ aaV) (sR [0,2,6,7] aaW (sR [0,2,6,7,8] aaX (sL [0,6,7,8,49,50,51] aaY 0 [0,6,7,8,49,50,51] false kD (sR [0,6,11] PT (.seq (.seq (.seq (.cJ [11]) (.cr [0,11,80,81,82] PU)) (.bO 2 (.loop [0,11,80,81,82] false kE))) (.cr [] P3)))))))))⟩
attribute [simp] aaP aaQ aaR aaS aaT aaU aaV aaW aaX aaY PK PL PM PN PO PQ PR PS PT PU PV PW PX PY PZ P0 P3
def aaZ :=[qx 3 0,qx 5 2]
def aa0 :=[ql 11 1 3,qc 12 gj [11],qm 6 12]
def aa1 :=[qm 13 6,qe 14 13,qn 15 .gtr 14 0]
def aa2:List Abs.Op:=[]
def aa3 :=[ql 17 1 5,qo 18 (.fM 1 (.t 17) (.c zI)),ql 19 1 18,qo 20 (.call false (.c (.fn cC [] [])) [(.t 19),(.c zI),(.c (.int .i64 255))])]
def aa4:List Abs.Op:=[]
def aa5 :=[qL 22 1 3,qO 23 (.mW (.t 22)),qF 24 0 23,qF 25 10 24,qL 26 1 25,qE 27 26,qL 28 1 5,qO 29 (.fM 1 (.t 28) (.c zI)),qL 30 1 29,qO 31 (.J6 .u8 (.t 30)),qL 32 1 5,qO 33 (.fM 1 (.t 32) (.c (.int .i64 1))),qL 34 1 33,qL 35 1 5,qO 36 (.fM 1 (.t 35) (.c (.int .i64 2))),qL 37 1 36,qL 38 1 5,qO 39 (.fM 1 (.t 38) (.c (.int .i64 3))),qL 40 1 39,qO 41 (.l9 [zI,zI] [(0,1,(.t 37)),(1,1,(.t 40))]),qO 42 (.l9 [zI,(.int .u8 0),zI,zI,zI] [(0,1,(.t 27)),(1,1,(.t 31)),(2,1,(.t 34)),(3,2,(.t 41))]),qO 7 (.Hg [] [zI,(.int .u8 0),zI,zI,zI]),qt 5 7 42]
def aa6 :=[qL 44 1 3,qO 45 (.mW (.t 44)),qF 46 0 45,qF 47 0 46,qA 48 9 47,qM 49 6,qO 50 (.fM 4 (.t 49) (.c zI)),qF 51 0 50,qA 52 2 51,qO 53 (.uU 1 2 [(.str []),.aK] [(0,2,(.t 52))]),qL 54 1 3,qO 55 (.mW (.t 54)),qF 56 0 55,qF 57 10 56,qL 58 1 57,qA 59 5 7,qO 60 (.uU 1 5 [zI,(.int .u8 0),zI,zI,zI] [(0,5,(.t 59))]),qC 61 mw [48,53,58,60],qM 43 61,qZ 62 43 0,qZ 63 43 1,qZ 64 43 2,qM 8 62,qM 9 63,qm 10 64]
def aa7 :=[qm 65 10]
def aa8:List Abs.Op:=[]
def P4 :=[qL 67 1 3,qL 68 1 5,qO 69 (.fM 1 (.t 68) (.c (.int .i64 2))),qL 70 1 69,qL 71 1 5,qO 72 (.fM 1 (.t 71) (.c (.int .i64 3))),qL 73 1 72,qO 74 (.l9 [zI,zI] [(0,1,(.t 70)),(1,1,(.t 73))]),qO 75 (.xW eV [] [(.t 3),(.t 7),(.t 5)]),qc 76 gH [67,74,75]]
def kU:Abs.Fn:=⟨3,[],sR [3,5] aaZ (sR [3,5,6] aa0 (.seq (.iY [3,5,6] aa1 ⟨some 16,none,false,.call false (.c (.fn aZ [] [])) [(.t 15),(.c (.int .i64 8))]⟩ aa2) (.seq (.iY [3,5,6] aa3 ⟨some 21,none,false,.call false (.c (.fn aZ [] [])) [(.t 20),(.c (.int .i64 1))]⟩ aa4) (sR [3,5,6,7] aa5 (sR [3,5,7,10] aa6 (.seq (.iY [3,5,7] aa7 ⟨some 66,none,false,.call false (.c (.fn bS [] [])) [(.t 65)]⟩ aa8) (.cr [] P4)))))))⟩
attribute [simp] aaZ aa0 aa1 aa2 aa3 aa4 aa5 aa6 aa7 aa8 P4
def tF2:List (Nat×ub×Abs.Fn):=[A0 gC mB,A0 kf nq,A0 eK mV,A0 j5 sQ,A0 ki Bq,A0 eA pF,A0 eh nC,A0 fH nE,A0 vV yj,A0 fG pD,A0 kK rz,A0 jd ot,A0 jN pA,A0 dU jF,A0 dJ jj,A0 ix vi,A0 eD lN,A0 jK pn,A0 mz pI,A2 [] cS dN [] [2,5],(lg,Cz,ov),A2 [] cj rp [] [0],A3 [] nQ rq [] [4] [4] [] [],A3 [] l4 si [] [4] [4] [] [],A3 [] nS rA [] [4] [4] [] [],A0 lh ow,A0 fq n8,A0 kN tP,A0 ff nF,A0 jZ sO,A0 eB mf,A0 iO rL,A3 [] jc oo [] [2,5] [5] [] [],A0 sV vy,A0 pX tj,A4 [] aZ sM [] [] [] [] [] [] [] [] [(1,some 3)],A4 [] lY oI [] [] [] [] [] [] [] [] [(2,some 12)],A0 eC pJ,A0 fp n0,A0 lP uw,A3 [] gK jX [] [7] [7] [] [],A0 ew lA,A0 fX oK,A0 oO zt,A0 pL tD,A2 [] ir kG [] [4],A0 oM se,A0 jQ pG,A0 jO pB,A0 mQ u6,A0 jM pr,A0 gR pT,A0 gw oZ,A0 ft n9,A4 [] fA j9 [] [0,6] [6] [] [] [] [] [] [(0,some 8),(2,some 8)],A4 [] fE kc [] [0,6] [] [] [] [(5,[6])] [] [] [(0,some 8),(5,some 2)],A4 [] gW ma [] [0,6] [6] [] [] [] [] [] [(0,some 25),(3,some 2)],A4 [] gv kZ [] [0,6] [6] [] [2002] [(3,[6])] [29,32,35] [] [(0,some 13),(3,some 2)],A4 [] fC ka [] [0,6] [6] [(7021,[(0,4),(10,4)]),(7024,[(0,4)])] [3007014] [] [4] [(7010,some [])] [(1,some 13),(2,some 8),(3,some 7),(6,some 1)],A4 [] gX mc [] [6] [] [(2013,[(2,1),(3,1)]),(7006,[(0,1),(1,1)]),(8006,[(0,1)])] [] [(10,[1000006])] [] [] [(1,some 7),(10,some 9)],A4 [] gn kV [] [0,6] [6] [(5012,[(0,10)])] [] [] [] [] [(0,some 7),(1,some 4),(4,some 1)],A4 [] gi kT [] [0] [] [] [] [] [] [] [(1,some 1)],A4 [] fD kb [] [0,6] [6] [(1008,[(1,4)]),(4019,[(0,4)]),(7012,[(0,2)])] [] [(5,[6,1000006])] [] [] [(0,some 7),(6,some 1)],A4 [] gq kX [] [0,8,13,14] [13,14] [] [14005] [(15,[11])] [] [] [(1,some 3),(2,some 7),(3,some 10),(9,some 2),(19,some 1)],A4 [] gk kU [] [7] [] [] [] [] [] [] [(2,some 3),(3,some 4),(6,some 1)]]
theorem kF2:(tF2.map fun p=>chk p)=tF2.map fun p=>some p.2.2:=by kernel_rfl
end Go.Proofs.YtfgljaglidhjiaaGreatDoor
