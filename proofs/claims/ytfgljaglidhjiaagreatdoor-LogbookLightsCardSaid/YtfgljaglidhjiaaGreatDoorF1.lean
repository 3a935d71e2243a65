import Derived.Test.YtfgljaglidhjiaaGreatDoorIds
set_option linter.all false
set_option maxRecDepth 100000
namespace Go.Proofs.YtfgljaglidhjiaaGreatDoor
open Go Go.Abs
def anb :=[qx 3 0,qo 6 (.pB 2)]
def anc :=[qm 9 1,qe 10 9,qi 11 0]
def ane :=[qk 12 .lss 11 10]
def anf :=[qj 13 2 9 11,qa 14 2 13,qo 8 (.eJ [] [(.str []),.aG]),qs 8 2 8 14]
def ang :=[qm 15 6,qa 16 9 3,qw 17 8 2 8,qo 18 (.lK [zI,zI,zI,zI,.aG,zI,zI,zI,.aG,(.str []),.aG] [(0,9,(.t 16)),(9,2,(.t 17))]),qm 19 2]
def anh :=[qo 21 (.uH 1 2 [.aG,.aG] [(0,2,(.t 20))]),qy 22 2 48 15 21,qm 6 22]
def ani :=[qn 23 .add 11 1,qm 11 23]
def tT:Abs.cX :=
 (.seq (.ai [2,3,6,9,10,11,12] ane) (.seq (.ite (.t 12) .cI (.exit 0)) (.seq (.bD 1 (.seq (.ai [2,3,6,8,9,10,11] anf) (.iT [2,3,6,9,10,11] ang ⟨some 20,none,false,.call false (.c (.fn iE [] [])) [(.t 18),(.t 19)]⟩ anh))) (.ai [2,3,6,9,10,11] ani))))
def anj :=[qm 24 6,qm 6 24]
def N5:bP:=⟨[(6,[6]),(5,[2,3,6,9,10,11]),(4,[2,3,6,9,10,11]),(3,[2,3,6,8,9,10,11]),(2,[2,3,6,9,10,11,12]),(1,[2,3,6,9,10,11]),(0,[1,2,3,6])],[(0,[2,3,6,9,10,11])],[],[6,8],[8],[],[],[],[],[],[(4,some 5)]⟩
def vJ:Abs.Fn:=⟨3,[.t 6],
 (.seq (.ai [1,2,3,6] anb) (.seq (.seq (.ai [2,3,6,9,10,11] anc) (.bD 0 (.loop [2,3,6,9,10,11] false tT))) (.seq (.ai [6] anj) .ret)))⟩
attribute [simp] anb anc ane anf ang anh ani anj
def anC :=[qx 2 0,qi 4 0]
def anD :=[qm 5 1,qf 6 1 2,ql 7 1 6,qk 8 .sub 5 7,qo 9 (.mx (.c zI) (.t 8)),qm 10 1,qf 11 0 2,ql 12 1 11,qk 13 .sub 10 12,qo 14 (.mn (.c zI) (.t 13)),qk 15 .add 9 14,qm 4 15]
def FV:bP:=iL [(1,[4]),(0,[1,2])]
def pY:Abs.Fn:=⟨2,[.t 4],
 (.seq (.ai [1,2] anC) (.seq (.ai [4] anD) .ret))⟩
attribute [simp] anC anD
def anE :=[qx 3 0,qx 4 1,qx 5 2,qi 6 0]
def anF :=[qf 7 1 5,ql 8 1 7,qo 9 (.bin .eql (.t 8) (.c (.int .u8 1)))]
def anG :=[qA 10 11 3,qF 11 0 4,qL 12 1 11,qF 13 0 5,qL 14 1 13,qJ 15 1 12 14,qL 16 1 15,qF 17 2 5,qL 18 1 17,qc 19 fO [10,16,18],qm 6 19]
def anH :=[qC 20 ub [],qF 21 1 5,qL 22 1 21,qO 23 (.MZ false 5 1 (.t 20) (.t 22)),qF 24 1 4,qL 25 1 24,qF 26 0 5,qL 27 1 26,qN 28 .sub 27 1,qJ 29 1 25 28,qL 30 1 29,qF 31 2 5,qL 32 1 31,qJ 33 3 30 32,qA 34 3 33,qo 35 (.call false (.t 23) [(.t 34)]),qm 6 35]
def DX:bP:=iL [(3,[6]),(2,[6]),(1,[3,4,5,9]),(0,[3,4,5])]
def nY:Abs.Fn:=⟨3,[.t 6],
 (.seq (.ai [3,4,5] anE) (.seq (.seq (.ai [3,4,5,9] anF) (.ite (.t 9) (.seq (.ai [6] anG) .ret) .cI)) (.seq (.ai [6] anH) .ret)))⟩
attribute [simp] anE anF anG anH
def axY :=[qx 3 1,qb 4 false]
def axZ :=[qm 5 0,qo 6 (.yF fH [] [(.t 3)]),qc 7 dh [5,6],qu 8 7,qm 4 8]
def zf:bP:=iL [(1,[4]),(0,[0,3])]
def nA:Abs.Fn:=⟨2,[.t 4],
 (.seq (.ai [0,3] axY) (.seq (.ai [4] axZ) .ret))⟩
def anI :=[qx 1 0,qb 2 false]
def anJ :=[qf 3 0 1,qa 4 3 3,qf 5 3 1,qa 6 3 5,qc 7 uc [4,6],qm 8 7,qg 8 true (qf 9 6 1),qg 8 true (ql 10 1 9),qg 8 true (qo 11 (.call false (.c (.fn cn [] [])) [(.t 10),(.c zI),(.c (.int .i64 160))])),qp 12 8 11,qm 13 12,qg 13 true (qf 14 7 1),qg 13 true (ql 15 1 14),qg 13 true (qo 16 (.call false (.c (.fn cn [] [])) [(.t 15),(.c (.int .i64 1)),(.c (.int .i64 1000000))])),qp 17 13 16,qm 18 17,qg 18 true (qf 19 8 1),qg 18 true (ql 20 1 19),qg 18 true (qo 21 (.call false (.c (.fn cn [] [])) [(.t 20),(.c (.int .i64 1)),(.c (.int .i64 200))])),qp 22 18 21,qm 23 22,qg 23 true (qf 24 9 1),qg 23 true (ql 25 1 24),qg 23 true (qo 26 (.bin .eql (.t 25) (.c (.int .u8 1)))),qg 23 true (qm 27 26),qg 27 false (qf 28 9 1),qg 27 false (ql 29 1 28),qg 27 false (qo 30 (.bin .eql (.t 29) (.c (.int .u8 2)))),qg 23 true (qP 31 27 30),qp 32 23 31,qm 2 32]
def D1:bP:=iL [(1,[2]),(0,[1])]
def od:Abs.Fn:=⟨1,[.t 2],
 (.seq (.ai [1] anI) (.seq (.ai [2] anJ) .ret))⟩
attribute [simp] anI anJ
def ax0 :=[qx 3 1,qb 4 false]
def ax1 :=[qm 5 0,qo 6 (.yF eZ [] [(.t 3)]),qc 7 cZ [5,6],qu 8 7,qm 4 8]
def xZ:bP:=iL [(1,[4]),(0,[0,3])]
def mG:Abs.Fn:=⟨2,[.t 4],
 (.seq (.ai [0,3] ax0) (.seq (.ai [4] ax1) .ret))⟩
def anK :=[qx 1 0,qb 2 false]
def anL :=[qf 3 0 1,ql 4 1 3,qo 5 (.call false (.c (.fn cn [] [])) [(.t 4),(.c zI),(.c (.int .i64 1000000))]),qm 6 5,qg 6 true (qf 7 1 1),qg 6 true (ql 8 1 7),qg 6 true (qe 9 8),qg 6 true (qo 10 (.call false (.c (.fn cn [] [])) [(.t 9),(.c (.int .i64 1)),(.c (.int .i64 2000))])),qp 11 6 10,qm 12 11,qg 12 true (qf 13 1 1),qg 12 true (ql 14 1 13),qg 12 true (qo 15 (.call false (.c (.fn eM [] [])) [(.t 14),(.c (.fn fS [] []))])),qp 16 12 15,qm 2 16]
def Cm:bP:=iL [(1,[2]),(0,[1])]
def nf:Abs.Fn:=⟨1,[.t 2],
 (.seq (.ai [1] anK) (.seq (.ai [2] anL) .ret))⟩
attribute [simp] anK anL
def anM :=[qb 6 false]
def anN :=[qm 7 1,qm 8 0,qk 9 .leq 7 8,qm 10 9,qg 10 true (qm 11 0),qg 10 true (qm 12 2),qg 10 true (qk 13 .leq 11 12),qp 14 10 13,qm 6 14]
def IF:bP:=iL [(1,[6]),(0,[0,1,2])]
def sJ:Abs.Fn:=⟨3,[.t 6],
 (.seq (.ai [0,1,2] anM) (.seq (.ai [6] anN) .ret))⟩
attribute [simp] anM anN
def anO :=[qx 2 0,qx 3 1,qb 4 false]
def anP :=[qf 6 0 3,qa 7 3 6,qo 5 (.eJ [] [zI,zI,zI]),qs 5 3 5 7]
def anQ :=[qf 8 3 3,ql 9 1 8,qf 10 6 2,ql 11 1 10,qk 12 .geq 9 11,qm 13 12,qg 13 true (qf 14 0 5),qg 13 true (qv 15 5 1 14),qg 13 true (qf 16 0 2),qg 13 true (qf 17 0 16),qg 13 true (ql 18 1 17),qg 13 true (qf 19 3 2),qg 13 true (qf 20 0 19),qg 13 true (ql 21 1 20),qg 13 true (qc 22 cn [15,18,21]),qp 23 13 22,qm 24 23,qg 24 true (qf 25 1 5),qg 24 true (qv 26 5 1 25),qg 24 true (qf 27 0 2),qg 24 true (qf 28 1 27),qg 24 true (ql 29 1 28),qg 24 true (qf 30 3 2),qg 24 true (qf 31 1 30),qg 24 true (ql 32 1 31),qg 24 true (qc 33 cn [26,29,32]),qp 34 24 33,qm 35 34,qg 35 true (qf 36 2 5),qg 35 true (qv 37 5 1 36),qg 35 true (qf 38 0 2),qg 35 true (qf 39 2 38),qg 35 true (ql 40 1 39),qg 35 true (qf 41 3 2),qg 35 true (qf 42 2 41),qg 35 true (ql 43 1 42),qg 35 true (qc 44 cn [37,40,43]),qp 45 35 44,qm 4 45]
def Co:bP:=Fp [(2,[4]),(1,[2,3,5]),(0,[2,3])] [] [] [5] [5] [] []
def nh:Abs.Fn:=⟨2,[.t 4],
 (.seq (.ai [2,3] anO) (.seq (.ai [2,3,5] anP) (.seq (.ai [4] anQ) .ret)))⟩
attribute [simp] anO anP anQ
def ax2 :=[qb 4 false]
def ax3 :=[qm 5 0,qm 6 1,qc 7 fR [5,6],qn 8 .geq 7 0,qm 4 8]
def tv:bP:=iL [(1,[4]),(0,[0,1])]
def ig:Abs.Fn:=⟨2,[.t 4],
 (.seq (.ai [0,1] ax2) (.seq (.ai [4] ax3) .ret))⟩
def ax4 :=[qx 3 1,qb 4 false]
def ax5 :=[qm 5 0,qo 6 (.yF iG [] [(.t 3)]),qc 7 bT [5,6],qu 8 7,qm 4 8]
def zg:bP:=iL [(1,[4]),(0,[0,3])]
def nB:Abs.Fn:=⟨2,[.t 4],
 (.seq (.ai [0,3] ax4) (.seq (.ai [4] ax5) .ret))⟩
def anR :=[qx 2 0,qx 3 1,qo 4 (.eJ [] [zI,zI,zI,zI,.aG,zI,zI,zI,.aG,(.str []),.aG]),qi 5 0]
def anS :=[qa 7 9 2,qa 8 2 3,qo 9 (.lK [zI,zI,zI,zI,.aG,zI,zI,zI,.aG,(.str []),.aG] [(0,9,(.t 7)),(9,2,(.t 8))]),qo 6 (.eJ [] [zI,zI,zI,zI,.aG,zI,zI,zI,.aG,(.str []),.aG]),qs 6 11 6 9]
def anT :=[qa 10 9 2,qc 11 jz [10],qu 12 11,qm 13 12,qg 13 false (qw 14 6 11 6),qg 13 false (qc 15 jD [14]),qg 13 false (qu 16 15),qP 17 13 16]
def anU :=[qo 18 (.lK [zI,zI,zI,zI,.aG,zI,zI,zI,.aG,(.str []),.aG] []),qs 4 11 4 18,qi 5 1]
def anV :=[qw 19 6 11 6,qs 4 11 4 19,qi 5 0]
def P3:bP:=Fp [(4,[4,5]),(3,[4,5]),(2,[4,6,17]),(1,[2,4,6]),(0,[2,3,4])] [] [] [4,6] [4,6] [] []
def xz:Abs.Fn:=⟨2,[.v 4 true 11,.t 5],
 (.seq (.ai [2,3,4] anR) (.seq (.ai [2,4,6] anS) (.seq (.seq (.ai [4,6,17] anT) (.ite (.t 17) (.seq (.ai [4,5] anU) .ret) .cI)) (.seq (.ai [4,5] anV) .ret))))⟩
attribute [simp] anR anS anT anU anV
def anW :=[qx 2 0,qi 4 0]
def anX :=[qm 8 1,qe 9 8,qn 10 .gtr 9 200]
def anY :=[qi 4 3]
def anZ :=[qm 11 1,qe 12 11,qi 13 0]
def an0 :=[qk 14 .lss 13 12]
def an3 :=[qj 15 1 11 13,ql 16 1 15,qm 6 16]
def an5 :=[qa 17 9 2,qm 18 6,qc 19 om [17,18],qm 7 19]
def an6 :=[qm 20 7,qn 21 .neq 20 0]
def an8 :=[qm 22 7,qm 4 22]
def an9 :=[qn 23 .add 13 1,qm 13 23]
def nT:Abs.cX :=
 (.seq (.ai [2,11,12,13,14] an0) (.seq (.ite (.t 14) .cI (.exit 0)) (.seq (.bD 1 (.seq (.ai [2,6,11,12,13] an3) (.seq (.ai [2,7,11,12,13] an5) (.seq (.ai [2,7,11,12,13,21] an6) (.ite (.t 21) (.seq (.ai [4] an8) .ret) .cI))))) (.ai [2,11,12,13] an9))))
def agA :=[qi 4 0]
def IB:bP:=IG [(10,[4]),(9,[2,11,12,13]),(8,[4]),(7,[2,7,11,12,13,21]),(6,[2,7,11,12,13]),(5,[2,6,11,12,13]),(4,[2,11,12,13,14]),(3,[2,11,12,13]),(2,[4]),(1,[1,2,10]),(0,[1,2])] [(0,[2,11,12,13])]
def sF:Abs.Fn:=⟨2,[.t 4],
 (.seq (.ai [1,2] anW) (.seq (.seq (.ai [1,2,10] anX) (.ite (.t 10) (.seq (.ai [4] anY) .ret) .cI)) (.seq (.seq (.ai [2,11,12,13] anZ) (.bD 0 (.loop [2,11,12,13] false nT))) (.seq (.ai [4] agA) .ret))))⟩
attribute [simp] anW anX anY anZ an0 an3 an5 an6 an8 an9 agA
def aoa :=[qx 2 0,qo 4 (.eJ [(0,1),(1,1)] [.aG,.aG])]
def aob :=[qa 10 11 2,qc 11 iQ [10],qo 12 (.Oa 1 1 [.aG] [(0,1,(.t 11))]),qf 13 0 4,⟨none,none,false,.IN 4 [(0,1),(1,1)] 1 13 (.t 12)⟩]
def aoc :=[qm 14 1,qe 15 14,qi 16 0]
def aod :=[qk 17 .lss 16 15]
def aoe :=[qm 18 16,qj 19 1 14 16,ql 20 1 19,qm 5 18,qm 6 20]
def aof :=[qA 22 11 2,qF 23 0 4,qV 24 4 1 23,qM 25 5,qJ 26 1 24 25,qL 27 1 26,qM 28 6,qC 29 lZ [22,27,28],qM 21 29,qZ 30 21 0,qZ 31 21 1,qZ 32 21 2,qM 7 30,qM 8 31,qm 9 32]
def aog :=[qm 33 9,qn 34 .neq 33 0]
def aoh :=[qo 35 (.lK [] []),qo 36 (.mki 262 (.t 35))]
def aoi:List Abs.Op:=[]
def aoj :=[qF 37 0 4,qV 38 4 1 37,qM 39 7,qO 40 (.uH 1 1 [.aG] [(0,1,(.t 39))]),qO 41 (.app 1 24 (.t 38) (.t 40)),qF 42 1 4,qV 43 4 1 42,qM 44 8,qO 45 (.uH 1 1 [.aG] [(0,1,(.t 44))]),qO 46 (.app 1 24 (.t 43) (.t 45)),qF 47 0 4,⟨none,none,false,.IN 4 [(0,1),(1,1)] 1 47 (.t 41)⟩,qf 48 1 4,⟨none,none,false,.IN 4 [(0,1)] 1 48 (.t 46)⟩]
def agB :=[qn 49 .add 16 1,qm 16 49]
def mr:Abs.cX :=
 (.seq (.ai [2,4,14,15,16,17] aod) (.seq (.ite (.t 17) .cI (.exit 0)) (.seq (.bD 1 (.seq (.ai [2,4,5,6,14,15,16] aoe) (.seq (.ai [2,4,7,8,9,14,15,16] aof) (.seq (.seq (.ai [2,4,7,8,14,15,16,34] aog) (.ite (.t 34) (.iT [2,4,7,8,14,15,16] aoh ⟨none,none,false,.PC (.t 36)⟩ aoi) .cI)) (.ai [2,4,14,15,16] aoj))))) (.ai [2,4,14,15,16] agB))))
def agC :=[qw 50 4 2 4,⟨none,none,false,.IN 4 [(0,1),(1,1)] 2 4 (.t 50)⟩]
def FY:bP:=⟨[(10,[4]),(9,[2,4,14,15,16]),(8,[2,4,14,15,16]),(7,[2,4,7,8,14,15,16]),(6,[2,4,7,8,14,15,16,34]),(5,[2,4,7,8,9,14,15,16]),(4,[2,4,5,6,14,15,16]),(3,[2,4,14,15,16,17]),(2,[2,4,14,15,16]),(1,[1,2,4]),(0,[1,2,4])],[(0,[2,4,14,15,16])],[],[4,12],[4],[(1,[(0,1),(1,1)]),(1004,[(0,1),(1,1)]),(8011,[(0,1),(1,1)]),(8013,[(0,1)]),(10001,[(0,1),(1,1)])],[],[],[],[],[(7,some 2)]⟩
def mX:Abs.Fn:=⟨2,[.v 4 true 2],
 (.seq (.ai [1,2,4] aoa) (.seq (.ai [1,2,4] aob) (.seq (.seq (.ai [2,4,14,15,16] aoc) (.bD 0 (.loop [2,4,14,15,16] false mr))) (.seq (.ai [4] agC) .ret))))⟩
attribute [simp] aoa aob aoc aod aoe aof aog aoh aoi aoj agB agC
def aok :=[qb 2 false]
def aol :=[qm 6 0,qe 7 6,qo 8 (.call false (.c (.fn du [] [])) [(.t 7),(.c (.int .i64 2)),(.c (.int .i64 20))]),qu 9 8,qm 10 9,qg 10 false (qm 11 0),qg 10 false (qo 12 (.call false (.c (.fn jl [] [])) [(.t 11),(.c (.fn kr [] []))])),qg 10 false (qu 13 12),qP 14 10 13]
def aom :=[qb 2 false]
def aon :=[qm 15 0,qo 16 (.Md 5 (.t 15) (some (.c (.int .i64 1))) none none),qe 17 16,qi 18 0]
def aoo :=[qk 19 .lss 18 17]
def aoq :=[qm 20 18,qj 21 5 16 18,qa 22 5 21,qo 4 (.eJ [] [zI,zI,zI,zI,zI]),qm 3 20,qs 4 5 4 22]
def aor :=[qm 23 0,qm 24 3,qj 25 5 23 24,qa 26 5 25,qo 5 (.eJ [] [zI,zI,zI,zI,zI]),qs 5 5 5 26]
def aos :=[qf 27 0 4,qv 28 4 1 27,qf 29 0 5,qv 30 5 1 29,qk 31 .leq 28 30,qm 32 31,qg 32 false (qf 33 1 4),qg 32 false (qv 34 4 1 33),qg 32 false (qf 35 1 5),qg 32 false (qv 36 5 1 35),qg 32 false (qk 37 .leq 34 36),qP 38 32 37,qm 39 38,qg 39 false (qf 40 2 4),qg 39 false (qv 41 4 1 40),qg 39 false (qf 42 2 5),qg 39 false (qv 43 5 1 42),qg 39 false (qk 44 .leq 41 43),qP 45 39 44,qm 46 45,qg 46 false (qf 47 4 4),qg 46 false (qv 48 4 1 47),qg 46 false (qf 49 4 5),qg 46 false (qv 50 5 1 49),qg 46 false (qk 51 .lss 48 50),qP 52 46 51]
def aot :=[qb 2 false]
def aou :=[qn 53 .add 18 1,qm 18 53]
def km:Abs.cX :=
 (.seq (.ai [0,16,17,18,19] aoo) (.seq (.ite (.t 19) .cI (.exit 0)) (.seq (.bD 1 (.seq (.ai [0,3,4,16,17,18] aoq) (.seq (.ai [0,4,5,16,17,18] aor) (.seq (.ai [0,16,17,18,52] aos) (.ite (.t 52) (.seq (.ai [2] aot) .ret) .cI))))) (.ai [0,16,17,18] aou))))
def agD :=[qb 2 true]
def DZ:bP:=Fp [(10,[2]),(9,[0,16,17,18]),(8,[2]),(7,[0,16,17,18,52]),(6,[0,4,5,16,17,18]),(5,[0,3,4,16,17,18]),(4,[0,16,17,18,19]),(3,[0,16,17,18]),(2,[2]),(1,[0,14]),(0,[0])] [(0,[0,16,17,18])] [] [4,5] [4,5] [] []
def n9:Abs.Fn:=⟨1,[.t 2],
 (.seq (.ai [0] aok) (.seq (.seq (.ai [0,14] aol) (.ite (.t 14) (.seq (.ai [2] aom) .ret) .cI)) (.seq (.seq (.ai [0,16,17,18] aon) (.bD 0 (.loop [0,16,17,18] false km))) (.seq (.ai [2] agD) .ret))))⟩
attribute [simp] aok aol aom aon aoo aoq aor aos aot aou agD
def aov :=[qb 4 false]
def aow :=[qm 5 1,qm 6 0,qe 7 6,qn 8 .sub 7 1,qo 9 (.call false (.c (.fn du [] [])) [(.t 5),(.c zI),(.t 8)]),qm 4 9]
def F0:bP:=iL [(1,[4]),(0,[0,1])]
def qB:Abs.Fn:=⟨2,[.t 4],
 (.seq (.ai [0,1] aov) (.seq (.ai [4] aow) .ret))⟩
attribute [simp] aov aow
def aox :=[qx 1 0,qb 2 false]
def aoy :=[qf 3 0 1,ql 4 1 3,qo 5 (.call false (.c (.fn du [] [])) [(.t 4),(.c zI),(.c (.int .i64 1000000))]),qm 6 5,qg 6 true (qf 7 1 1),qg 6 true (ql 8 1 7),qg 6 true (qf 9 0 1),qg 6 true (ql 10 1 9),qg 6 true (qo 11 (.bin .mul (.c (.int .i64 4000)) (.t 10))),qg 6 true (qo 12 (.call false (.c (.fn du [] [])) [(.t 8),(.c zI),(.t 11)])),qp 13 6 12,qm 14 13,qg 14 true (qf 15 2 1),qg 14 true (ql 16 1 15),qg 14 true (qf 17 0 1),qg 14 true (ql 18 1 17),qg 14 true (qo 19 (.bin .mul (.c (.int .i64 10000)) (.t 18))),qg 14 true (qo 20 (.call false (.c (.fn du [] [])) [(.t 16),(.c zI),(.t 19)])),qp 21 14 20,qm 22 21,qg 22 true (qf 23 3 1),qg 22 true (ql 24 1 23),qg 22 true (qo 25 (.call false (.c (.fn du [] [])) [(.t 24),(.c zI),(.c (.int .i64 1000000000))])),qp 26 22 25,qm 2 26]
def Cl:bP:=iL [(1,[2]),(0,[1])]
def nd:Abs.Fn:=⟨1,[.t 2],
 (.seq (.ai [1] aox) (.seq (.ai [2] aoy) .ret))⟩
attribute [simp] aox aoy
def aoz :=[qo 4 (.eJ [] [zI,zI,zI,zI,zI])]
def aoA :=[qm 5 0,qm 6 1,qj 7 5 5 6,qa 8 5 7,qo 9 (.lK [zI,zI,zI,zI,zI] [(0,5,(.t 8))]),qs 4 5 4 9]
def Hc:bP:=Fp [(1,[4]),(0,[0,1,4])] [] [] [4] [4] [] []
def rL:Abs.Fn:=⟨2,[.v 4 true 5],
 (.seq (.ai [0,1,4] aoz) (.seq (.ai [4] aoA) .ret))⟩
attribute [simp] aoz aoA
def aoB :=[qx 2 0,qx 3 1,qo 4 (.eJ [] [zI,zI,zI,zI,zI,zI,zI,zI,zI,zI])]
def aoC :=[qa 7 5 2,qa 8 4 3,qc 9 kU [7,8],qm 5 9]
def aoD :=[qm 35 5,qn 36 .eql 35 0,qm 34 36]
def aoE :=[qa 37 4 3,qf 38 4 4,qs 4 4 38 37]
def aoF :=[qm 40 5,qf 41 0 3,ql 42 1 41,qk 43 .eql 40 42,qm 39 43]
def aoG :=[qm 44 5,qf 45 1 3,ql 46 1 45,qf 47 3 3,ql 48 1 47,qo 49 (.lK [zI,zI,zI,zI] [(0,1,(.t 44)),(1,1,(.t 46)),(3,1,(.t 48))]),qf 50 0 4,qs 4 4 50 49]
def aoH :=[qm 10 5,qm 11 5,qf 12 0 2,qf 13 3 12,ql 14 1 13,qk 15 .mul 11 14,qf 16 3 3,ql 17 1 16,qo 18 (.lK [zI,zI,zI,zI] [(0,1,(.t 10)),(1,1,(.t 15)),(3,1,(.t 17))]),qf 19 0 4,qs 4 4 19 18]
def aoI :=[qf 20 0 3,ql 21 1 20,qm 22 5,qk 23 .sub 21 22,qf 24 1 3,ql 25 1 24,qm 26 5,qf 27 0 2,qf 28 3 27,ql 29 1 28,qk 30 .mul 26 29,qk 31 .sub 25 30,qo 32 (.lK [zI,zI,zI,zI] [(0,1,(.t 23)),(1,1,(.t 31))]),qf 33 4 4,qs 4 4 33 32]
def aoJ :=[qf 51 2 3,ql 52 1 51,qf 53 4 4,qf 54 0 53,qv 55 4 1 54,qf 56 0 2,qf 57 4 56,ql 58 1 57,qk 59 .mul 55 58,qo 60 (.mn (.t 52) (.t 59)),qm 6 60]
def aoK :=[qM 61 6,qF 62 2 3,qL 63 1 62,qM 64 6,qK 65 .sub 63 64,qF 66 4 4,qF 67 2 66,qS 4 1 67 61,qf 68 9 4,qs 4 1 68 65]
def agE :=[qf 69 4 4,qf 70 0 69,qv 71 4 1 70,qn 72 .gtr 71 0]
def agF :=[qf 73 4 4,qf 74 1 73,qv 75 4 1 74,qf 76 4 4,qf 77 0 76,qv 78 4 1 77,qf 79 0 2,qf 80 2 79,ql 81 1 80,qk 82 .mul 78 81,qk 83 .sub 75 82,qo 84 (.mx (.c zI) (.t 83)),qf 85 8 4,qs 4 1 85 84]
def agG :=[qw 86 4 10 4,qs 4 10 4 86]
def He:bP:=Fp [(12,[4]),(11,[4]),(10,[2,4,72]),(9,[2,4]),(8,[2,3,4,6]),(5,[2,3,4]),(7,[2,3,4]),(3,[2,3,4]),(2,[2,3,4,5]),(6,[2,3,4,5,39]),(4,[2,3,4,5,34]),(1,[2,3,4,5]),(0,[2,3,4])] [] [] [4] [4] [] []
def rM:Abs.Fn:=⟨2,[.v 4 true 10],
 (.seq (.ai [2,3,4] aoB) (.seq (.ai [2,3,4,5] aoC) (.seq (.bD 0 (.seq (.ai [2,3,4,5,34] aoD) (.ite (.t 34) (.ai [2,3,4] aoE) (.seq (.ai [2,3,4,5,39] aoF) (.ite (.t 39) (.ai [2,3,4] aoG) (.seq (.ai [2,3,4,5] aoH) (.ai [2,3,4] aoI))))))) (.seq (.ai [2,3,4,6] aoJ) (.seq (.ai [2,4] aoK) (.seq (.seq (.ai [2,4,72] agE) (.ite (.t 72) (.ai [4] agF) .cI)) (.seq (.ai [4] agG) .ret)))))))⟩
attribute [simp] aoB aoC aoD aoE aoF aoG aoH aoI aoJ aoK agE agF agG
def aoL :=[qx 1 0,qb 2 false]
def aoM :=[qo 3 (.K5 [] [zI]),⟨none,none,false,.st [] 1 (.t 3) (.c (.int .i64 1000))⟩]
def aoN :=[qf 4 0 1,ql 5 1 4,qo 6 (.call false (.c (.fn j4 [] [])) [(.t 5),(.c zI),(.c (.int .i64 5))]),qm 7 6,qg 7 true (qf 8 1 1),qg 7 true (ql 9 1 8),qg 7 true (qe 10 9),qg 7 true (qo 11 (.call false (.c (.fn j4 [] [])) [(.t 10),(.c (.int .i64 1)),(.c (.int .i64 8))])),qp 12 7 11,qm 13 12,qg 13 true (qf 14 1 1),qg 13 true (ql 15 1 14),qg 13 true (qo 16 (.yF ec [] [(.t 3)])),qg 13 true (qc 17 iB [15,16]),qp 18 13 17,qm 2 18]
def EN:bP:=NA [(2,[2]),(1,[1,3]),(0,[1])] [] [] [3]
def oM:Abs.Fn:=⟨1,[.t 2],
 (.seq (.ai [1] aoL) (.seq (.ai [1,3] aoM) (.seq (.ai [2] aoN) .ret)))⟩
attribute [simp] aoL aoM aoN
def aoO :=[qb 2 false]
def aoP :=[qm 3 0,qo 4 (.call false (.c (.fn jS [] [])) [(.t 3),(.c (.fn mK [] []))]),qm 2 4]
def KY:bP:=iL [(1,[2]),(0,[0])]
def vp:Abs.Fn:=⟨1,[.t 2],
 (.seq (.ai [0] aoO) (.seq (.ai [2] aoP) .ret))⟩
attribute [simp] aoO aoP
def WE :=[qx 1 0,qi 2 0]
def WG :=[qf 5 1 1,ql 6 1 5,qe 7 6,qi 8 0]
def WH :=[qk 9 .lss 8 7]
def WI :=[qj 10 2 6 8,qa 11 2 10,qo 4 (.eJ [] [zI,zI]),qs 4 2 4 11]
def WJ :=[qm 12 2,qf 13 0 4,qv 14 4 1 13,qk 15 .add 12 14,qm 2 15]
def WK :=[qn 16 .add 8 1,qm 8 16]
def jP:Abs.cX :=
 (.seq (.ai [2,6,7,8,9] WH) (.seq (.ite (.t 9) .cI (.exit 0)) (.seq (.bD 1 (.seq (.ai [2,4,6,7,8] WI) (.ai [2,6,7,8] WJ))) (.ai [2,6,7,8] WK))))
def WN :=[qm 17 2,qm 2 17]
def BE:bP:=Fp [(6,[2]),(5,[2,6,7,8]),(4,[2,6,7,8]),(3,[2,4,6,7,8]),(2,[2,6,7,8,9]),(1,[2,6,7,8]),(0,[1,2])] [(0,[2,6,7,8])] [] [4] [4] [] []
def mi:Abs.Fn:=⟨1,[.t 2],
 (.seq (.ai [1,2] WE) (.seq (.seq (.ai [2,6,7,8] WG) (.bD 0 (.loop [2,6,7,8] false jP))) (.seq (.ai [2] WN) .ret)))⟩
attribute [simp] WE WG WH WI WJ WK WN
def WQ :=[qx 2 0,qo 4 (.K5 [] [zI])]
def WS :=[qa 7 2 2,qm 8 1,qo 9 (.call true (.c (.fn nk [] [])) [(.t 7),(.t 8)])]
def WT :=[qo 5 (.eJ [] [zI,zI]),qs 5 2 5 10]
def WU :=[qm 6 11]
def WW :=[ql 12 1 4,qf 13 1 5,qv 14 5 1 13,qm 15 6,qk 16 .mul 14 15,qk 17 .add 12 16,qt 1 4 17]
def mj:Abs.cX :=
 (.seq (.ai [4,5,11] WT) (.ai [4,5,6] WU))
def mm:Abs.cX :=
 (.bD 1 (.ai [] WW))
def WX :=[ql 18 1 4,qt 1 4 18]
def EM:bP:=Fp [(5,[4]),(4,[]),(3,[4,5,6]),(2,[4,5,11]),(1,[4,9]),(0,[1,2,4])] [(0,[4])] [] [4,5] [5] [] [1002]
def oL:Abs.Fn:=⟨2,[.c 4 false 1],
 (.seq (.ai [1,2,4] WQ) (.seq (.seq (.ai [4,9] WS) (.bD 0 (.QH [4] (.t 9) [10,11] mj mm))) (.seq (.ai [4] WX) .ret)))⟩
attribute [simp] WQ WS WT WU WW WX
def aql :=[qo 2 (.pB 1)]
def aqm :=[qm 5 0,qe 6 5,qi 7 0]
def aqn :=[qk 8 .lss 7 6]
def aqo :=[qj 9 1 5 7,ql 10 1 9,qm 4 10]
def aqp :=[qm 11 2,qm 12 4,qc 13 vd [12],qy 14 1 1 11 13,qm 2 14]
def aqq :=[qn 15 .add 7 1,qm 7 15]
def Cx:Abs.cX :=
 (.seq (.ai [2,5,6,7,8] aqn) (.seq (.ite (.t 8) .cI (.exit 0)) (.seq (.bD 1 (.seq (.ai [2,4,5,6,7] aqo) (.ai [2,5,6,7] aqp))) (.ai [2,5,6,7] aqq))))
def aqr :=[qm 16 2,qm 2 16]
def FP:bP:=NA [(6,[2]),(5,[2,5,6,7]),(4,[2,5,6,7]),(3,[2,4,5,6,7]),(2,[2,5,6,7,8]),(1,[2,5,6,7]),(0,[0,2])] [(0,[2,5,6,7])] [] [2]
def yr:Abs.Fn:=⟨1,[.t 2],
 (.seq (.ai [0,2] aql) (.seq (.seq (.ai [2,5,6,7] aqm) (.bD 0 (.loop [2,5,6,7] false Cx))) (.seq (.ai [2] aqr) .ret)))⟩
def WY :=[qo 6 (.K5 [] [zI])]
def WZ :=[qo 10 (.yF da [] [(.t 6)])]
def W0 :=[qm 12 2]
def W3 :=[qm 11 13,qz 14 11 0,qz 15 11 1,qz 16 11 2,qo 7 (.eJ [] [(.bool false),zI,zI,.iS]),qs 7 4 7 14,qm 8 15,qm 9 16]
def W4 :=[qm 17 0,qm 18 1,qo 19 (.mA (.t 17)),qf 20 20 19,qt 1 20 18]
def W5 :=[qf 21 3 7,qv 22 7 1 21,qm 23 0,qm 24 8,qm 25 9]
def W6:List Abs.Op:=[]
def W7:List Abs.Op:=[⟨none,none,false,.st [] 1 (.t 6) (.c zI)⟩]
def la:Abs.cX :=
 (.seq (.iT [0,1,6,7,8,9] W0 ⟨some 13,none,false,.call false (.c (.fn dn [] [])) [(.t 12)]⟩ W3) (.seq (.ai [0,6,7,8,9] W4) (.seq (.iT [6] W5 ⟨some 26,none,false,.call false (.t 22) [(.t 23),(.t 24),(.t 25)]⟩ W6) (.seq (.ai [6] W7) .ret))))
def DL:bP:=⟨[(5,[6]),(4,[6]),(3,[0,6,7,8,9]),(2,[0,1,6,7,8,9]),(1,[0,1,2,6]),(0,[0,1,2,6])],[],[],[0,6,7],[7],[],[],[],[],[],[(2,some 1),(4,some 5)]⟩
def nR:Abs.Fn:=⟨3,[.c 6 false 1],
 (.seq (.ai [0,1,2,6] WY) (.seq (.ai [10,0,1,2,6] WZ) (.Wu (.t 10) [] la)))⟩
attribute [simp] WY WZ W0 W3 W4 W5 W6 W7
def aqs :=[qb 4 false]
def aqt :=[qm 5 0,qm 6 1,qc 7 jc [5,6],qn 8 .geq 7 0,qm 4 8]
def vZ:bP:=iL [(1,[4]),(0,[0,1])]
def po:Abs.Fn:=⟨2,[.t 4],
 (.seq (.ai [0,1] aqs) (.seq (.ai [4] aqt) .ret))⟩
def W8 :=[qb 2 false]
def W9 :=[qm 3 0,qo 4 (.rl (.z8) [(.t 3)]),qn 5 .gtr 4 4000,qm 2 5]
def FO:bP:=iL [(1,[2]),(0,[0])]
def pQ:Abs.Fn:=⟨1,[.t 2],
 (.seq (.ai [0] W8) (.seq (.ai [2] W9) .ret))⟩
attribute [simp] W8 W9
def Xa :=[qx 1 0,qb 2 false]
def Xb :=[qf 3 0 1,ql 4 1 3,qo 5 (.call false (.c (.fn dU [] [])) [(.t 4),(.c (.int .i64 1)),(.c (.int .i64 8))]),qm 6 5,qg 6 true (qf 7 1 1),qg 6 true (ql 8 1 7),qg 6 true (qo 9 (.call false (.c (.fn dU [] [])) [(.t 8),(.c (.int .i64 1)),(.c (.int .i64 8))])),qp 10 6 9,qm 11 10,qg 11 true (qf 12 2 1),qg 11 true (ql 13 1 12),qg 11 true (qo 14 (.call false (.c (.fn dU [] [])) [(.t 13),(.c (.int .i64 1)),(.c (.int .i64 8))])),qp 15 11 14,qm 16 15,qg 16 true (qa 17 4 1),qg 16 true (qc 18 dr [17]),qg 16 true (qn 19 .leq 18 64),qp 20 16 19,qm 21 20,qg 21 true (qf 22 3 1),qg 21 true (ql 23 1 22),qg 21 true (qo 24 (.call false (.c (.fn dU [] [])) [(.t 23),(.c (.int .i64 1)),(.c (.int .i64 6))])),qp 25 21 24,qm 2 25]
def DI:bP:=iL [(1,[2]),(0,[1])]
def nO:Abs.Fn:=⟨1,[.t 2],
 (.seq (.ai [1] Xa) (.seq (.ai [2] Xb) .ret))⟩
attribute [simp] Xa Xb
def Xc :=[qb 2 false]
def Xd :=[qm 5 0,qo 6 (.rl (.z8) [(.t 5)]),qi 7 0]
def Xe :=[qk 8 .lss 7 6]
def Xf :=[qm 9 7,qm 3 9]
def Xg :=[qm 10 0,qm 11 3,qo 12 (.rl (.D4) [(.t 10),(.t 11)]),qo 13 (.bin .geq (.t 12) (.c (.int .u8 97))),qm 14 13,qg 14 true (qm 15 0),qg 14 true (qm 16 3),qg 14 true (qo 17 (.rl (.D4) [(.t 15),(.t 16)])),qg 14 true (qo 18 (.bin .leq (.t 17) (.c (.int .u8 122)))),qp 19 14 18,qm 4 19]
def Xh :=[qm 20 4,qu 21 20,qm 22 21,qg 22 true (qm 23 3),qg 22 true (qn 24 .eql 23 0),qg 22 true (qm 25 24),qg 25 false (qm 26 0),qg 25 false (qm 27 3),qg 25 false (qo 28 (.rl (.D4) [(.t 26),(.t 27)])),qg 25 false (qo 29 (.bin .lss (.t 28) (.c (.int .u8 48)))),qg 22 true (qP 30 25 29),qg 22 true (qm 31 30),qg 31 false (qm 32 0),qg 31 false (qm 33 3),qg 31 false (qo 34 (.rl (.D4) [(.t 32),(.t 33)])),qg 31 false (qo 35 (.bin .gtr (.t 34) (.c (.int .u8 57)))),qg 22 true (qP 36 31 35),qp 37 22 36]
def Xi :=[qb 2 false]
def Xj :=[qn 38 .add 7 1,qm 7 38]
def rA:Abs.cX :=
 (.seq (.ai [0,6,7,8] Xe) (.seq (.ite (.t 8) .cI (.exit 0)) (.seq (.bD 1 (.seq (.ai [0,3,6,7] Xf) (.seq (.ai [0,3,4,6,7] Xg) (.seq (.ai [0,6,7,37] Xh) (.ite (.t 37) (.seq (.ai [2] Xi) .ret) .cI))))) (.ai [0,6,7] Xj))))
def Xk :=[qm 39 0,qo 40 (.rl (.z8) [(.t 39)]),qo 41 (.call false (.c (.fn dU [] [])) [(.t 40),(.c (.int .i64 1)),(.c (.int .i64 16))]),qm 2 41]
def KS:bP:=IG [(8,[2]),(7,[0,6,7]),(6,[2]),(5,[0,6,7,37]),(4,[0,3,4,6,7]),(3,[0,3,6,7]),(2,[0,6,7,8]),(1,[0,6,7]),(0,[0])] [(0,[0,6,7])]
def vm:Abs.Fn:=⟨1,[.t 2],
 (.seq (.ai [0] Xc) (.seq (.seq (.ai [0,6,7] Xd) (.bD 0 (.loop [0,6,7] false rA))) (.seq (.ai [2] Xk) .ret)))⟩
attribute [simp] Xc Xd Xe Xf Xg Xh Xi Xj Xk
def Xl :=[qx 1 0,qi 2 0]
def Xm :=[qf 3 0 1,ql 4 1 3,qf 5 1 1,ql 6 1 5,qk 7 .mul 4 6,qf 8 2 1,ql 9 1 8,qk 10 .mul 7 9,qm 2 10]
def B7:bP:=iL [(1,[2]),(0,[1])]
def mQ:Abs.Fn:=⟨1,[.t 2],
 (.seq (.ai [1] Xl) (.seq (.ai [2] Xm) .ret))⟩
attribute [simp] Xl Xm
def aqu :=[qx 3 1,qb 4 false]
def aqv :=[qm 5 0,qo 6 (.yF qG [] [(.t 3)]),qc 7 cg [5,6],qu 8 7,qm 4 8]
def Iw:bP:=iL [(1,[4]),(0,[0,3])]
def Bc:Abs.Fn:=⟨2,[.t 4],
 (.seq (.ai [0,3] aqu) (.seq (.ai [4] aqv) .ret))⟩
def Xn :=[qb 2 false]
def Xo :=[qm 3 0,qo 4 (.call false (.c (.fn dU [] [])) [(.t 3),(.c (.int .i64 (-100000))),(.c (.int .i64 100000))]),qm 2 4]
def Bw:bP:=iL [(1,[2]),(0,[0])]
def l9:Abs.Fn:=⟨1,[.t 2],
 (.seq (.ai [0] Xn) (.seq (.ai [2] Xo) .ret))⟩
attribute [simp] Xn Xo
def Xp :=[qb 6 false]
def Xq :=[qm 7 1,qm 8 0,qk 9 .leq 7 8,qm 10 9,qg 10 true (qm 11 0),qg 10 true (qm 12 2),qg 10 true (qk 13 .leq 11 12),qp 14 10 13,qm 6 14]
def Jv:bP:=iL [(1,[6]),(0,[0,1,2])]
def tJ:Abs.Fn:=⟨3,[.t 6],
 (.seq (.ai [0,1,2] Xp) (.seq (.ai [6] Xq) .ret))⟩
attribute [simp] Xp Xq
def Xr :=[qx 4 0,qb 8 false]
def Xt :=[qm 12 1,qf 13 3 4,ql 14 1 13,qn 15 .sub 14 1,qo 16 (.call false (.c (.fn dU [] [])) [(.t 12),(.c zI),(.t 15)]),qu 17 16,qm 18 17,qg 18 false (qm 19 2),qg 18 false (qe 20 19),qg 18 false (qn 21 .lss 20 1),qP 22 18 21,qm 23 22,qg 23 false (qm 24 2),qg 23 false (qe 25 24),qg 23 false (qm 26 3),qg 23 false (qe 27 26),qg 23 false (qk 28 .neq 25 27),qP 29 23 28]
def Xu :=[qb 8 false]
def Xv :=[qi 9 (-1)]
def Xw :=[qm 30 2,qe 31 30,qi 32 0]
def Xx :=[qk 33 .lss 32 31]
def Xy :=[qm 34 32,qj 35 1 30 32,ql 36 1 35,qm 10 34,qm 11 36]
def Xz :=[qm 37 11,qm 38 9,qk 39 .leq 37 38,qm 40 39,qg 40 false (qm 41 11),qg 40 false (qa 42 4 4),qg 40 false (qc 43 dr [42]),qg 40 false (qk 44 .geq 41 43),qP 45 40 44,qm 46 45,qg 46 false (qm 47 3),qg 46 false (qm 48 10),qg 46 false (qj 49 1 47 48),qg 46 false (ql 50 1 49),qg 46 false (qo 51 (.call false (.c (.fn dU [] [])) [(.t 50),(.c (.int .i64 (-1000))),(.c (.int .i64 1000))])),qg 46 false (qu 52 51),qP 53 46 52]
def XA :=[qb 8 false]
def XB :=[qm 54 11,qm 9 54]
def RB :=[qn 55 .add 32 1,qm 32 55]
def kZ:Abs.cX :=
 (.seq (.ai [3,4,9,30,31,32,33] Xx) (.seq (.ite (.t 33) .cI (.exit 0)) (.seq (.bD 1 (.seq (.ai [3,4,9,10,11,30,31,32] Xy) (.seq (.seq (.ai [3,4,11,30,31,32,53] Xz) (.ite (.t 53) (.seq (.ai [8] XA) .ret) .cI)) (.ai [3,4,9,30,31,32] XB)))) (.ai [3,4,9,30,31,32] RB))))
def RC :=[qb 8 true]
def EH:bP:=IG [(11,[8]),(10,[3,4,9,30,31,32]),(9,[3,4,9,30,31,32]),(8,[8]),(7,[3,4,11,30,31,32,53]),(6,[3,4,9,10,11,30,31,32]),(5,[3,4,9,30,31,32,33]),(4,[3,4,9,30,31,32]),(3,[2,3,4,9]),(2,[8]),(1,[2,3,4,29]),(0,[1,2,3,4])] [(0,[3,4,9,30,31,32])]
def oJ:Abs.Fn:=⟨4,[.t 8],
 (.seq (.ai [1,2,3,4] Xr) (.seq (.seq (.ai [2,3,4,29] Xt) (.ite (.t 29) (.seq (.ai [8] Xu) .ret) .cI)) (.seq (.ai [2,3,4,9] Xv) (.seq (.seq (.ai [3,4,9,30,31,32] Xw) (.bD 0 (.loop [3,4,9,30,31,32] false kZ))) (.seq (.ai [8] RC) .ret)))))⟩
attribute [simp] Xr Xt Xu Xv Xw Xx Xy Xz XA XB RB RC
def XC :=[qx 1 0,qb 2 false]
def XD :=[qf 3 0 1,ql 4 1 3,qo 5 (.bin .leq (.c (.int .i64 (-10000000000))) (.t 4)),qm 6 5,qg 6 true (qf 7 0 1),qg 6 true (ql 8 1 7),qg 6 true (qf 9 1 1),qg 6 true (ql 10 1 9),qg 6 true (qk 11 .leq 8 10),qp 12 6 11,qm 13 12,qg 13 true (qf 14 1 1),qg 13 true (ql 15 1 14),qg 13 true (qn 16 .leq 15 10000000000),qp 17 13 16,qm 2 17]
def EI:bP:=iL [(1,[2]),(0,[1])]
def oK:Abs.Fn:=⟨1,[.t 2],
 (.seq (.ai [1] XC) (.seq (.ai [2] XD) .ret))⟩
attribute [simp] XC XD
def XE :=[qx 2 0,qx 3 1,qi 4 0]
def XF :=[qf 7 5 2,ql 8 1 7,qe 9 8,qi 10 0]
def XG :=[qk 11 .lss 10 9]
def XH :=[qm 12 10,qj 13 1 8 10,ql 14 1 13,qm 5 12,qm 6 14]
def XI :=[qM 15 4,qF 16 6 2,qL 17 1 16,qM 18 5,qJ 19 1 17 18,qL 20 1 19,qF 21 1 3,qL 22 1 21,qF 23 4 2,qL 24 1 23,qF 25 0 2,qA 26 4 25,qC 27 dr [26],qK 28 .mul 24 27,qM 29 6,qK 30 .add 28 29,qJ 31 1 22 30,qL 32 1 31,qK 33 .mul 20 32,qk 34 .add 15 33,qm 4 34]
def XJ :=[qn 35 .add 10 1,qm 10 35]
def nP:Abs.cX :=
 (.seq (.ai [2,3,4,8,9,10,11] XG) (.seq (.ite (.t 11) .cI (.exit 0)) (.seq (.bD 1 (.seq (.ai [2,3,4,5,6,8,9,10] XH) (.ai [2,3,4,8,9,10] XI))) (.ai [2,3,4,8,9,10] XJ))))
def XK :=[qm 36 4,qm 4 36]
def GX:bP:=IG [(6,[4]),(5,[2,3,4,8,9,10]),(4,[2,3,4,8,9,10]),(3,[2,3,4,5,6,8,9,10]),(2,[2,3,4,8,9,10,11]),(1,[2,3,4,8,9,10]),(0,[2,3,4])] [(0,[2,3,4,8,9,10])]
def rB:Abs.Fn:=⟨2,[.t 4],
 (.seq (.ai [2,3,4] XE) (.seq (.seq (.ai [2,3,4,8,9,10] XF) (.bD 0 (.loop [2,3,4,8,9,10] false nP))) (.seq (.ai [4] XK) .ret)))⟩
attribute [simp] XE XF XG XH XI XJ XK
def XL :=[qx 1 0,qb 2 false]
def XM :=[qf 4 0 1,qa 5 4 4,qc 6 jv [5],qn 7 .neq 6 0,qm 8 7,qg 8 false (qf 9 0 1),qg 8 false (qf 10 3 9),qg 8 false (ql 11 1 10),qg 8 false (qn 12 .lss 11 4),qP 13 8 12,qm 14 13,qg 14 false (qf 15 4 1),qg 14 false (ql 16 1 15),qg 14 false (qc 17 jF [16]),qg 14 false (qn 18 .neq 17 0),qP 19 14 18,qm 20 19,qg 20 false (qf 21 5 1),qg 20 false (ql 22 1 21),qg 20 false (qo 23 (.call false (.c (.fn cp [] [])) [(.t 22),(.c (.int .i64 1)),(.c (.int .i64 100000))])),qg 20 false (qu 24 23),qP 25 20 24,qm 26 25,qg 26 false (qf 27 6 1),qg 26 false (ql 28 1 27),qg 26 false (qo 29 (.call false (.c (.fn cp [] [])) [(.t 28),(.c zI),(.c (.int .i64 1000))])),qg 26 false (qu 30 29),qP 31 26 30,qm 32 31,qg 32 false (qf 33 7 1),qg 32 false (ql 34 1 33),qg 32 false (qo 35 (.call false (.c (.fn cp [] [])) [(.t 34),(.c zI),(.c (.int .i64 3000))])),qg 32 false (qu 36 35),qP 37 32 36,qm 38 37,qg 38 false (qf 39 8 1),qg 38 false (ql 40 1 39),qg 38 false (qe 41 40),qg 38 false (qn 42 .gtr 41 8),qP 43 38 42]
def XN :=[qb 2 false]
def XO :=[qa 44 9 1,qc 45 dp [44],qo 46 (.mks 1 1 [(.bool false)] (.t 45) (.t 45)),qo 3 (.K5 [] [.aG]),qt 1 3 46]
def XP :=[qf 47 8 1,ql 48 1 47,qo 49 (.yF fC [] [(.t 3)]),qc 50 j6 [48,49],qm 2 50]
def G7:bP:=NA [(4,[2]),(3,[1,3]),(2,[2]),(1,[1,43]),(0,[1])] [] [] [3]
def rH:Abs.Fn:=⟨1,[.t 2],
 (.seq (.ai [1] XL) (.seq (.seq (.ai [1,43] XM) (.ite (.t 43) (.seq (.ai [2] XN) .ret) .cI)) (.seq (.ai [1,3] XO) (.seq (.ai [2] XP) .ret))))⟩
attribute [simp] XL XM XN XO XP
def XQ :=[qb 6 false]
def XR :=[qm 7 1,qm 8 0,qk 9 .leq 7 8,qm 10 9,qg 10 true (qm 11 0),qg 10 true (qm 12 2),qg 10 true (qk 13 .leq 11 12),qp 14 10 13,qm 6 14]
def K3:bP:=iL [(1,[6]),(0,[0,1,2])]
def vv:Abs.Fn:=⟨3,[.t 6],
 (.seq (.ai [0,1,2] XQ) (.seq (.ai [6] XR) .ret))⟩
attribute [simp] XQ XR
def XS :=[qx 2 0,qx 3 1,qi 4 0]
def XT :=[qa 5 4 2,qo 6 (.yF cQ [(.t 5)] []),qo 7 (.yF gv [] [(.t 2),(.t 3)]),qo 8 (.uH 2 1 [.iS,.iS] [(0,1,(.t 6)),(1,1,(.t 7))]),qc 9 nD [8],qm 4 9]
def DF:bP:=iL [(1,[4]),(0,[2,3])]
def nL:Abs.Fn:=⟨2,[.t 4],
 (.seq (.ai [2,3] XS) (.seq (.ai [4] XT) .ret))⟩
attribute [simp] XS XT
def aqw :=[qx 3 1,qb 4 false]
def aqx :=[qm 5 0,qo 6 (.yF jT [] [(.t 3)]),qc 7 eH [5,6],qu 8 7,qm 4 8]
def Aq:bP:=iL [(1,[4]),(0,[0,3])]
def tQ:Abs.Fn:=⟨2,[.t 4],
 (.seq (.ai [0,3] aqw) (.seq (.ai [4] aqx) .ret))⟩
def XU :=[qx 2 0,qb 3 false]
def XV :=[qa 4 9 1,qa 5 2 2,qo 6 (.lK [zI,zI,zI,zI,.aG,zI,zI,zI,.aG,(.str []),.aG] [(0,9,(.t 4)),(9,2,(.t 5))]),qc 7 jD [6],qm 3 7]
def JE:bP:=iL [(1,[3]),(0,[1,2])]
def tS:Abs.Fn:=⟨2,[.t 3],
 (.seq (.ai [1,2] XU) (.seq (.ai [3] XV) .ret))⟩
attribute [simp] XU XV
def XW :=[qx 1 0,qb 2 false]
def XX :=[qf 5 0 1,qf 6 0 5,qa 7 4 6,qf 8 9 1,qa 9 2 8,qo 10 (.uH 1 2 [(.str []),.aG] [(0,2,(.t 9))]),qc 11 iM [7,10],qn 12 .neq 11 0]
def XY :=[qb 2 false]
def XZ :=[qo 13 (.lK [zI,zI] [(0,1,(.c (.int .i64 1000))),(1,1,(.c (.int .i64 100000)))]),qo 14 (.lK [zI,zI] [(0,1,(.c zI)),(1,1,(.c (.int .i64 1000)))]),qo 15 (.lK [zI,zI] [(0,1,(.c zI)),(1,1,(.c (.int .i64 3000)))]),qo 16 (.lK [zI,zI] [(0,1,(.c zI)),(1,1,(.c (.int .i64 1000)))]),qo 17 (.lK [zI,zI,zI,zI,zI,zI,zI,zI] [(0,2,(.t 13)),(2,2,(.t 14)),(4,2,(.t 15)),(6,2,(.t 16))]),qi 18 0]
def X0 :=[qn 19 .lss 18 4]
def X2 :=[qm 20 18,qo 21 (.MZ true 4 2 (.t 17) (.t 18)),qo 4 (.K5 [] [zI,zI]),qm 3 20,qt 2 4 21]
def X3 :=[qa 22 11 1,qm 23 3,qc 24 ep [22,23],qo 25 (.yF ed [] [(.t 4)]),qc 26 j5 [24,25],qu 27 26]
def X4 :=[qb 2 false]
def X5 :=[qn 28 .add 18 1,qm 18 28]
def mq:Abs.cX :=
 (.seq (.ai [1,17,18,19] X0) (.seq (.ite (.t 19) .cI (.exit 0)) (.seq (.bD 1 (.seq (.ai [1,3,4,17,18] X2) (.seq (.ai [1,17,18,27] X3) (.ite (.t 27) (.seq (.ai [2] X4) .ret) .cI)))) (.ai [1,17,18] X5))))
def RD :=[qb 2 true]
def EW:bP:=NA [(9,[2]),(8,[1,17,18]),(7,[2]),(6,[1,17,18,27]),(5,[1,3,4,17,18]),(4,[1,17,18,19]),(3,[1,17,18]),(2,[2]),(1,[1,12]),(0,[1])] [(0,[1,17,18])] [0] [4]
def oX:Abs.Fn:=⟨1,[.t 2],
 (.seq (.ai [1] XW) (.seq (.seq (.ai [1,12] XX) (.ite (.t 12) (.seq (.ai [2] XY) .ret) .cI)) (.seq (.seq (.ai [1,17,18] XZ) (.bD 0 (.loop [1,17,18] true mq))) (.seq (.ai [2] RD) .ret))))⟩
attribute [simp] XW XX XY XZ X0 X2 X3 X4 X5 RD
def X6 :=[qx 1 0,qi 2 0]
def X7 :=[qf 3 0 1,qf 4 0 3,ql 5 1 4,qf 6 0 1,qf 7 1 6,ql 8 1 7,qk 9 .mul 5 8,qf 10 0 1,qf 11 2 10,ql 12 1 11,qk 13 .mul 9 12,qm 2 13]
def IC:bP:=iL [(1,[2]),(0,[1])]
def sG:Abs.Fn:=⟨1,[.t 2],
 (.seq (.ai [1] X6) (.seq (.ai [2] X7) .ret))⟩
attribute [simp] X6 X7
def X8 :=[qx 3 0,qi 6 0]
def X9 :=[qA 10 11 3,qM 11 2,qC 12 fE [10,11],qF 13 0 3,qF 14 5 13,qL 15 1 14,qM 16 1,qM 17 2,qJ 18 3 16 17,qF 19 0 18,qL 20 1 19,qA 21 11 3,qM 22 2,qC 23 fD [21,22],qK 24 .sub 20 23,qK 25 .mul 15 24,qA 26 11 3,qM 27 2,qC 28 fD [26,27],qc 29 vQ [25,28],qk 30 .add 12 29,qo 31 (.mx (.c zI) (.t 30)),qm 7 31]
def Ya :=[qf 32 0 3,qf 33 4 32,ql 34 1 33,qe 35 34,qi 36 0]
def Yb :=[qk 37 .lss 36 35]
def Yc :=[qj 38 5 34 36,qa 39 5 38,qo 9 (.eJ [] [zI,zI,zI,zI,zI]),qs 9 5 9 39]
def Yd :=[qF 40 2 9,qV 41 9 1 40,qM 42 1,qM 43 2,qJ 44 3 42 43,qF 45 0 44,qL 46 1 45,qK 47 .mul 41 46,qM 48 1,qM 49 2,qJ 50 3 48 49,qF 51 1 50,qL 52 1 51,qk 53 .leq 47 52]
def Ye :=[qm 54 7,qf 55 1 9,qv 56 9 1 55,qo 57 (.mx (.t 54) (.t 56)),qm 7 57]
def Yf :=[qn 58 .add 36 1,qm 36 58]
def jb:Abs.cX :=
 (.seq (.ai [1,2,7,34,35,36,37] Yb) (.seq (.ite (.t 37) .cI (.exit 0)) (.seq (.bD 1 (.seq (.ai [1,2,7,9,34,35,36] Yc) (.seq (.ai [1,2,7,9,34,35,36,53] Yd) (.ite (.t 53) (.ai [1,2,7,34,35,36] Ye) .cI)))) (.ai [1,2,7,34,35,36] Yf))))
def Yg :=[qm 59 7,qm 6 59]
def As:bP:=Fp [(8,[6]),(7,[1,2,7,34,35,36]),(6,[1,2,7,34,35,36]),(5,[1,2,7,9,34,35,36,53]),(4,[1,2,7,9,34,35,36]),(3,[1,2,7,34,35,36,37]),(2,[1,2,7,34,35,36]),(1,[1,2,3,7]),(0,[1,2,3])] [(0,[1,2,7,34,35,36])] [] [9] [9] [] []
def lk:Abs.Fn:=⟨3,[.t 6],
 (.seq (.ai [1,2,3] X8) (.seq (.ai [1,2,3,7] X9) (.seq (.seq (.ai [1,2,7,34,35,36] Ya) (.bD 0 (.loop [1,2,7,34,35,36] false jb))) (.seq (.ai [6] Yg) .ret))))⟩
attribute [simp] X8 X9 Ya Yb Yc Yd Ye Yf Yg
def Yh :=[qo 0 (.eJ [] [.iS,.iS,.iS,.iS,.iS])]
def Yi :=[qo 1 (.lK [.iS,.iS,.iS,.iS,.iS] [(2,1,(.c (.fn kn [] []))),(3,1,(.c (.fn iP [] []))),(4,1,(.c (.fn jB [] [])))]),qs 0 5 0 1]
def ME:bP:=Fp [(1,[0]),(0,[0])] [] [] [0] [0] [] []
def wR:Abs.Fn:=⟨0,[.v 0 true 5],
 (.seq (.ai [0] Yh) (.seq (.ai [0] Yi) .ret))⟩
attribute [simp] Yh Yi
def aqy :=[qb 4 false]
def aqz :=[qm 5 0,qm 6 1,qc 7 dW [5,6],qn 8 .geq 7 0,qm 4 8]
def tu:bP:=iL [(1,[4]),(0,[0,1])]
def ie:Abs.Fn:=⟨2,[.t 4],
 (.seq (.ai [0,1] aqy) (.seq (.ai [4] aqz) .ret))⟩
def aqA :=[qx 2 0,qb 3 false]
def aqB :=[ql 4 1 1,qa 5 10 2,qo 6 (.call false (.t 4) [(.t 5)]),qu 7 6,qm 3 7]
def xl:bP:=iL [(1,[3]),(0,[1,2])]
def lR:Abs.Fn:=⟨2,[.t 3],
 (.seq (.ai [1,2] aqA) (.seq (.ai [3] aqB) .ret))⟩
def Yj :=[qx 2 0,qx 3 1,qb 4 false]
def Yk :=[qa 5 3 2,qc 6 fG [5],qm 7 6,qg 7 true (qa 8 3 3),qg 7 true (qc 9 fG [8]),qp 10 7 9,qm 11 10,qg 11 true (qf 12 0 2),qg 11 true (ql 13 1 12),qg 11 true (qf 14 0 3),qg 11 true (ql 15 1 14),qg 11 true (qk 16 .leq 13 15),qp 17 11 16,qm 18 17,qg 18 true (qf 19 1 2),qg 18 true (ql 20 1 19),qg 18 true (qf 21 1 3),qg 18 true (ql 22 1 21),qg 18 true (qk 23 .leq 20 22),qp 24 18 23,qm 25 24,qg 25 true (qf 26 2 2),qg 25 true (ql 27 1 26),qg 25 true (qf 28 2 3),qg 25 true (ql 29 1 28),qg 25 true (qk 30 .leq 27 29),qp 31 25 30,qm 4 31]
def MF:bP:=iL [(1,[4]),(0,[2,3])]
def wT:Abs.Fn:=⟨2,[.t 4],
 (.seq (.ai [2,3] Yj) (.seq (.ai [4] Yk) .ret))⟩
attribute [simp] Yj Yk
def aqC :=[qb 4 false]
def aqD :=[qm 5 0,qm 6 1,qc 7 dH [5,6],qn 8 .geq 7 0,qm 4 8]
def sM:bP:=iL [(1,[4]),(0,[0,1])]
def gO:Abs.Fn:=⟨2,[.t 4],
 (.seq (.ai [0,1] aqC) (.seq (.ai [4] aqD) .ret))⟩
def aqE :=[qx 2 0,qb 3 false]
def aqF :=[ql 4 1 1,qa 5 2 2,qo 6 (.call false (.t 4) [(.t 5)]),qu 7 6,qm 3 7]
def wM:bP:=iL [(1,[3]),(0,[1,2])]
def lu:Abs.Fn:=⟨2,[.t 3],
 (.seq (.ai [1,2] aqE) (.seq (.ai [3] aqF) .ret))⟩
def Yl :=[qx 1 0,qb 2 false]
def Ym :=[qf 3 0 1,qa 4 3 3,qc 5 fG [4],qm 6 5,qg 6 true (qf 7 3 1),qg 6 true (ql 8 1 7),qg 6 true (qo 9 (.call false (.c (.fn cn [] [])) [(.t 8),(.c zI),(.c (.int .i64 160))])),qp 10 6 9,qm 2 10]
def Av:bP:=iL [(1,[2]),(0,[1])]
def lq:Abs.Fn:=⟨1,[.t 2],
 (.seq (.ai [1] Yl) (.seq (.ai [2] Ym) .ret))⟩
attribute [simp] Yl Ym
def Yn :=[qx 1 0,qb 2 false]
def Yo :=[qf 3 0 1,ql 4 1 3,qf 5 1 1,ql 6 1 5,qf 7 2 1,ql 8 1 7,qo 9 (.uH 3 1 [zI,zI,zI] [(0,1,(.t 4)),(1,1,(.t 6)),(2,1,(.t 8))]),qo 10 (.call false (.c (.fn gZ [] [])) [(.t 9),(.c (.fn ez [] []))]),qm 2 10]
def Cn:bP:=iL [(1,[2]),(0,[1])]
def ng:Abs.Fn:=⟨1,[.t 2],
 (.seq (.ai [1] Yn) (.seq (.ai [2] Yo) .ret))⟩
attribute [simp] Yn Yo
def aqG :=[qi 4 0]
def aqH :=[qm 6 0,qe 7 6,qi 8 0]
def aqI :=[qk 9 .lss 8 7]
def aqJ :=[qm 10 8,qm 5 10]
def aqK :=[qm 11 1,qm 12 0,qm 13 5,qj 14 4 12 13,qa 15 4 14,qo 16 (.call false (.t 11) [(.t 15)])]
def aqL :=[qm 17 5,qm 4 17]
def aqM :=[qn 18 .add 8 1,qm 8 18]
def tA:Abs.cX :=
 (.seq (.ai [0,1,7,8,9] aqI) (.seq (.ite (.t 9) .cI (.exit 0)) (.seq (.bD 1 (.seq (.ai [0,1,5,7,8] aqJ) (.seq (.ai [0,1,5,7,8,16] aqK) (.ite (.t 16) (.seq (.ai [4] aqL) .ret) .cI)))) (.ai [0,1,7,8] aqM))))
def aqN :=[qi 4 (-1)]
def uU:bP:=IG [(7,[4]),(6,[0,1,7,8]),(5,[4]),(4,[0,1,5,7,8,16]),(3,[0,1,5,7,8]),(2,[0,1,7,8,9]),(1,[0,1,7,8]),(0,[0,1])] [(0,[0,1,7,8])]
def jt:Abs.Fn:=⟨2,[.t 4],
 (.seq (.ai [0,1] aqG) (.seq (.seq (.ai [0,1,7,8] aqH) (.bD 0 (.loop [0,1,7,8] false tA))) (.seq (.ai [4] aqN) .ret)))⟩
def aqO :=[qx 2 0,qb 3 false]
def aqP :=[ql 4 1 1,qa 5 4 2,qo 6 (.call false (.t 4) [(.t 5)]),qu 7 6,qm 3 7]
def xm:bP:=iL [(1,[3]),(0,[1,2])]
def lS:Abs.Fn:=⟨2,[.t 3],
 (.seq (.ai [1,2] aqO) (.seq (.ai [3] aqP) .ret))⟩
def Yp :=[qx 2 0,qi 4 0]
def Yq :=[qm 6 1,qe 7 6,qf 8 8 2,ql 9 1 8,qe 10 9,qk 11 .neq 7 10,qm 5 11]
def Yr :=[qi 4 1]
def Yt :=[qm 13 1,qo 14 (.call false (.c (.fn j5 [] [])) [(.t 13),(.c (.fn jy [] []))]),qu 15 14,qm 12 15]
def Yu :=[qi 4 2]
def Yw :=[qi 4 0]
def G6:bP:=iL [(5,[4]),(2,[4]),(4,[4]),(3,[12]),(1,[1,5]),(0,[1,2])]
def rG:Abs.Fn:=⟨2,[.t 4],
 (.seq (.ai [1,2] Yp) (.seq (.bD 0 (.seq (.ai [1,5] Yq) (.ite (.t 5) (.seq (.ai [4] Yr) .ret) (.seq (.ai [12] Yt) (.ite (.t 12) (.seq (.ai [4] Yu) .ret) .cI))))) (.seq (.ai [4] Yw) .ret)))⟩
attribute [simp] Yp Yq Yr Yt Yu Yw
def Yx :=[qx 1 0,qo 2 (.pB 3)]
def Yy :=[qf 4 0 1,qa 5 9 4,qc 6 dp [5],qi 7 0]
def Yz :=[qk 8 .lss 7 6]
def YA :=[qm 9 7,qm 3 9]
def YB :=[qM 10 2,qA 11 11 1,qM 12 3,qC 13 fD [11,12],qA 14 11 1,qM 15 3,qC 16 fD [14,15],qA 17 11 1,qM 18 3,qC 19 l4 [17,18],qK 20 .mul 16 19,qO 21 (.lK [zI,zI,zI] [(0,1,(.t 13)),(1,1,(.t 20))]),qO 22 (.uH 1 3 [zI,zI,zI] [(0,3,(.t 21))]),qy 23 3 24 10 22,qm 2 23]
def YC :=[qn 24 .add 7 1,qm 7 24]
def lj:Abs.cX :=
 (.seq (.ai [1,2,6,7,8] Yz) (.seq (.ite (.t 8) .cI (.exit 0)) (.seq (.bD 1 (.seq (.ai [1,2,3,6,7] YA) (.ai [1,2,6,7] YB))) (.ai [1,2,6,7] YC))))
def YD :=[qm 25 2,qm 2 25]
def DU:bP:=NA [(6,[2]),(5,[1,2,6,7]),(4,[1,2,6,7]),(3,[1,2,3,6,7]),(2,[1,2,6,7,8]),(1,[1,2,6,7]),(0,[1,2])] [(0,[1,2,6,7])] [] [2]
def nV:Abs.Fn:=⟨1,[.t 2],
 (.seq (.ai [1,2] Yx) (.seq (.seq (.ai [1,2,6,7] Yy) (.bD 0 (.loop [1,2,6,7] false lj))) (.seq (.ai [2] YD) .ret)))⟩
attribute [simp] Yx Yy Yz YA YB YC YD
def YE :=[qx 3 0,qo 6 (.mv (.c .aG)),qo 7 (.mv (.c .aG)),qi 8 0]
def YF :=[qm 18 1,qo 19 (.call true (.c (.fn cS [] [])) [(.t 18)]),qm 9 19]
def YG :=[qa 20 11 3,qm 21 1,qo 22 (.call true (.c (.fn kQ [] [])) [(.t 20),(.t 21)]),qo 23 (.mp (.rng) [(.t 22)])]
def YH :=[qo 26 (.mp (.ent) [(.t 23)]),qz 27 26 0,qz 28 26 1,qo 10 (.eJ [] [zI,zI]),qo 11 (.eJ [] [zI,zI,zI]),qs 10 2 10 27,qs 11 3 11 28]
def YI :=[qM 29 9,qF 30 0 10,qV 31 10 1 30,qJ 32 3 29 31,qW 33 11 3 11,qo 34 (.call false (.c (.fn ck [] [])) [(.t 32),(.t 33),(.c (.int .i64 (-1)))])]
def YJ :=[qM 35 9,qF 36 1 10,qV 37 10 1 36,qJ 38 3 35 37,qW 39 11 3 11,qo 40 (.call false (.c (.fn ck [] [])) [(.t 38),(.t 39),(.c (.int .i64 1))])]
def mu:Abs.cX :=
 (.seq (.ite (.t 25) .cI (.exit 0)) (.bD 1 (.seq (.ai [1,2,3,9,10,11,23] YH) (.seq (.ai [1,2,3,9,10,11,23] YI) (.ai [1,2,3,9,23] YJ)))))
def YK :=[qo 12 (.pB 3)]
def YL :=[qm 41 2,qe 42 41,qi 43 0]
def YM :=[qk 44 .lss 43 42]
def RE :=[qm 45 43,qj 46 1 41 43,ql 47 1 46,qm 13 45,qm 14 47]
def RF :=[qf 48 0 3,qf 49 8 48,ql 50 1 49,qm 51 13,qj 52 3 50 51,qf 53 0 52,ql 54 1 53,qm 15 54]
def RG :=[qo 16 (.eJ [] [zI,zI,zI])]
def RH :=[qm 55 14,qn 56 .lss 55 0]
def RI :=[qM 57 9,qM 58 15,qJ 59 3 57 58,qF 60 0 3,qF 61 8 60,qL 62 1 61,qM 63 13,qJ 64 3 62 63,qA 65 3 64,qM 66 14,qC 67 nq [65,66],qo 68 (.call false (.c (.fn ck [] [])) [(.t 59),(.t 67),(.c (.int .i64 1))])]
def RJ :=[qM 69 1,qM 70 15,qJ 71 3 69 70,qA 72 3 71,qM 73 14,qM 74 1,qM 75 15,qJ 76 3 74 75,qF 77 0 76,qL 78 1 77,qN 79 .quo 78 8,qO 80 (.mn (.t 73) (.t 79)),qc 81 lJ [72,80],qs 16 3 16 81]
def RL :=[qM 82 9,qM 83 15,qJ 84 3 82 83,qW 85 16 3 16,qo 86 (.call false (.c (.fn ck [] [])) [(.t 84),(.t 85),(.c (.int .i64 (-1)))])]
def RM :=[qm 87 12,qw 88 16 3 16,qo 89 (.uH 1 3 [zI,zI,zI] [(0,3,(.t 88))]),qy 90 3 24 87 89,qm 12 90]
def RN :=[qn 91 .add 43 1,qm 43 91]
def ll:Abs.cX :=
 (.seq (.ai [1,3,9,12,41,42,43,44] YM) (.seq (.ite (.t 44) .cI (.exit 2)) (.seq (.bD 3 (.seq (.ai [1,3,9,12,13,14,41,42,43] RE) (.seq (.ai [1,3,9,12,13,14,15,41,42,43] RF) (.seq (.ai [1,3,9,12,13,14,15,16,41,42,43] RG) (.seq (.seq (.ai [1,3,9,12,13,14,15,16,41,42,43,56] RH) (.ite (.t 56) (.ai [1,3,9,12,16,41,42,43] RI) (.seq (.ai [1,3,9,12,15,16,41,42,43] RJ) (.ai [1,3,9,12,16,41,42,43] RL)))) (.ai [1,3,9,12,41,42,43] RM)))))) (.ai [1,3,9,12,41,42,43] RN))))
def RO :=[qm 92 9,qe 93 92,qi 94 0]
def RP :=[qk 95 .lss 94 93]
def RQ :=[qm 96 94,qm 17 96]
def RR :=[qM 97 9,qM 98 17,qJ 99 3 97 98,qA 100 11 3,qM 101 17,qC 102 nu [100,101],qo 103 (.call false (.c (.fn ck [] [])) [(.t 99),(.t 102),(.c (.int .i64 1))])]
def RS :=[qn 104 .add 94 1,qm 94 104]
def ln:Abs.cX :=
 (.seq (.ai [3,9,12,93,94,95] RP) (.seq (.ite (.t 95) .cI (.exit 4)) (.seq (.bD 5 (.seq (.ai [3,9,12,17,93,94] RQ) (.ai [3,9,12,93,94] RR))) (.ai [3,9,12,93,94] RS))))
def RT :=[qa 105 11 3,qm 106 9,qc 107 kR [105,106],qu 108 107]
def RU :=[qo 6 (.mv (.c .aG)),qo 7 (.mv (.c .aG)),qi 8 9]
def RV :=[qm 109 9,qm 110 12,qm 6 109,qm 7 110,qi 8 0]
def ix:Abs.cX :=
 (.seq (.ai [1,2,3,9,12] YK) (.seq (.seq (.ai [1,3,9,12,41,42,43] YL) (.bD 2 (.loop [1,3,9,12,41,42,43] false ll))) (.seq (.seq (.ai [3,9,12,93,94] RO) (.bD 4 (.loop [3,9,12,93,94] false ln))) (.seq (.seq (.ai [9,12,108] RT) (.ite (.t 108) (.seq (.ai [6,7,8] RU) .ret) .cI)) (.seq (.ai [6,7,8] RV) .ret)))))
def E0:bP:=Fp [(26,[6,7,8]),(25,[6,7,8]),(24,[9,12,108]),(23,[3,9,12,93,94]),(22,[3,9,12,93,94]),(21,[3,9,12,17,93,94]),(20,[3,9,12,93,94,95]),(19,[3,9,12,93,94]),(18,[1,3,9,12,41,42,43]),(17,[1,3,9,12,41,42,43]),(14,[1,3,9,12,16,41,42,43]),(16,[1,3,9,12,16,41,42,43]),(15,[1,3,9,12,15,16,41,42,43]),(13,[1,3,9,12,13,14,15,16,41,42,43,56]),(12,[1,3,9,12,13,14,15,16,41,42,43]),(11,[1,3,9,12,13,14,15,41,42,43]),(10,[1,3,9,12,13,14,41,42,43]),(9,[1,3,9,12,41,42,43,44]),(8,[1,3,9,12,41,42,43]),(7,[1,2,3,9,12]),(6,[1,2,3,9,23]),(5,[1,2,3,9,10,11,23]),(4,[1,2,3,9,10,11,23]),(3,[1,2,3,9,23,25]),(2,[1,2,3,9,23]),(1,[1,2,3,9]),(0,[1,2,3])] [(4,[3,9,12,93,94]),(2,[1,3,9,12,41,42,43]),(0,[1,2,3,9,23])] [] [10,11,12,16] [10,11,16] [] [2002,1001]
def o5:Abs.Fn:=⟨3,[.t 6,.t 7,.t 8],
 (.seq (.ai [1,2,3] YE) (.seq (.ai [1,2,3,9] YF) (.seq (.ai [1,2,3,9,23] YG) (.jJ [1,2,3,9,23] (.t 23) 24 25 0 mu ix))))⟩
attribute [simp] YE YF YG YH YI YJ YK YL YM RE RF RG RH RI RJ RL RM RN RO RP RQ RR RS RT RU RV
def YN :=[qb 6 false]
def YO :=[qm 7 1,qm 8 0,qk 9 .leq 7 8,qm 10 9,qg 10 true (qm 11 0),qg 10 true (qm 12 2),qg 10 true (qk 13 .leq 11 12),qp 14 10 13,qm 6 14]
def JF:bP:=iL [(1,[6]),(0,[0,1,2])]
def tW:Abs.Fn:=⟨3,[.t 6],
 (.seq (.ai [0,1,2] YN) (.seq (.ai [6] YO) .ret))⟩
attribute [simp] YN YO
def aqQ :=[qx 3 1,qb 4 false]
def aqR :=[qm 5 0,qo 6 (.yF ku [] [(.t 3)]),qc 7 fk [5,6],qu 8 7,qm 4 8]
def BH:bP:=iL [(1,[4]),(0,[0,3])]
def uL:Abs.Fn:=⟨2,[.t 4],
 (.seq (.ai [0,3] aqQ) (.seq (.ai [4] aqR) .ret))⟩
def YP :=[qx 1 0,qb 2 false]
def YQ :=[qf 3 0 1,ql 4 1 3,qo 5 (.call false (.c (.fn du [] [])) [(.t 4),(.c zI),(.c (.int .i64 400))]),qm 6 5,qg 6 true (qf 7 1 1),qg 6 true (ql 8 1 7),qg 6 true (qo 9 (.call false (.c (.fn du [] [])) [(.t 8),(.c (.int .i64 1)),(.c (.int .i64 10000))])),qp 10 6 9,qm 11 10,qg 11 true (qf 12 2 1),qg 11 true (ql 13 1 12),qg 11 true (qo 14 (.call false (.c (.fn du [] [])) [(.t 13),(.c zI),(.c (.int .i64 4000))])),qp 15 11 14,qm 16 15,qg 16 true (qf 17 4 1),qg 16 true (ql 18 1 17),qg 16 true (qo 19 (.call false (.c (.fn du [] [])) [(.t 18),(.c zI),(.c (.int .i64 2000))])),qp 20 16 19,qm 21 20,qg 21 true (qf 22 2 1),qg 21 true (ql 23 1 22),qg 21 true (qf 24 3 1),qg 21 true (ql 25 1 24),qg 21 true (qk 26 .lss 23 25),qp 27 21 26,qm 28 27,qg 28 true (qf 29 3 1),qg 28 true (ql 30 1 29),qg 28 true (qn 31 .leq 30 4000),qp 32 28 31,qm 2 32]
def FZ:bP:=iL [(1,[2]),(0,[1])]
def qq:Abs.Fn:=⟨1,[.t 2],
 (.seq (.ai [1] YP) (.seq (.ai [2] YQ) .ret))⟩
attribute [simp] YP YQ
def YR :=[qx 2 0,qx 3 1,qi 4 0]
def YS :=[qf 6 1 3,ql 7 1 6,qf 8 0 3,ql 9 1 8,qf 10 0 2,qf 11 2 10,ql 12 1 11,qk 13 .mul 9 12,qk 14 .sub 7 13,qm 5 14]
def YT :=[qm 16 5,qn 17 .leq 16 0,qm 15 17]
def YU :=[qi 4 0]
def YV :=[qf 19 1 3,ql 20 1 19,qf 21 0 3,ql 22 1 21,qf 23 0 2,qf 24 3 23,ql 25 1 24,qk 26 .mul 22 25,qk 27 .geq 20 26,qm 18 27]
def YW :=[qf 28 0 3,ql 29 1 28,qm 4 29]
def YX :=[qm 30 5,qf 31 0 2,qf 32 3 31,ql 33 1 32,qf 34 0 2,qf 35 2 34,ql 36 1 35,qk 37 .sub 33 36,qk 38 .quo 30 37,qm 4 38]
def D0:bP:=iL [(6,[4]),(3,[4]),(5,[4]),(4,[2,3,5,18]),(2,[2,3,5,15]),(1,[2,3,5]),(0,[2,3])]
def oc:Abs.Fn:=⟨2,[.t 4],
 (.seq (.ai [2,3] YR) (.seq (.ai [2,3,5] YS) (.seq (.bD 0 (.seq (.ai [2,3,5,15] YT) (.ite (.t 15) (.seq (.ai [4] YU) .ret) (.seq (.ai [2,3,5,18] YV) (.ite (.t 18) (.seq (.ai [4] YW) .ret) .cI))))) (.seq (.ai [4] YX) .ret))))⟩
attribute [simp] YR YS YT YU YV YW YX
def YY :=[qb 6 false]
def YZ :=[qm 7 1,qm 8 0,qk 9 .leq 7 8,qm 10 9,qg 10 true (qm 11 0),qg 10 true (qm 12 2),qg 10 true (qk 13 .leq 11 12),qp 14 10 13,qm 6 14]
def JB:bP:=iL [(1,[6]),(0,[0,1,2])]
def tO:Abs.Fn:=⟨3,[.t 6],
 (.seq (.ai [0,1,2] YY) (.seq (.ai [6] YZ) .ret))⟩
attribute [simp] YY YZ
def aqS :=[qx 3 1,qb 4 false]
def aqT :=[qm 5 0,qo 6 (.yF jR [] [(.t 3)]),qc 7 eV [5,6],qu 8 7,qm 4 8]
def Ap:bP:=iL [(1,[4]),(0,[0,3])]
def tN:Abs.Fn:=⟨2,[.t 4],
 (.seq (.ai [0,3] aqS) (.seq (.ai [4] aqT) .ret))⟩
def Y0 :=[qx 2 0,qb 3 false]
def Y2 :=[qf 5 1 2,ql 6 1 5,ql 7 1 1,qo 8 (.call false (.c (.fn j4 [] [])) [(.t 6),(.c zI),(.t 7)]),qm 4 8]
def Y3 :=[qf 9 1 2,ql 10 1 9,qt 1 1 10]
def Y4 :=[qm 11 4,qm 12 11,qg 12 true (qf 13 0 2),qg 12 true (ql 14 1 13),qg 12 true (qo 15 (.call false (.c (.fn j4 [] [])) [(.t 14),(.c (.int .i64 1)),(.c (.int .i64 100000))])),qp 16 12 15,qm 3 16]
def Cg:bP:=NA [(3,[3]),(2,[2,4]),(1,[1,2,4]),(0,[1,2])] [] [] [1]
def mV:Abs.Fn:=⟨2,[.t 3],
 (.seq (.ai [1,2] Y0) (.seq (.ai [1,2,4] Y2) (.seq (.ai [2,4] Y3) (.seq (.ai [3] Y4) .ret))))⟩
attribute [simp] Y0 Y2 Y3 Y4
def aqU :=[qx 3 1,qb 4 false]
def aqV :=[qm 5 0,qo 6 (.yF iC [] [(.t 3)]),qc 7 eu [5,6],qu 8 7,qm 4 8]
def zb:bP:=iL [(1,[4]),(0,[0,3])]
def sf:Abs.Fn:=⟨2,[.t 4],
 (.seq (.ai [0,3] aqU) (.seq (.ai [4] aqV) .ret))⟩
def Y5 :=[qx 1 0,qb 2 false]
def Y6 :=[qa 3 4 1,qc 4 kT [3],qn 5 .eql 4 0,qm 2 5]
def IA:bP:=iL [(1,[2]),(0,[1])]
def sE:Abs.Fn:=⟨1,[.t 2],
 (.seq (.ai [1] Y5) (.seq (.ai [2] Y6) .ret))⟩
attribute [simp] Y5 Y6
def Y7 :=[qx 1 0,qi 2 0]
def Y8 :=[qa 3 4 1,qc 4 gY [3],qu 5 4]
def Y9 :=[qi 2 1]
def Za :=[qi 2 0]
def DY:bP:=iL [(3,[2]),(2,[2]),(1,[5]),(0,[1])]
def n8:Abs.Fn:=⟨1,[.t 2],
 (.seq (.ai [1] Y7) (.seq (.seq (.ai [5] Y8) (.ite (.t 5) (.seq (.ai [2] Y9) .ret) .cI)) (.seq (.ai [2] Za) .ret)))⟩
attribute [simp] Y7 Y8 Y9 Za
def Zb :=[qx 2 0,qo 3 (.K7 (.t 1)),qo 4 (.mv (.c .iS))]
def Zc :=[qo 5 (.yF iO [] [(.t 2),(.t 3)]),qm 4 5]
def FR:bP:=NA [(1,[4]),(0,[2,3])] [] [] [3]
def pS:Abs.Fn:=⟨2,[.t 4],
 (.seq (.ai [2,3] Zb) (.seq (.ai [4] Zc) .ret))⟩
attribute [simp] Zb Zc
def aqW :=[qo 2 (.mv (.c .aG))]
def aqX :=[qm 7 0,qo 8 (.rl (.z8) [(.t 7)]),qo 9 (.bin .shr (.t 8) (.c (.int .u64 8))),qo 10 (.Oj .u8 (.t 9)),qm 11 0,qo 12 (.rl (.z8) [(.t 11)]),qo 13 (.Oj .u8 (.t 12)),qm 14 0,qc 15 zn [14],qm 3 10,qm 4 13,qm 5 15]
def aqY :=[qm 16 3,qm 17 4,qm 18 3,qo 19 (.un .xor (.t 18)),qm 20 4,qo 21 (.un .xor (.t 20)),qo 22 (.Oa 4 1 [(.int .u8 0),(.int .u8 0),(.int .u8 0),(.int .u8 0)] [(0,1,(.t 16)),(1,1,(.t 17)),(2,1,(.t 19)),(3,1,(.t 21))]),qm 23 0,qy 24 1 1 22 23,qm 6 24]
def aqZ :=[qm 25 6,qm 26 5,qo 27 (.bin .shr (.t 26) (.c (.int .u64 8))),qo 28 (.Oj .u8 (.t 27)),qm 29 5,qo 30 (.Oj .u8 (.t 29)),qo 31 (.uH 2 1 [(.int .u8 0),(.int .u8 0)] [(0,1,(.t 28)),(1,1,(.t 30))]),qy 32 1 1 25 31,qm 2 32]
def G3:bP:=NA [(3,[2]),(2,[5,6]),(1,[0,3,4,5]),(0,[0])] [] [] [22]
def zO:Abs.Fn:=⟨1,[.t 2],
 (.seq (.ai [0] aqW) (.seq (.ai [0,3,4,5] aqX) (.seq (.ai [5,6] aqY) (.seq (.ai [2] aqZ) .ret))))⟩
def Ze :=[qo 4 (.PD)]
def Zf :=[qo 6 (.isi false (.t 4))]
def Zg :=[qm 1 4]
def Zh :=[qo 7 (.tas 311 (some (.agg [zI])) (.t 4)),qz 8 7 1,qz 9 7 0]
def Zi :=[qo 2 (.eJ [] [zI]),qs 2 1 2 9]
def Zj :=[qf 10 0 2,qv 11 2 1 10,qt 1 0 11]
def Zk :=[qm 3 4]
def Zl :=[qm 5 3]
def Zm:List Abs.Op:=[]
def BB:bP:=⟨[(4,[]),(7,[]),(6,[0,2]),(2,[]),(1,[3]),(5,[0,4,8,9]),(3,[0,4,6]),(0,[0,4])],[],[],[0,2],[2],[],[],[],[],[],[(2,some 1)]⟩
def jh:Abs.Fn:=⟨1,[],
 (.seq (.ai [0,4] Ze) (.bD 0 (.seq (.ai [0,4,6] Zf) (.ite (.t 6) (.ai [] Zg) (.seq (.ai [0,4,8,9] Zh) (.ite (.t 8) (.seq (.ai [0,2] Zi) (.ai [] Zj)) (.seq (.ai [3] Zk) (.iT [] Zl ⟨none,none,false,.PC (.t 5)⟩ Zm))))))))⟩
attribute [simp] Ze Zf Zg Zh Zi Zj Zk Zl Zm
def tF1:List (Nat×bP×Abs.Fn):=[(tg,N5,vJ),(nr,FV,pY),(kS,DX,nY),(dE,zf,nA),(eN,D1,od),(dj,xZ,mG),(ef,Cm,nf),(cn,IF,sJ),(cr,Co,nh),(bT,tv,ig),(eM,zg,nB),(sT,P3,xz),(mL,IB,sF),(iE,FY,mX),(iR,DZ,n9),(nv,F0,qB),(gY,Cl,nd),(ov,Hc,rL),(ow,He,rM),(jw,EN,oM),(sn,KY,vp),(jk,BE,mi),(lW,EM,oL),(tY,FP,yr),(aM,DL,nR),(eD,vZ,po),(iA,FO,pQ),(kP,DI,nO),(pH,KS,vm),(dr,B7,mQ),(pw,Iw,Bc),(gz,Bw,l9),(dU,Jv,tJ),(lT,EH,oJ),(lU,EI,oK),(lH,GX,rB),(jz,G7,rH),(cp,K3,vv),(iM,DF,nL),(iD,Aq,tQ),(oq,JE,tS),(jD,EW,oX),(dp,IC,sG),(fO,As,lk),(ub,ME,wR),(dh,tu,ie),(fH,xl,lR),(uc,MF,wT),(cZ,sM,gO),(eZ,wM,lu),(fS,Av,lq),(fG,Cn,ng),(fR,uU,jt),(iG,xm,lS),(om,G6,rG),(iQ,DU,nV),(lZ,E0,o5),(du,JF,tW),(jl,BH,uL),(kr,FZ,qq),(kU,D0,oc),(j4,JB,tO),(iB,Ap,tN),(ec,Cg,mV),(jS,zb,sf),(mK,IA,sE),(kT,DY,n8),(nk,FR,pS),(vd,G3,zO),(da,BB,jh)]
theorem kF1:(tF1.map fun p=>chk p)=tF1.map fun p=>some p.2.2:=by kernel_rfl
end Go.Proofs.YtfgljaglidhjiaaGreatDoor
