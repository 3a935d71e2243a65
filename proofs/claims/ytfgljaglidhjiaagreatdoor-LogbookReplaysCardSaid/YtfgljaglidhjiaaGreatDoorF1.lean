import Derived.Test.YtfgljaglidhjiaaGreatDoorIds
set_option linter.all false
set_option maxRecDepth 100000
namespace Go.Proofs.YtfgljaglidhjiaaGreatDoor
open Go Go.Abs
def ans :=[qx 1 0,qb 2 false]
def ant :=[qf 3 0 1,qa 4 3 3,qf 5 3 1,qa 6 3 5,qc 7 vm [4,6],qm 8 7,qg 8 true (qf 9 6 1),qg 8 true (ql 10 1 9),qg 8 true (qo 11 (.call false (.c (.fn cq [] [])) [(.t 10),(.c zI),(.c (.int .i64 160))])),qp 12 8 11,qm 13 12,qg 13 true (qf 14 7 1),qg 13 true (ql 15 1 14),qg 13 true (qo 16 (.call false (.c (.fn cq [] [])) [(.t 15),(.c (.int .i64 1)),(.c (.int .i64 1000000))])),qp 17 13 16,qm 18 17,qg 18 true (qf 19 8 1),qg 18 true (ql 20 1 19),qg 18 true (qo 21 (.call false (.c (.fn cq [] [])) [(.t 20),(.c (.int .i64 1)),(.c (.int .i64 200))])),qp 22 18 21,qm 23 22,qg 23 true (qf 24 9 1),qg 23 true (ql 25 1 24),qg 23 true (qo 26 (.bin .eql (.t 25) (.c (.int .u8 1)))),qg 23 true (qm 27 26),qg 27 false (qf 28 9 1),qg 27 false (ql 29 1 28),qg 27 false (qo 30 (.bin .eql (.t 29) (.c (.int .u8 2)))),qg 23 true (qP 31 27 30),qp 32 23 31,qm 2 32]
def F6:bP:=jc [(1,[2]),(0,[1])]
def lZ:Abs.Fn:=⟨1,[.t 2],
 (.seq (.ak [1] ans) (.seq (.ak [2] ant) .ret))⟩
@[simp] theorem e83:type_of% (show ans=_∧ant=_ from by simp only[zI,ans,ant,qo,qm,qb,qf,ql,qa,qx,qp,qP,qc,qg,aj,aw];exact⟨rfl,rfl⟩):=⟨rfl,rfl⟩
theorem Gn:type_of% lZ.eq_1:=ah lZ.eq_1
def aA6 :=[qx 3 1,qb 4 false]
def aA7 :=[qm 5 0,qo 6 (.zR fe [] [(.t 3)]),qc 7 da [5,6],qu 8 7,qm 4 8]
def zw:bP:=jc [(1,[4]),(0,[0,3])]
def nT:Abs.Fn:=⟨2,[.t 4],
 (.seq (.ak [0,3] aA6) (.seq (.ak [4] aA7) .ret))⟩
def anu :=[qx 1 0,qb 2 false]
def anv :=[qf 3 0 1,ql 4 1 3,qo 5 (.call false (.c (.fn cq [] [])) [(.t 4),(.c zI),(.c (.int .i64 1000000))]),qm 6 5,qg 6 true (qf 7 1 1),qg 6 true (ql 8 1 7),qg 6 true (qe 9 8),qg 6 true (qo 10 (.call false (.c (.fn cq [] [])) [(.t 9),(.c (.int .i64 1)),(.c (.int .i64 2000))])),qp 11 6 10,qm 12 11,qg 12 true (qf 13 1 1),qg 12 true (ql 14 1 13),qg 12 true (qo 15 (.call false (.c (.fn eN [] [])) [(.t 14),(.c (.fn fS [] []))])),qp 16 12 15,qm 2 16]
def D8:bP:=jc [(1,[2]),(0,[1])]
def kH:Abs.Fn:=⟨1,[.t 2],
 (.seq (.ak [1] anu) (.seq (.ak [2] anv) .ret))⟩
@[simp] theorem e85:type_of% (show anu=_∧anv=_ from by simp only[zI,anu,anv,qo,qm,qb,qf,ql,qx,qe,qp,qg];exact⟨rfl,rfl⟩):=⟨rfl,rfl⟩
theorem Er:type_of% kH.eq_1:=ah kH.eq_1
def anw :=[qb 6 false]
def anx :=[qm 7 1,qm 8 0,qk 9 .leq 7 8,qm 10 9,qg 10 true (qm 11 0),qg 10 true (qm 12 2),qg 10 true (qk 13 .leq 11 12),qp 14 10 13,qm 6 14]
def LF:bP:=jc [(1,[6]),(0,[0,1,2])]
def qX:Abs.Fn:=⟨3,[.t 6],
 (.seq (.ak [0,1,2] anw) (.seq (.ak [6] anx) .ret))⟩
@[simp] theorem e86:type_of% (show anw=_∧anx=_ from by simp only[zI,anw,anx,qm,qb,qk,qp,qg];exact⟨rfl,rfl⟩):=⟨rfl,rfl⟩
theorem LR:type_of% qX.eq_1:=ah qX.eq_1
def anz :=[qx 2 0,qx 3 1,qb 4 false]
def anA :=[qf 6 0 3,qa 7 3 6,qo 5 (.eK [] [zI,zI,zI]),qs 5 3 5 7]
def anB :=[qf 8 3 3,ql 9 1 8,qf 10 6 2,ql 11 1 10,qk 12 .geq 9 11,qm 13 12,qg 13 true (qf 14 0 5),qg 13 true (qv 15 5 1 14),qg 13 true (qf 16 0 2),qg 13 true (qf 17 0 16),qg 13 true (ql 18 1 17),qg 13 true (qf 19 3 2),qg 13 true (qf 20 0 19),qg 13 true (ql 21 1 20),qg 13 true (qc 22 cq [15,18,21]),qp 23 13 22,qm 24 23,qg 24 true (qf 25 1 5),qg 24 true (qv 26 5 1 25),qg 24 true (qf 27 0 2),qg 24 true (qf 28 1 27),qg 24 true (ql 29 1 28),qg 24 true (qf 30 3 2),qg 24 true (qf 31 1 30),qg 24 true (ql 32 1 31),qg 24 true (qc 33 cq [26,29,32]),qp 34 24 33,qm 35 34,qg 35 true (qf 36 2 5),qg 35 true (qv 37 5 1 36),qg 35 true (qf 38 0 2),qg 35 true (qf 39 2 38),qg 35 true (ql 40 1 39),qg 35 true (qf 41 3 2),qg 35 true (qf 42 2 41),qg 35 true (ql 43 1 42),qg 35 true (qc 44 cq [37,40,43]),qp 45 35 44,qm 4 45]
def Ea:bP:=Hx [(2,[4]),(1,[2,3,5]),(0,[2,3])] [] [] [5] [5] [] []
def kJ:Abs.Fn:=⟨2,[.t 4],
 (.seq (.ak [2,3] anz) (.seq (.ak [2,3,5] anA) (.seq (.ak [4] anB) .ret)))⟩
@[simp] theorem e87:type_of% (show anz=_∧anA=_∧anB=_ from by simp only[zI,anz,anA,anB,qo,qm,qb,qf,ql,qa,qv,qx,qk,qp,qs,qc,qg,aj,aw];exact⟨rfl,rfl,rfl⟩):=⟨rfl,rfl,rfl⟩
theorem Et:type_of% kJ.eq_1:=ah kJ.eq_1
def aA8 :=[qb 4 false]
def aA9 :=[qm 5 0,qm 6 1,qc 7 fR [5,6],qn 8 .geq 7 0,qm 4 8]
def uC:bP:=jc [(1,[4]),(0,[0,1])]
def iw:Abs.Fn:=⟨2,[.t 4],
 (.seq (.ak [0,1] aA8) (.seq (.ak [4] aA9) .ret))⟩
def aBa :=[qx 3 1,qb 4 false]
def aBb :=[qm 5 0,qo 6 (.zR iX [] [(.t 3)]),qc 7 cz [5,6],qu 8 7,qm 4 8]
def Av:bP:=jc [(1,[4]),(0,[0,3])]
def oK:Abs.Fn:=⟨2,[.t 4],
 (.seq (.ak [0,3] aBa) (.seq (.ak [4] aBb) .ret))⟩
def anC :=[qx 2 0,qx 3 1,qo 4 (.eK [] [zI,zI,zI,zI,.aH,zI,zI,zI,.aH,(.str []),.aH]),qi 5 0]
def anD :=[qa 7 9 2,qa 8 2 3,qo 9 (.mJ [zI,zI,zI,zI,.aH,zI,zI,zI,.aH,(.str []),.aH] [(0,9,(.t 7)),(9,2,(.t 8))]),qo 6 (.eK [] [zI,zI,zI,zI,.aH,zI,zI,zI,.aH,(.str []),.aH]),qs 6 11 6 9]
def anE :=[qa 10 9 2,qc 11 jW [10],qu 12 11,qm 13 12,qg 13 false (qw 14 6 11 6),qg 13 false (qc 15 j1 [14]),qg 13 false (qu 16 15),qP 17 13 16]
def anF :=[qo 18 (.mJ [zI,zI,zI,zI,.aH,zI,zI,zI,.aH,(.str []),.aH] []),qs 4 11 4 18,qi 5 1]
def anG :=[qw 19 6 11 6,qs 4 11 4 19,qi 5 0]
def Vk:bP:=Hx [(4,[4,5]),(3,[4,5]),(2,[4,6,17]),(1,[2,4,6]),(0,[2,3,4])] [] [] [4,6] [4,6] [] []
def yZ:Abs.Fn:=⟨2,[.v 4 true 11,.t 5],
 (.seq (.ak [2,3,4] anC) (.seq (.ak [2,4,6] anD) (.seq (.seq (.ak [4,6,17] anE) (.ite (.t 17) (.seq (.ak [4,5] anF) .ret) .cU)) (.seq (.ak [4,5] anG) .ret))))⟩
@[simp] theorem e90:type_of% (show anC=_∧anD=_∧anE=_∧anF=_∧anG=_ from by simp only[zI,anC,anD,anE,anF,anG,qo,qm,qi,qa,qw,qx,qu,qP,qs,qc,qg,aj,aw];exact⟨rfl,rfl,rfl,rfl,rfl⟩):=⟨rfl,rfl,rfl,rfl,rfl⟩
theorem Nf:type_of% yZ.eq_1:=ah yZ.eq_1
def anH :=[qx 2 0,qi 4 0]
def anI :=[qm 8 1,qe 9 8,qn 10 .gtr 9 200]
def anJ :=[qi 4 3]
def anK :=[qm 11 1,qe 12 11,qi 13 0]
def anL :=[qk 14 .lss 13 12]
def anM :=[qj 15 1 11 13,ql 16 1 15,qm 6 16]
def anN :=[qa 17 9 2,qm 18 6,qc 19 po [17,18],qm 7 19]
def anO :=[qm 20 7,qn 21 .neq 20 0]
def anP :=[qm 22 7,qm 4 22]
def anQ :=[qn 23 .add 13 1,qm 13 23]
def oU:Abs.cZ :=
 (.seq (.ak [2,11,12,13,14] anL) (.seq (.ite (.t 14) .cU (.exit 0)) (.seq (.bB 1 (.seq (.ak [2,6,11,12,13] anM) (.seq (.ak [2,7,11,12,13] anN) (.seq (.ak [2,7,11,12,13,21] anO) (.ite (.t 21) (.seq (.ak [4] anP) .ret) .cU))))) (.ak [2,11,12,13] anQ))))
def afd :=[qi 4 0]
def LA:bP:=K1 [(10,[4]),(9,[2,11,12,13]),(8,[4]),(7,[2,7,11,12,13,21]),(6,[2,7,11,12,13]),(5,[2,6,11,12,13]),(4,[2,11,12,13,14]),(3,[2,11,12,13]),(2,[4]),(1,[1,2,10]),(0,[1,2])] [(0,[2,11,12,13])]
def qD:Abs.Fn:=⟨2,[.t 4],
 (.seq (.ak [1,2] anH) (.seq (.seq (.ak [1,2,10] anI) (.ite (.t 10) (.seq (.ak [4] anJ) .ret) .cU)) (.seq (.seq (.ak [2,11,12,13] anK) (.bB 0 (.loop [2,11,12,13] false oU))) (.seq (.ak [4] afd) .ret))))⟩
@[simp] theorem e91:type_of% (show anH=_∧anI=_∧anJ=_∧anK=_∧anL=_∧anM=_∧anN=_∧anO=_∧anP=_∧anQ=_∧afd=_ from by simp only[zI,anH,anI,anJ,anK,anL,anM,anN,anO,anP,anQ,afd,qm,qi,ql,qa,qx,qe,qj,qk,qn,qc,aj,aw];exact⟨rfl,rfl,rfl,rfl,rfl,rfl,rfl,rfl,rfl,rfl,rfl⟩):=⟨rfl,rfl,rfl,rfl,rfl,rfl,rfl,rfl,rfl,rfl,rfl⟩
theorem xV:type_of% oU.eq_1:=ah oU.eq_1
theorem LN:type_of% qD.eq_1:=ah qD.eq_1
def anR :=[qx 2 0,qo 4 (.eK [(0,1),(1,1)] [.aH,.aH])]
def anS :=[qa 10 11 2,qc 11 jh [10],qo 12 (.UR 1 1 [.aH] [(0,1,(.t 11))]),qf 13 0 4,⟨none,none,false,.LV 4 [(0,1),(1,1)] 1 13 (.t 12)⟩]
def anT :=[qm 14 1,qe 15 14,qi 16 0]
def anU :=[qk 17 .lss 16 15]
def anV :=[qm 18 16,qj 19 1 14 16,ql 20 1 19,qm 5 18,qm 6 20]
def anW :=[qA 22 11 2,qF 23 0 4,qV 24 4 1 23,qM 25 5,qJ 26 1 24 25,qL 27 1 26,qM 28 6,qC 29 nE [22,27,28],qM 21 29,qZ 30 21 0,qZ 31 21 1,qZ 32 21 2,qM 7 30,qM 8 31,qm 9 32]
def anX :=[qm 33 9,qn 34 .neq 33 0]
def anY :=[qo 35 (.mJ [] []),qo 36 (.mki 262 (.t 35))]
def anZ:List Abs.Op:=[]
def an0 :=[qF 37 0 4,qV 38 4 1 37,qM 39 7,qO 40 (.wc 1 1 [.aH] [(0,1,(.t 39))]),qO 41 (.app 1 24 (.t 38) (.t 40)),qF 42 1 4,qV 43 4 1 42,qM 44 8,qO 45 (.wc 1 1 [.aH] [(0,1,(.t 44))]),qO 46 (.app 1 24 (.t 43) (.t 45)),qF 47 0 4,⟨none,none,false,.LV 4 [(0,1),(1,1)] 1 47 (.t 41)⟩,qf 48 1 4,⟨none,none,false,.LV 4 [(0,1)] 1 48 (.t 46)⟩]
def afe :=[qn 49 .add 16 1,qm 16 49]
def nI:Abs.cZ :=
 (.seq (.ak [2,4,14,15,16,17] anU) (.seq (.ite (.t 17) .cU (.exit 0)) (.seq (.bB 1 (.seq (.ak [2,4,5,6,14,15,16] anV) (.seq (.ak [2,4,7,8,9,14,15,16] anW) (.seq (.seq (.ak [2,4,7,8,14,15,16,34] anX) (.ite (.t 34) (.jk [2,4,7,8,14,15,16] anY ⟨none,none,false,.UT (.t 36)⟩ anZ) .cU)) (.ak [2,4,14,15,16] an0))))) (.ak [2,4,14,15,16] afe))))
def aff :=[qw 50 4 2 4,⟨none,none,false,.LV 4 [(0,1),(1,1)] 2 4 (.t 50)⟩]
def II:bP:=⟨[(10,[4]),(9,[2,4,14,15,16]),(8,[2,4,14,15,16]),(7,[2,4,7,8,14,15,16]),(6,[2,4,7,8,14,15,16,34]),(5,[2,4,7,8,9,14,15,16]),(4,[2,4,5,6,14,15,16]),(3,[2,4,14,15,16,17]),(2,[2,4,14,15,16]),(1,[1,2,4]),(0,[1,2,4])],[(0,[2,4,14,15,16])],[],[4,12],[4],[(1,[(0,1),(1,1)]),(1004,[(0,1),(1,1)]),(8011,[(0,1),(1,1)]),(8013,[(0,1)]),(10001,[(0,1),(1,1)])],[],[],[],[],[(7,some 2)]⟩
def om:Abs.Fn:=⟨2,[.v 4 true 2],
 (.seq (.ak [1,2,4] anR) (.seq (.ak [1,2,4] anS) (.seq (.seq (.ak [2,4,14,15,16] anT) (.bB 0 (.loop [2,4,14,15,16] false nI))) (.seq (.ak [4] aff) .ret))))⟩
@[simp] theorem e92:type_of% (show anR=_∧anS=_∧anT=_∧anU=_∧anV=_∧anW=_∧anX=_∧anY=_∧anZ=_∧an0=_∧afe=_∧aff=_ from by simp only[zI,anR,anS,anT,anU,anV,anW,anX,anY,anZ,an0,afe,aff,qo,qO,qm,qM,qi,qf,qF,ql,qL,qa,qA,qV,qw,qx,qe,qj,qJ,qk,qn,qZ,qc,qC,aj,aw];exact⟨rfl,rfl,rfl,rfl,rfl,rfl,rfl,rfl,rfl,rfl,rfl,rfl⟩):=⟨rfl,rfl,rfl,rfl,rfl,rfl,rfl,rfl,rfl,rfl,rfl,rfl⟩
theorem vO:type_of% nI.eq_1:=ah nI.eq_1
theorem zD:type_of% om.eq_1:=ah om.eq_1
def an3 :=[qb 2 false]
def an5 :=[qm 6 0,qe 7 6,qo 8 (.call false (.c (.fn dz [] [])) [(.t 7),(.c (.int .i64 2)),(.c (.int .i64 20))]),qu 9 8,qm 10 9,qg 10 false (qm 11 0),qg 10 false (qo 12 (.call false (.c (.fn jO [] [])) [(.t 11),(.c (.fn ll [] []))])),qg 10 false (qu 13 12),qP 14 10 13]
def an6 :=[qb 2 false]
def an8 :=[qm 15 0,qo 16 (.UB 5 (.t 15) (some (.c (.int .i64 1))) none none),qe 17 16,qi 18 0]
def an9 :=[qk 19 .lss 18 17]
def aoa :=[qm 20 18,qj 21 5 16 18,qa 22 5 21,qo 4 (.eK [] [zI,zI,zI,zI,zI]),qm 3 20,qs 4 5 4 22]
def aob :=[qm 23 0,qm 24 3,qj 25 5 23 24,qa 26 5 25,qo 5 (.eK [] [zI,zI,zI,zI,zI]),qs 5 5 5 26]
def aoc :=[qf 27 0 4,qv 28 4 1 27,qf 29 0 5,qv 30 5 1 29,qk 31 .leq 28 30,qm 32 31,qg 32 false (qf 33 1 4),qg 32 false (qv 34 4 1 33),qg 32 false (qf 35 1 5),qg 32 false (qv 36 5 1 35),qg 32 false (qk 37 .leq 34 36),qP 38 32 37,qm 39 38,qg 39 false (qf 40 2 4),qg 39 false (qv 41 4 1 40),qg 39 false (qf 42 2 5),qg 39 false (qv 43 5 1 42),qg 39 false (qk 44 .leq 41 43),qP 45 39 44,qm 46 45,qg 46 false (qf 47 4 4),qg 46 false (qv 48 4 1 47),qg 46 false (qf 49 4 5),qg 46 false (qv 50 5 1 49),qg 46 false (qk 51 .lss 48 50),qP 52 46 51]
def aod :=[qb 2 false]
def aoe :=[qn 53 .add 18 1,qm 18 53]
def lg:Abs.cZ :=
 (.seq (.ak [0,16,17,18,19] an9) (.seq (.ite (.t 19) .cU (.exit 0)) (.seq (.bB 1 (.seq (.ak [0,3,4,16,17,18] aoa) (.seq (.ak [0,4,5,16,17,18] aob) (.seq (.ak [0,16,17,18,52] aoc) (.ite (.t 52) (.seq (.ak [2] aod) .ret) .cU))))) (.ak [0,16,17,18] aoe))))
def afg :=[qb 2 true]
def F4:bP:=Hx [(10,[2]),(9,[0,16,17,18]),(8,[2]),(7,[0,16,17,18,52]),(6,[0,4,5,16,17,18]),(5,[0,3,4,16,17,18]),(4,[0,16,17,18,19]),(3,[0,16,17,18]),(2,[2]),(1,[0,14]),(0,[0])] [(0,[0,16,17,18])] [] [4,5] [4,5] [] []
def lX:Abs.Fn:=⟨1,[.t 2],
 (.seq (.ak [0] an3) (.seq (.seq (.ak [0,14] an5) (.ite (.t 14) (.seq (.ak [2] an6) .ret) .cU)) (.seq (.seq (.ak [0,16,17,18] an8) (.bB 0 (.loop [0,16,17,18] false lg))) (.seq (.ak [2] afg) .ret))))⟩
@[simp] theorem e93:type_of% (show an3=_∧an5=_∧an6=_∧an8=_∧an9=_∧aoa=_∧aob=_∧aoc=_∧aod=_∧aoe=_∧afg=_ from by simp only[zI,an3,an5,an6,an8,an9,aoa,aob,aoc,aod,aoe,afg,qo,qm,qi,qb,qf,qa,qv,qe,qj,qk,qn,qu,qP,qs,qg];exact⟨rfl,rfl,rfl,rfl,rfl,rfl,rfl,rfl,rfl,rfl,rfl⟩):=⟨rfl,rfl,rfl,rfl,rfl,rfl,rfl,rfl,rfl,rfl,rfl⟩
theorem ug:type_of% lg.eq_1:=ah lg.eq_1
theorem Gk:type_of% lX.eq_1:=ah lX.eq_1
def aof :=[qb 4 false]
def aog :=[qm 5 1,qm 6 0,qe 7 6,qn 8 .sub 7 1,qo 9 (.call false (.c (.fn dz [] [])) [(.t 5),(.c zI),(.t 8)]),qm 4 9]
def IK:bP:=jc [(1,[4]),(0,[0,1])]
def ov:Abs.Fn:=⟨2,[.t 4],
 (.seq (.ak [0,1] aof) (.seq (.ak [4] aog) .ret))⟩
@[simp] theorem e94:type_of% (show aof=_∧aog=_ from by simp only[zI,aof,aog,qo,qm,qb,qe,qn];exact⟨rfl,rfl⟩):=⟨rfl,rfl⟩
theorem I2:type_of% ov.eq_1:=ah ov.eq_1
def aoh :=[qx 1 0,qb 2 false]
def aoi :=[qf 3 0 1,ql 4 1 3,qo 5 (.call false (.c (.fn dz [] [])) [(.t 4),(.c zI),(.c (.int .i64 1000000))]),qm 6 5,qg 6 true (qf 7 1 1),qg 6 true (ql 8 1 7),qg 6 true (qf 9 0 1),qg 6 true (ql 10 1 9),qg 6 true (qo 11 (.bin .mul (.c (.int .i64 4000)) (.t 10))),qg 6 true (qo 12 (.call false (.c (.fn dz [] [])) [(.t 8),(.c zI),(.t 11)])),qp 13 6 12,qm 14 13,qg 14 true (qf 15 2 1),qg 14 true (ql 16 1 15),qg 14 true (qf 17 0 1),qg 14 true (ql 18 1 17),qg 14 true (qo 19 (.bin .mul (.c (.int .i64 10000)) (.t 18))),qg 14 true (qo 20 (.call false (.c (.fn dz [] [])) [(.t 16),(.c zI),(.t 19)])),qp 21 14 20,qm 22 21,qg 22 true (qf 23 3 1),qg 22 true (ql 24 1 23),qg 22 true (qo 25 (.call false (.c (.fn dz [] [])) [(.t 24),(.c zI),(.c (.int .i64 1000000000))])),qp 26 22 25,qm 2 26]
def D7:bP:=jc [(1,[2]),(0,[1])]
def kG:Abs.Fn:=⟨1,[.t 2],
 (.seq (.ak [1] aoh) (.seq (.ak [2] aoi) .ret))⟩
@[simp] theorem e95:type_of% (show aoh=_∧aoi=_ from by simp only[zI,aoh,aoi,qo,qm,qb,qf,ql,qx,qp,qg];exact⟨rfl,rfl⟩):=⟨rfl,rfl⟩
theorem Ep:type_of% kG.eq_1:=ah kG.eq_1
def aoj :=[qo 4 (.eK [] [zI,zI,zI,zI,zI])]
def aok :=[qm 5 0,qm 6 1,qj 7 5 5 6,qa 8 5 7,qo 9 (.mJ [zI,zI,zI,zI,zI] [(0,5,(.t 8))]),qs 4 5 4 9]
def J4:bP:=Hx [(1,[4]),(0,[0,1,4])] [] [] [4] [4] [] []
def pj:Abs.Fn:=⟨2,[.v 4 true 5],
 (.seq (.ak [0,1,4] aoj) (.seq (.ak [4] aok) .ret))⟩
@[simp] theorem e96:type_of% (show aoj=_∧aok=_ from by simp only[zI,aoj,aok,qo,qm,qa,qj,qs];exact⟨rfl,rfl⟩):=⟨rfl,rfl⟩
theorem Kj:type_of% pj.eq_1:=ah pj.eq_1
def aol :=[qx 2 0,qx 3 1,qo 4 (.eK [] [zI,zI,zI,zI,zI,zI,zI,zI,zI,zI])]
def aom :=[qa 7 5 2,qa 8 4 3,qc 9 ma [7,8],qm 5 9]
def aon :=[qm 35 5,qn 36 .eql 35 0,qm 34 36]
def aoo :=[qa 37 4 3,qf 38 4 4,qs 4 4 38 37]
def aoq :=[qm 40 5,qf 41 0 3,ql 42 1 41,qk 43 .eql 40 42,qm 39 43]
def aor :=[qm 44 5,qf 45 1 3,ql 46 1 45,qf 47 3 3,ql 48 1 47,qo 49 (.mJ [zI,zI,zI,zI] [(0,1,(.t 44)),(1,1,(.t 46)),(3,1,(.t 48))]),qf 50 0 4,qs 4 4 50 49]
def aos :=[qm 10 5,qm 11 5,qf 12 0 2,qf 13 3 12,ql 14 1 13,qk 15 .mul 11 14,qf 16 3 3,ql 17 1 16,qo 18 (.mJ [zI,zI,zI,zI] [(0,1,(.t 10)),(1,1,(.t 15)),(3,1,(.t 17))]),qf 19 0 4,qs 4 4 19 18]
def aot :=[qf 20 0 3,ql 21 1 20,qm 22 5,qk 23 .sub 21 22,qf 24 1 3,ql 25 1 24,qm 26 5,qf 27 0 2,qf 28 3 27,ql 29 1 28,qk 30 .mul 26 29,qk 31 .sub 25 30,qo 32 (.mJ [zI,zI,zI,zI] [(0,1,(.t 23)),(1,1,(.t 31))]),qf 33 4 4,qs 4 4 33 32]
def aou :=[qf 51 2 3,ql 52 1 51,qf 53 4 4,qf 54 0 53,qv 55 4 1 54,qf 56 0 2,qf 57 4 56,ql 58 1 57,qk 59 .mul 55 58,qo 60 (.mn (.t 52) (.t 59)),qm 6 60]
def aov :=[qM 61 6,qF 62 2 3,qL 63 1 62,qM 64 6,qK 65 .sub 63 64,qF 66 4 4,qF 67 2 66,qS 4 1 67 61,qf 68 9 4,qs 4 1 68 65]
def afh :=[qf 69 4 4,qf 70 0 69,qv 71 4 1 70,qn 72 .gtr 71 0]
def afi :=[qf 73 4 4,qf 74 1 73,qv 75 4 1 74,qf 76 4 4,qf 77 0 76,qv 78 4 1 77,qf 79 0 2,qf 80 2 79,ql 81 1 80,qk 82 .mul 78 81,qk 83 .sub 75 82,qo 84 (.mx (.c zI) (.t 83)),qf 85 8 4,qs 4 1 85 84]
def afj :=[qw 86 4 10 4,qs 4 10 4 86]
def J5:bP:=Hx [(12,[4]),(11,[4]),(10,[2,4,72]),(9,[2,4]),(8,[2,3,4,6]),(5,[2,3,4]),(7,[2,3,4]),(3,[2,3,4]),(2,[2,3,4,5]),(6,[2,3,4,5,39]),(4,[2,3,4,5,34]),(1,[2,3,4,5]),(0,[2,3,4])] [] [] [4] [4] [] []
def pk:Abs.Fn:=⟨2,[.v 4 true 10],
 (.seq (.ak [2,3,4] aol) (.seq (.ak [2,3,4,5] aom) (.seq (.bB 0 (.seq (.ak [2,3,4,5,34] aon) (.ite (.t 34) (.ak [2,3,4] aoo) (.seq (.ak [2,3,4,5,39] aoq) (.ite (.t 39) (.ak [2,3,4] aor) (.seq (.ak [2,3,4,5] aos) (.ak [2,3,4] aot))))))) (.seq (.ak [2,3,4,6] aou) (.seq (.ak [2,4] aov) (.seq (.seq (.ak [2,4,72] afh) (.ite (.t 72) (.ak [4] afi) .cU)) (.seq (.ak [4] afj) .ret)))))))⟩
@[simp] theorem e97:type_of% (show aol=_∧aom=_∧aon=_∧aoo=_∧aoq=_∧aor=_∧aos=_∧aot=_∧aou=_∧aov=_∧afh=_∧afi=_∧afj=_ from by simp only[zI,aol,aom,aon,aoo,aoq,aor,aos,aot,aou,aov,afh,afi,afj,qo,qm,qM,qf,qF,ql,qL,qa,qv,qw,qx,qk,qK,qn,qs,qS,qc,aj,aw];exact⟨rfl,rfl,rfl,rfl,rfl,rfl,rfl,rfl,rfl,rfl,rfl,rfl,rfl⟩):=⟨rfl,rfl,rfl,rfl,rfl,rfl,rfl,rfl,rfl,rfl,rfl,rfl,rfl⟩
theorem Kk:type_of% pk.eq_1:=ah pk.eq_1
def aow :=[qx 1 0,qb 2 false]
def aox :=[qo 3 (.On [] [zI]),⟨none,none,false,.st [] 1 (.t 3) (.c (.int .i64 1000))⟩]
def aoy :=[qf 4 0 1,ql 5 1 4,qo 6 (.call false (.c (.fn kM [] [])) [(.t 5),(.c zI),(.c (.int .i64 5))]),qm 7 6,qg 7 true (qf 8 1 1),qg 7 true (ql 9 1 8),qg 7 true (qe 10 9),qg 7 true (qo 11 (.call false (.c (.fn kM [] [])) [(.t 10),(.c (.int .i64 1)),(.c (.int .i64 8))])),qp 12 7 11,qm 13 12,qg 13 true (qf 14 1 1),qg 13 true (ql 15 1 14),qg 13 true (qo 16 (.zR ea [] [(.t 3)])),qg 13 true (qc 17 iR [15,16]),qp 18 13 17,qm 2 18]
def Hf:bP:=Tl [(2,[2]),(1,[1,3]),(0,[1])] [] [] [3]
def mU:Abs.Fn:=⟨1,[.t 2],
 (.seq (.ak [1] aow) (.seq (.ak [1,3] aox) (.seq (.ak [2] aoy) .ret)))⟩
@[simp] theorem e98:type_of% (show aow=_∧aox=_∧aoy=_ from by simp only[zI,aow,aox,aoy,qo,qm,qb,qf,ql,qx,qe,qp,qc,qg,aj,aw];exact⟨rfl,rfl,rfl⟩):=⟨rfl,rfl,rfl⟩
theorem HG:type_of% mU.eq_1:=ah mU.eq_1
def aoz :=[qb 2 false]
def aoA :=[qm 3 0,qo 4 (.call false (.c (.fn ke [] [])) [(.t 3),(.c (.fn nX [] []))]),qm 2 4]
def Oh:bP:=jc [(1,[2]),(0,[0])]
def tp:Abs.Fn:=⟨1,[.t 2],
 (.seq (.ak [0] aoz) (.seq (.ak [2] aoA) .ret))⟩
@[simp] theorem e99:type_of% (show aoz=_∧aoA=_ from by simp only[zI,aoz,aoA,qo,qm,qb];exact⟨rfl,rfl⟩):=⟨rfl,rfl⟩
theorem OB:type_of% tp.eq_1:=ah tp.eq_1
def Vw :=[qx 1 0,qi 2 0]
def Vx :=[qf 5 1 1,ql 6 1 5,qe 7 6,qi 8 0]
def Vy :=[qk 9 .lss 8 7]
def Vz :=[qj 10 2 6 8,qa 11 2 10,qo 4 (.eK [] [zI,zI]),qs 4 2 4 11]
def VA :=[qm 12 2,qf 13 0 4,qv 14 4 1 13,qk 15 .add 12 14,qm 2 15]
def VB :=[qn 16 .add 8 1,qm 8 16]
def kb:Abs.cZ :=
 (.seq (.ak [2,6,7,8,9] Vy) (.seq (.ite (.t 9) .cU (.exit 0)) (.seq (.bB 1 (.seq (.ak [2,4,6,7,8] Vz) (.ak [2,6,7,8] VA))) (.ak [2,6,7,8] VB))))
def VC :=[qm 17 2,qm 2 17]
def Dj:bP:=Hx [(6,[2]),(5,[2,6,7,8]),(4,[2,6,7,8]),(3,[2,4,6,7,8]),(2,[2,6,7,8,9]),(1,[2,6,7,8]),(0,[1,2])] [(0,[2,6,7,8])] [] [4] [4] [] []
def jJ:Abs.Fn:=⟨1,[.t 2],
 (.seq (.ak [1,2] Vw) (.seq (.seq (.ak [2,6,7,8] Vx) (.bB 0 (.loop [2,6,7,8] false kb))) (.seq (.ak [2] VC) .ret)))⟩
@[simp] theorem aFV:type_of% (show Vw=_∧Vx=_∧Vy=_∧Vz=_∧VA=_∧VB=_∧VC=_ from by simp only[zI,Vw,Vx,Vy,Vz,VA,VB,VC,qo,qm,qi,qf,ql,qa,qv,qx,qe,qj,qk,qn,qs];exact⟨rfl,rfl,rfl,rfl,rfl,rfl,rfl⟩):=⟨rfl,rfl,rfl,rfl,rfl,rfl,rfl⟩
theorem sV:type_of% kb.eq_1:=ah kb.eq_1
theorem Dy:type_of% jJ.eq_1:=ah jJ.eq_1
def VD :=[qx 2 0,qo 4 (.On [] [zI])]
def VE :=[qa 7 2 2,qm 8 1,qo 9 (.call true (.c (.fn oC [] [])) [(.t 7),(.t 8)])]
def VF :=[qo 5 (.eK [] [zI,zI]),qs 5 2 5 10]
def VG :=[qm 6 11]
def VH :=[ql 12 1 4,qf 13 1 5,qv 14 5 1 13,qm 15 6,qk 16 .mul 14 15,qk 17 .add 12 16,qt 1 4 17]
def jK:Abs.cZ :=
 (.seq (.ak [4,5,11] VF) (.ak [4,5,6] VG))
def jL:Abs.cZ :=
 (.bB 1 (.ak [] VH))
def VI :=[ql 18 1 4,qt 1 4 18]
def He:bP:=Hx [(5,[4]),(4,[]),(3,[4,5,6]),(2,[4,5,11]),(1,[4,9]),(0,[1,2,4])] [(0,[4])] [] [4,5] [5] [] [1002]
def mT:Abs.Fn:=⟨2,[.c 4 false 1],
 (.seq (.ak [1,2,4] VD) (.seq (.seq (.ak [4,9] VE) (.bB 0 (.afH [4] (.t 9) [10,11] jK jL))) (.seq (.ak [4] VI) .ret)))⟩
@[simp] theorem aFW:type_of% (show VD=_∧VE=_∧VF=_∧VG=_∧VH=_∧VI=_ from by simp only[zI,VD,VE,VF,VG,VH,VI,qo,qm,qf,ql,qa,qv,qx,qk,qs,qt];exact⟨rfl,rfl,rfl,rfl,rfl,rfl⟩):=⟨rfl,rfl,rfl,rfl,rfl,rfl⟩
theorem Dz:type_of% jK.eq_1:=ah jK.eq_1
theorem DA:type_of% jL.eq_1:=ah jL.eq_1
theorem HF:type_of% mT.eq_1:=ah mT.eq_1
def atP :=[qo 2 (.rk 1)]
def atQ :=[qm 5 0,qe 6 5,qi 7 0]
def atS :=[qk 8 .lss 7 6]
def atT :=[qj 9 1 5 7,ql 10 1 9,qm 4 10]
def atU :=[qm 11 2,qm 12 4,qc 13 wy [12],qy 14 1 1 11 13,qm 2 14]
def atV :=[qn 15 .add 7 1,qm 7 15]
def Ey:Abs.cZ :=
 (.seq (.ak [2,5,6,7,8] atS) (.seq (.ite (.t 8) .cU (.exit 0)) (.seq (.bB 1 (.seq (.ak [2,4,5,6,7] atT) (.ak [2,5,6,7] atU))) (.ak [2,5,6,7] atV))))
def atW :=[qm 16 2,qm 2 16]
def IA:bP:=Tl [(6,[2]),(5,[2,5,6,7]),(4,[2,5,6,7]),(3,[2,4,5,6,7]),(2,[2,5,6,7,8]),(1,[2,5,6,7]),(0,[0,2])] [(0,[2,5,6,7])] [] [2]
def zG:Abs.Fn:=⟨1,[.t 2],
 (.seq (.ak [0,2] atP) (.seq (.seq (.ak [2,5,6,7] atQ) (.bB 0 (.loop [2,5,6,7] false Ey))) (.seq (.ak [2] atW) .ret)))⟩
def V4 :=[qo 6 (.On [] [zI])]
def V5 :=[qo 10 (.zR de [] [(.t 6)])]
def V6 :=[qm 12 2]
def V7 :=[qm 11 13,qz 14 11 0,qz 15 11 1,qz 16 11 2,qo 7 (.eK [] [(.bool false),zI,zI,.jj]),qs 7 4 7 14,qm 8 15,qm 9 16]
def V8 :=[qm 17 0,qm 18 1,qo 19 (.nN (.t 17)),qf 20 20 19,qt 1 20 18]
def V9 :=[qf 21 3 7,qv 22 7 1 21,qm 23 0,qm 24 8,qm 25 9]
def Wa:List Abs.Op:=[]
def Wb:List Abs.Op:=[⟨none,none,false,.st [] 1 (.t 6) (.c zI)⟩]
def pM:Abs.cZ :=
 (.seq (.jk [0,1,6,7,8,9] V6 ⟨some 13,none,false,.call false (.c (.fn dp [] [])) [(.t 12)]⟩ V7) (.seq (.ak [0,6,7,8,9] V8) (.seq (.jk [6] V9 ⟨some 26,none,false,.call false (.t 22) [(.t 23),(.t 24),(.t 25)]⟩ Wa) (.seq (.ak [6] Wb) .ret))))
def FP:bP:=⟨[(5,[6]),(4,[6]),(3,[0,6,7,8,9]),(2,[0,1,6,7,8,9]),(1,[0,1,2,6]),(0,[0,1,2,6])],[],[],[0,6,7],[7],[],[],[],[],[],[(2,some 1),(4,some 5)]⟩
def lJ:Abs.Fn:=⟨3,[.c 6 false 1],
 (.seq (.ak [0,1,2,6] V4) (.seq (.ak [10,0,1,2,6] V5) (.dfr (.t 10) [] pM)))⟩
@[simp] theorem aFX:type_of% (show V4=_∧V5=_∧V6=_∧V7=_∧V8=_∧V9=_∧Wa=_∧Wb=_ from by simp only[zI,V4,V5,V6,V7,V8,V9,Wa,Wb,qo,qm,qf,qv,qs,qt,qz];exact⟨rfl,rfl,rfl,rfl,rfl,rfl,rfl,rfl⟩):=⟨rfl,rfl,rfl,rfl,rfl,rfl,rfl,rfl⟩
theorem pK:type_of% pM.eq_1:=ah pM.eq_1
theorem Gc:type_of% lJ.eq_1:=ah lJ.eq_1
def atX :=[qb 4 false]
def atY :=[qm 5 0,qm 6 1,qc 7 jv [5,6],qn 8 .geq 7 0,qm 4 8]
def xr:bP:=jc [(1,[4]),(0,[0,1])]
def qQ:Abs.Fn:=⟨2,[.t 4],
 (.seq (.ak [0,1] atX) (.seq (.ak [4] atY) .ret))⟩
def Wc :=[qb 2 false]
def We :=[qm 3 0,qo 4 (.BA (.Jv) [(.t 3)]),qn 5 .gtr 4 4000,qm 2 5]
def Iz:bP:=jc [(1,[2]),(0,[0])]
def n8:Abs.Fn:=⟨1,[.t 2],
 (.seq (.ak [0] Wc) (.seq (.ak [2] We) .ret))⟩
@[simp] theorem aFY:type_of% (show Wc=_∧We=_ from by simp only[zI,Wc,We,qo,qm,qb,qn];exact⟨rfl,rfl⟩):=⟨rfl,rfl⟩
theorem IS:type_of% n8.eq_1:=ah n8.eq_1
def Wf :=[qx 1 0,qb 2 false]
def Wg :=[qf 3 0 1,ql 4 1 3,qo 5 (.call false (.c (.fn dR [] [])) [(.t 4),(.c (.int .i64 1)),(.c (.int .i64 8))]),qm 6 5,qg 6 true (qf 7 1 1),qg 6 true (ql 8 1 7),qg 6 true (qo 9 (.call false (.c (.fn dR [] [])) [(.t 8),(.c (.int .i64 1)),(.c (.int .i64 8))])),qp 10 6 9,qm 11 10,qg 11 true (qf 12 2 1),qg 11 true (ql 13 1 12),qg 11 true (qo 14 (.call false (.c (.fn dR [] [])) [(.t 13),(.c (.int .i64 1)),(.c (.int .i64 8))])),qp 15 11 14,qm 16 15,qg 16 true (qa 17 4 1),qg 16 true (qc 18 du [17]),qg 16 true (qn 19 .leq 18 64),qp 20 16 19,qm 21 20,qg 21 true (qf 22 3 1),qg 21 true (ql 23 1 22),qg 21 true (qo 24 (.call false (.c (.fn dR [] [])) [(.t 23),(.c (.int .i64 1)),(.c (.int .i64 6))])),qp 25 21 24,qm 2 25]
def FM:bP:=jc [(1,[2]),(0,[1])]
def lG:Abs.Fn:=⟨1,[.t 2],
 (.seq (.ak [1] Wf) (.seq (.ak [2] Wg) .ret))⟩
@[simp] theorem aFZ:type_of% (show Wf=_∧Wg=_ from by simp only[zI,Wf,Wg,qo,qm,qb,qf,ql,qa,qx,qn,qp,qc,qg,aj,aw];exact⟨rfl,rfl⟩):=⟨rfl,rfl⟩
theorem Ga:type_of% lG.eq_1:=ah lG.eq_1
def Wh :=[qb 2 false]
def Wi :=[qm 5 0,qo 6 (.BA (.Jv) [(.t 5)]),qi 7 0]
def Wj :=[qk 8 .lss 7 6]
def Wk :=[qm 9 7,qm 3 9]
def Wl :=[qm 10 0,qm 11 3,qo 12 (.BA (.OO) [(.t 10),(.t 11)]),qo 13 (.bin .geq (.t 12) (.c (.int .u8 97))),qm 14 13,qg 14 true (qm 15 0),qg 14 true (qm 16 3),qg 14 true (qo 17 (.BA (.OO) [(.t 15),(.t 16)])),qg 14 true (qo 18 (.bin .leq (.t 17) (.c (.int .u8 122)))),qp 19 14 18,qm 4 19]
def Wm :=[qm 20 4,qu 21 20,qm 22 21,qg 22 true (qm 23 3),qg 22 true (qn 24 .eql 23 0),qg 22 true (qm 25 24),qg 25 false (qm 26 0),qg 25 false (qm 27 3),qg 25 false (qo 28 (.BA (.OO) [(.t 26),(.t 27)])),qg 25 false (qo 29 (.bin .lss (.t 28) (.c (.int .u8 48)))),qg 22 true (qP 30 25 29),qg 22 true (qm 31 30),qg 31 false (qm 32 0),qg 31 false (qm 33 3),qg 31 false (qo 34 (.BA (.OO) [(.t 32),(.t 33)])),qg 31 false (qo 35 (.bin .gtr (.t 34) (.c (.int .u8 57)))),qg 22 true (qP 36 31 35),qp 37 22 36]
def Wn :=[qb 2 false]
def Wo :=[qn 38 .add 7 1,qm 7 38]
def sr:Abs.cZ :=
 (.seq (.ak [0,6,7,8] Wj) (.seq (.ite (.t 8) .cU (.exit 0)) (.seq (.bB 1 (.seq (.ak [0,3,6,7] Wk) (.seq (.ak [0,3,4,6,7] Wl) (.seq (.ak [0,6,7,37] Wm) (.ite (.t 37) (.seq (.ak [2] Wn) .ret) .cU))))) (.ak [0,6,7] Wo))))
def Wp :=[qm 39 0,qo 40 (.BA (.Jv) [(.t 39)]),qo 41 (.call false (.c (.fn dR [] [])) [(.t 40),(.c (.int .i64 1)),(.c (.int .i64 16))]),qm 2 41]
def Oa:bP:=K1 [(8,[2]),(7,[0,6,7]),(6,[2]),(5,[0,6,7,37]),(4,[0,3,4,6,7]),(3,[0,3,6,7]),(2,[0,6,7,8]),(1,[0,6,7]),(0,[0])] [(0,[0,6,7])]
def tc:Abs.Fn:=⟨1,[.t 2],
 (.seq (.ak [0] Wh) (.seq (.seq (.ak [0,6,7] Wi) (.bB 0 (.loop [0,6,7] false sr))) (.seq (.ak [2] Wp) .ret)))⟩
@[simp] theorem aF0:type_of% (show Wh=_∧Wi=_∧Wj=_∧Wk=_∧Wl=_∧Wm=_∧Wn=_∧Wo=_∧Wp=_ from by simp only[zI,Wh,Wi,Wj,Wk,Wl,Wm,Wn,Wo,Wp,qo,qm,qi,qb,qk,qn,qu,qp,qP,qg];exact⟨rfl,rfl,rfl,rfl,rfl,rfl,rfl,rfl,rfl⟩):=⟨rfl,rfl,rfl,rfl,rfl,rfl,rfl,rfl,rfl⟩
theorem Bc:type_of% sr.eq_1:=ah sr.eq_1
theorem Ox:type_of% tc.eq_1:=ah tc.eq_1
def Wq :=[qx 1 0,qi 2 0]
def Wr :=[qf 3 0 1,ql 4 1 3,qf 5 1 1,ql 6 1 5,qk 7 .mul 4 6,qf 8 2 1,ql 9 1 8,qk 10 .mul 7 9,qm 2 10]
def DT:bP:=jc [(1,[2]),(0,[1])]
def kl:Abs.Fn:=⟨1,[.t 2],
 (.seq (.ak [1] Wq) (.seq (.ak [2] Wr) .ret))⟩
@[simp] theorem aF1:type_of% (show Wq=_∧Wr=_ from by simp only[zI,Wq,Wr,qm,qi,qf,ql,qx,qk];exact⟨rfl,rfl⟩):=⟨rfl,rfl⟩
theorem Ee:type_of% kl.eq_1:=ah kl.eq_1
def atZ :=[qx 3 1,qb 4 false]
def at0 :=[qm 5 0,qo 6 (.zR rG [] [(.t 3)]),qc 7 cg [5,6],qu 8 7,qm 4 8]
def Lv:bP:=jc [(1,[4]),(0,[0,3])]
def CV:Abs.Fn:=⟨2,[.t 4],
 (.seq (.ak [0,3] atZ) (.seq (.ak [4] at0) .ret))⟩
def Ws :=[qb 2 false]
def Wt :=[qm 3 0,qo 4 (.call false (.c (.fn dR [] [])) [(.t 3),(.c (.int .i64 (-100000))),(.c (.int .i64 100000))]),qm 2 4]
def Dd:bP:=jc [(1,[2]),(0,[0])]
def jD:Abs.Fn:=⟨1,[.t 2],
 (.seq (.ak [0] Ws) (.seq (.ak [2] Wt) .ret))⟩
@[simp] theorem aF2:type_of% (show Ws=_∧Wt=_ from by simp only[zI,Ws,Wt,qo,qm,qb];exact⟨rfl,rfl⟩):=⟨rfl,rfl⟩
theorem Dt:type_of% jD.eq_1:=ah jD.eq_1
def Wu :=[qb 6 false]
def Wv :=[qm 7 1,qm 8 0,qk 9 .leq 7 8,qm 10 9,qg 10 true (qm 11 0),qg 10 true (qm 12 2),qg 10 true (qk 13 .leq 11 12),qp 14 10 13,qm 6 14]
def MH:bP:=jc [(1,[6]),(0,[0,1,2])]
def rR:Abs.Fn:=⟨3,[.t 6],
 (.seq (.ak [0,1,2] Wu) (.seq (.ak [6] Wv) .ret))⟩
@[simp] theorem aF3:type_of% (show Wu=_∧Wv=_ from by simp only[zI,Wu,Wv,qm,qb,qk,qp,qg];exact⟨rfl,rfl⟩):=⟨rfl,rfl⟩
theorem M9:type_of% rR.eq_1:=ah rR.eq_1
def Ww :=[qx 4 0,qb 8 false]
def Wx :=[qm 12 1,qf 13 3 4,ql 14 1 13,qn 15 .sub 14 1,qo 16 (.call false (.c (.fn dR [] [])) [(.t 12),(.c zI),(.t 15)]),qu 17 16,qm 18 17,qg 18 false (qm 19 2),qg 18 false (qe 20 19),qg 18 false (qn 21 .lss 20 1),qP 22 18 21,qm 23 22,qg 23 false (qm 24 2),qg 23 false (qe 25 24),qg 23 false (qm 26 3),qg 23 false (qe 27 26),qg 23 false (qk 28 .neq 25 27),qP 29 23 28]
def Wy :=[qb 8 false]
def Wz :=[qi 9 (-1)]
def WA :=[qm 30 2,qe 31 30,qi 32 0]
def WB :=[qk 33 .lss 32 31]
def WE :=[qm 34 32,qj 35 1 30 32,ql 36 1 35,qm 10 34,qm 11 36]
def WG :=[qm 37 11,qm 38 9,qk 39 .leq 37 38,qm 40 39,qg 40 false (qm 41 11),qg 40 false (qa 42 4 4),qg 40 false (qc 43 du [42]),qg 40 false (qk 44 .geq 41 43),qP 45 40 44,qm 46 45,qg 46 false (qm 47 3),qg 46 false (qm 48 10),qg 46 false (qj 49 1 47 48),qg 46 false (ql 50 1 49),qg 46 false (qo 51 (.call false (.c (.fn dR [] [])) [(.t 50),(.c (.int .i64 (-1000))),(.c (.int .i64 1000))])),qg 46 false (qu 52 51),qP 53 46 52]
def WH :=[qb 8 false]
def WI :=[qm 54 11,qm 9 54]
def Qv :=[qn 55 .add 32 1,qm 32 55]
def mg:Abs.cZ :=
 (.seq (.ak [3,4,9,30,31,32,33] WB) (.seq (.ite (.t 33) .cU (.exit 0)) (.seq (.bB 1 (.seq (.ak [3,4,9,10,11,30,31,32] WE) (.seq (.seq (.ak [3,4,11,30,31,32,53] WG) (.ite (.t 53) (.seq (.ak [8] WH) .ret) .cU)) (.ak [3,4,9,30,31,32] WI)))) (.ak [3,4,9,30,31,32] Qv))))
def Qw :=[qb 8 true]
def G7:bP:=K1 [(11,[8]),(10,[3,4,9,30,31,32]),(9,[3,4,9,30,31,32]),(8,[8]),(7,[3,4,11,30,31,32,53]),(6,[3,4,9,10,11,30,31,32]),(5,[3,4,9,30,31,32,33]),(4,[3,4,9,30,31,32]),(3,[2,3,4,9]),(2,[8]),(1,[2,3,4,29]),(0,[1,2,3,4])] [(0,[3,4,9,30,31,32])]
def mO:Abs.Fn:=⟨4,[.t 8],
 (.seq (.ak [1,2,3,4] Ww) (.seq (.seq (.ak [2,3,4,29] Wx) (.ite (.t 29) (.seq (.ak [8] Wy) .ret) .cU)) (.seq (.ak [2,3,4,9] Wz) (.seq (.seq (.ak [3,4,9,30,31,32] WA) (.bB 0 (.loop [3,4,9,30,31,32] false mg))) (.seq (.ak [8] Qw) .ret)))))⟩
@[simp] theorem aF4:type_of% (show Ww=_∧Wx=_∧Wy=_∧Wz=_∧WA=_∧WB=_∧WE=_∧WG=_∧WH=_∧WI=_∧Qv=_∧Qw=_ from by simp only[zI,Ww,Wx,Wy,Wz,WA,WB,WE,WG,WH,WI,Qv,Qw,qo,qm,qi,qb,qf,ql,qa,qx,qe,qj,qk,qn,qu,qP,qc,qg,aj,aw];exact⟨rfl,rfl,rfl,rfl,rfl,rfl,rfl,rfl,rfl,rfl,rfl,rfl⟩):=⟨rfl,rfl,rfl,rfl,rfl,rfl,rfl,rfl,rfl,rfl,rfl,rfl⟩
theorem uN:type_of% mg.eq_1:=ah mg.eq_1
theorem HC:type_of% mO.eq_1:=ah mO.eq_1
def WJ :=[qx 1 0,qb 2 false]
def WK :=[qf 3 0 1,ql 4 1 3,qo 5 (.bin .leq (.c (.int .i64 (-10000000000))) (.t 4)),qm 6 5,qg 6 true (qf 7 0 1),qg 6 true (ql 8 1 7),qg 6 true (qf 9 1 1),qg 6 true (ql 10 1 9),qg 6 true (qk 11 .leq 8 10),qp 12 6 11,qm 13 12,qg 13 true (qf 14 1 1),qg 13 true (ql 15 1 14),qg 13 true (qn 16 .leq 15 10000000000),qp 17 13 16,qm 2 17]
def G8:bP:=jc [(1,[2]),(0,[1])]
def mP:Abs.Fn:=⟨1,[.t 2],
 (.seq (.ak [1] WJ) (.seq (.ak [2] WK) .ret))⟩
@[simp] theorem aF5:type_of% (show WJ=_∧WK=_ from by simp only[zI,WJ,WK,qo,qm,qb,qf,ql,qx,qk,qn,qp,qg];exact⟨rfl,rfl⟩):=⟨rfl,rfl⟩
theorem HD:type_of% mP.eq_1:=ah mP.eq_1
def WN :=[qx 2 0,qx 3 1,qi 4 0]
def WQ :=[qf 7 5 2,ql 8 1 7,qe 9 8,qi 10 0]
def WS :=[qk 11 .lss 10 9]
def WT :=[qm 12 10,qj 13 1 8 10,ql 14 1 13,qm 5 12,qm 6 14]
def WU :=[qM 15 4,qF 16 6 2,qL 17 1 16,qM 18 5,qJ 19 1 17 18,qL 20 1 19,qF 21 1 3,qL 22 1 21,qF 23 4 2,qL 24 1 23,qF 25 0 2,qA 26 4 25,qC 27 du [26],qK 28 .mul 24 27,qM 29 6,qK 30 .add 28 29,qJ 31 1 22 30,qL 32 1 31,qK 33 .mul 20 32,qk 34 .add 15 33,qm 4 34]
def WW :=[qn 35 .add 10 1,qm 10 35]
def oT:Abs.cZ :=
 (.seq (.ak [2,3,4,8,9,10,11] WS) (.seq (.ite (.t 11) .cU (.exit 0)) (.seq (.bB 1 (.seq (.ak [2,3,4,5,6,8,9,10] WT) (.ak [2,3,4,8,9,10] WU))) (.ak [2,3,4,8,9,10] WW))))
def WX :=[qm 36 4,qm 4 36]
def JQ:bP:=K1 [(6,[4]),(5,[2,3,4,8,9,10]),(4,[2,3,4,8,9,10]),(3,[2,3,4,5,6,8,9,10]),(2,[2,3,4,8,9,10,11]),(1,[2,3,4,8,9,10]),(0,[2,3,4])] [(0,[2,3,4,8,9,10])]
def oZ:Abs.Fn:=⟨2,[.t 4],
 (.seq (.ak [2,3,4] WN) (.seq (.seq (.ak [2,3,4,8,9,10] WQ) (.bB 0 (.loop [2,3,4,8,9,10] false oT))) (.seq (.ak [4] WX) .ret)))⟩
@[simp] theorem aF6:type_of% (show WN=_∧WQ=_∧WS=_∧WT=_∧WU=_∧WW=_∧WX=_ from by simp only[zI,WN,WQ,WS,WT,WU,WW,WX,qm,qM,qi,qf,qF,ql,qL,qA,qx,qe,qj,qJ,qk,qK,qn,qC,aj,aw];exact⟨rfl,rfl,rfl,rfl,rfl,rfl,rfl⟩):=⟨rfl,rfl,rfl,rfl,rfl,rfl,rfl⟩
theorem xN:type_of% oT.eq_1:=ah oT.eq_1
theorem Kb:type_of% oZ.eq_1:=ah oZ.eq_1
def WY :=[qx 1 0,qb 2 false]
def WZ :=[qf 4 0 1,qa 5 4 4,qc 6 jS [5],qn 7 .neq 6 0,qm 8 7,qg 8 false (qf 9 0 1),qg 8 false (qf 10 3 9),qg 8 false (ql 11 1 10),qg 8 false (qn 12 .lss 11 4),qP 13 8 12,qm 14 13,qg 14 false (qf 15 4 1),qg 14 false (ql 16 1 15),qg 14 false (qc 17 j3 [16]),qg 14 false (qn 18 .neq 17 0),qP 19 14 18,qm 20 19,qg 20 false (qf 21 5 1),qg 20 false (ql 22 1 21),qg 20 false (qo 23 (.call false (.c (.fn ct [] [])) [(.t 22),(.c (.int .i64 1)),(.c (.int .i64 100000))])),qg 20 false (qu 24 23),qP 25 20 24,qm 26 25,qg 26 false (qf 27 6 1),qg 26 false (ql 28 1 27),qg 26 false (qo 29 (.call false (.c (.fn ct [] [])) [(.t 28),(.c zI),(.c (.int .i64 1000))])),qg 26 false (qu 30 29),qP 31 26 30,qm 32 31,qg 32 false (qf 33 7 1),qg 32 false (ql 34 1 33),qg 32 false (qo 35 (.call false (.c (.fn ct [] [])) [(.t 34),(.c zI),(.c (.int .i64 3000))])),qg 32 false (qu 36 35),qP 37 32 36,qm 38 37,qg 38 false (qf 39 8 1),qg 38 false (ql 40 1 39),qg 38 false (qe 41 40),qg 38 false (qn 42 .gtr 41 8),qP 43 38 42]
def W0 :=[qb 2 false]
def W3 :=[qa 44 9 1,qc 45 dq [44],qo 46 (.mks 1 1 [(.bool false)] (.t 45) (.t 45)),qo 3 (.On [] [.aH]),qt 1 3 46]
def W4 :=[qf 47 8 1,ql 48 1 47,qo 49 (.zR fC [] [(.t 3)]),qc 50 kO [48,49],qm 2 50]
def JZ:bP:=Tl [(4,[2]),(3,[1,3]),(2,[2]),(1,[1,43]),(0,[1])] [] [] [3]
def o9:Abs.Fn:=⟨1,[.t 2],
 (.seq (.ak [1] WY) (.seq (.seq (.ak [1,43] WZ) (.ite (.t 43) (.seq (.ak [2] W0) .ret) .cU)) (.seq (.ak [1,3] W3) (.seq (.ak [2] W4) .ret))))⟩
@[simp] theorem aF7:type_of% (show WY=_∧WZ=_∧W0=_∧W3=_∧W4=_ from by simp only[zI,WY,WZ,W0,W3,W4,qo,qm,qb,qf,ql,qa,qx,qe,qn,qu,qP,qt,qc,qg,aj,aw];exact⟨rfl,rfl,rfl,rfl,rfl⟩):=⟨rfl,rfl,rfl,rfl,rfl⟩
theorem Kf:type_of% o9.eq_1:=ah o9.eq_1
def W5 :=[qb 6 false]
def W6 :=[qm 7 1,qm 8 0,qk 9 .leq 7 8,qm 10 9,qg 10 true (qm 11 0),qg 10 true (qm 12 2),qg 10 true (qk 13 .leq 11 12),qp 14 10 13,qm 6 14]
def Ol:bP:=jc [(1,[6]),(0,[0,1,2])]
def tw:Abs.Fn:=⟨3,[.t 6],
 (.seq (.ak [0,1,2] W5) (.seq (.ak [6] W6) .ret))⟩
@[simp] theorem aF8:type_of% (show W5=_∧W6=_ from by simp only[zI,W5,W6,qm,qb,qk,qp,qg];exact⟨rfl,rfl⟩):=⟨rfl,rfl⟩
theorem OD:type_of% tw.eq_1:=ah tw.eq_1
def W7 :=[qx 2 0,qx 3 1,qi 4 0]
def W8 :=[qa 5 4 2,qo 6 (.zR cS [(.t 5)] []),qo 7 (.zR gl [] [(.t 2),(.t 3)]),qo 8 (.wc 2 1 [.jj,.jj] [(0,1,(.t 6)),(1,1,(.t 7))]),qc 9 oM [8],qm 4 9]
def FI:bP:=jc [(1,[4]),(0,[2,3])]
def lD:Abs.Fn:=⟨2,[.t 4],
 (.seq (.ak [2,3] W7) (.seq (.ak [4] W8) .ret))⟩
@[simp] theorem aF9:type_of% (show W7=_∧W8=_ from by simp only[zI,W7,W8,qo,qm,qi,qa,qx,qc,aj,aw];exact⟨rfl,rfl⟩):=⟨rfl,rfl⟩
theorem F7:type_of% lD.eq_1:=ah lD.eq_1
def at1 :=[qx 3 1,qb 4 false]
def at2 :=[qm 5 0,qo 6 (.zR kf [] [(.t 3)]),qc 7 eH [5,6],qu 8 7,qm 4 8]
def B4:bP:=jc [(1,[4]),(0,[0,3])]
def u6:Abs.Fn:=⟨2,[.t 4],
 (.seq (.ak [0,3] at1) (.seq (.ak [4] at2) .ret))⟩
def W9 :=[qx 2 0,qb 3 false]
def Xa :=[qa 4 9 1,qa 5 2 2,qo 6 (.mJ [zI,zI,zI,zI,.aH,zI,zI,zI,.aH,(.str []),.aH] [(0,9,(.t 4)),(9,2,(.t 5))]),qc 7 j1 [6],qm 3 7]
def MQ:bP:=jc [(1,[3]),(0,[1,2])]
def rZ:Abs.Fn:=⟨2,[.t 3],
 (.seq (.ak [1,2] W9) (.seq (.ak [3] Xa) .ret))⟩
@[simp] theorem aGa:type_of% (show W9=_∧Xa=_ from by simp only[zI,W9,Xa,qo,qm,qb,qa,qx,qc,aj,aw];exact⟨rfl,rfl⟩):=⟨rfl,rfl⟩
theorem Ng:type_of% rZ.eq_1:=ah rZ.eq_1
def Xb :=[qx 1 0,qb 2 false]
def Xc :=[qf 5 0 1,qf 6 0 5,qa 7 4 6,qf 8 9 1,qa 9 2 8,qo 10 (.wc 1 2 [(.str []),.aH] [(0,2,(.t 9))]),qc 11 jd [7,10],qn 12 .neq 11 0]
def Xd :=[qb 2 false]
def Xe :=[qo 13 (.mJ [zI,zI] [(0,1,(.c (.int .i64 1000))),(1,1,(.c (.int .i64 100000)))]),qo 14 (.mJ [zI,zI] [(0,1,(.c zI)),(1,1,(.c (.int .i64 1000)))]),qo 15 (.mJ [zI,zI] [(0,1,(.c zI)),(1,1,(.c (.int .i64 3000)))]),qo 16 (.mJ [zI,zI] [(0,1,(.c zI)),(1,1,(.c (.int .i64 1000)))]),qo 17 (.mJ [zI,zI,zI,zI,zI,zI,zI,zI] [(0,2,(.t 13)),(2,2,(.t 14)),(4,2,(.t 15)),(6,2,(.t 16))]),qi 18 0]
def Xf :=[qn 19 .lss 18 4]
def Xg :=[qm 20 18,qo 21 (.R8 true 4 2 (.t 17) (.t 18)),qo 4 (.On [] [zI,zI]),qm 3 20,qt 2 4 21]
def Xh :=[qa 22 11 1,qm 23 3,qc 24 eo [22,23],qo 25 (.zR ec [] [(.t 4)]),qc 26 kN [24,25],qu 27 26]
def Xi :=[qb 2 false]
def Xj :=[qn 28 .add 18 1,qm 18 28]
def nH:Abs.cZ :=
 (.seq (.ak [1,17,18,19] Xf) (.seq (.ite (.t 19) .cU (.exit 0)) (.seq (.bB 1 (.seq (.ak [1,3,4,17,18] Xg) (.seq (.ak [1,17,18,27] Xh) (.ite (.t 27) (.seq (.ak [2] Xi) .ret) .cU)))) (.ak [1,17,18] Xj))))
def Qx :=[qb 2 true]
def Ho:bP:=Tl [(9,[2]),(8,[1,17,18]),(7,[2]),(6,[1,17,18,27]),(5,[1,3,4,17,18]),(4,[1,17,18,19]),(3,[1,17,18]),(2,[2]),(1,[1,12]),(0,[1])] [(0,[1,17,18])] [0] [4]
def nd:Abs.Fn:=⟨1,[.t 2],
 (.seq (.ak [1] Xb) (.seq (.seq (.ak [1,12] Xc) (.ite (.t 12) (.seq (.ak [2] Xd) .ret) .cU)) (.seq (.seq (.ak [1,17,18] Xe) (.bB 0 (.loop [1,17,18] true nH))) (.seq (.ak [2] Qx) .ret))))⟩
@[simp] theorem aGb:type_of% (show Xb=_∧Xc=_∧Xd=_∧Xe=_∧Xf=_∧Xg=_∧Xh=_∧Xi=_∧Xj=_∧Qx=_ from by simp only[zI,Xb,Xc,Xd,Xe,Xf,Xg,Xh,Xi,Xj,Qx,qo,qm,qi,qb,qf,qa,qx,qn,qu,qt,qc,aj,aw];exact⟨rfl,rfl,rfl,rfl,rfl,rfl,rfl,rfl,rfl,rfl⟩):=⟨rfl,rfl,rfl,rfl,rfl,rfl,rfl,rfl,rfl,rfl⟩
theorem vN:type_of% nH.eq_1:=ah nH.eq_1
theorem HO:type_of% nd.eq_1:=ah nd.eq_1
def Xk :=[qx 1 0,qi 2 0]
def Xl :=[qf 3 0 1,qf 4 0 3,ql 5 1 4,qf 6 0 1,qf 7 1 6,ql 8 1 7,qk 9 .mul 5 8,qf 10 0 1,qf 11 2 10,ql 12 1 11,qk 13 .mul 9 12,qm 2 13]
def LB:bP:=jc [(1,[2]),(0,[1])]
def qG:Abs.Fn:=⟨1,[.t 2],
 (.seq (.ak [1] Xk) (.seq (.ak [2] Xl) .ret))⟩
@[simp] theorem aGc:type_of% (show Xk=_∧Xl=_ from by simp only[zI,Xk,Xl,qm,qi,qf,ql,qx,qk];exact⟨rfl,rfl⟩):=⟨rfl,rfl⟩
theorem LO:type_of% qG.eq_1:=ah qG.eq_1
def Xm :=[qx 3 0,qi 6 0]
def Xn :=[qA 10 11 3,qM 11 2,qC 12 fE [10,11],qF 13 0 3,qF 14 5 13,qL 15 1 14,qM 16 1,qM 17 2,qJ 18 3 16 17,qF 19 0 18,qL 20 1 19,qA 21 11 3,qM 22 2,qC 23 fD [21,22],qK 24 .sub 20 23,qK 25 .mul 15 24,qA 26 11 3,qM 27 2,qC 28 fD [26,27],qc 29 xh [25,28],qk 30 .add 12 29,qo 31 (.mx (.c zI) (.t 30)),qm 7 31]
def Xo :=[qf 32 0 3,qf 33 4 32,ql 34 1 33,qe 35 34,qi 36 0]
def Xp :=[qk 37 .lss 36 35]
def Xq :=[qj 38 5 34 36,qa 39 5 38,qo 9 (.eK [] [zI,zI,zI,zI,zI]),qs 9 5 9 39]
def Xr :=[qF 40 2 9,qV 41 9 1 40,qM 42 1,qM 43 2,qJ 44 3 42 43,qF 45 0 44,qL 46 1 45,qK 47 .mul 41 46,qM 48 1,qM 49 2,qJ 50 3 48 49,qF 51 1 50,qL 52 1 51,qk 53 .leq 47 52]
def Xt :=[qm 54 7,qf 55 1 9,qv 56 9 1 55,qo 57 (.mx (.t 54) (.t 56)),qm 7 57]
def Xu :=[qn 58 .add 36 1,qm 36 58]
def ju:Abs.cZ :=
 (.seq (.ak [1,2,7,34,35,36,37] Xp) (.seq (.ite (.t 37) .cU (.exit 0)) (.seq (.bB 1 (.seq (.ak [1,2,7,9,34,35,36] Xq) (.seq (.ak [1,2,7,9,34,35,36,53] Xr) (.ite (.t 53) (.ak [1,2,7,34,35,36] Xt) .cU)))) (.ak [1,2,7,34,35,36] Xu))))
def Xv :=[qm 59 7,qm 6 59]
def B6:bP:=Hx [(8,[6]),(7,[1,2,7,34,35,36]),(6,[1,2,7,34,35,36]),(5,[1,2,7,9,34,35,36,53]),(4,[1,2,7,9,34,35,36]),(3,[1,2,7,34,35,36,37]),(2,[1,2,7,34,35,36]),(1,[1,2,3,7]),(0,[1,2,3])] [(0,[1,2,7,34,35,36])] [] [9] [9] [] []
def iK:Abs.Fn:=⟨3,[.t 6],
 (.seq (.ak [1,2,3] Xm) (.seq (.ak [1,2,3,7] Xn) (.seq (.seq (.ak [1,2,7,34,35,36] Xo) (.bB 0 (.loop [1,2,7,34,35,36] false ju))) (.seq (.ak [6] Xv) .ret))))⟩
@[simp] theorem aGd:type_of% (show Xm=_∧Xn=_∧Xo=_∧Xp=_∧Xq=_∧Xr=_∧Xt=_∧Xu=_∧Xv=_ from by simp only[zI,Xm,Xn,Xo,Xp,Xq,Xr,Xt,Xu,Xv,qo,qm,qM,qi,qf,qF,ql,qL,qa,qA,qv,qV,qx,qe,qj,qJ,qk,qK,qn,qs,qc,qC,aj,aw];exact⟨rfl,rfl,rfl,rfl,rfl,rfl,rfl,rfl,rfl⟩):=⟨rfl,rfl,rfl,rfl,rfl,rfl,rfl,rfl,rfl⟩
theorem sE:type_of% ju.eq_1:=ah ju.eq_1
theorem Co:type_of% iK.eq_1:=ah iK.eq_1
def Xw :=[qo 0 (.eK [] [.jj,.jj,.jj,.jj,.jj])]
def Xx :=[qo 1 (.mJ [.jj,.jj,.jj,.jj,.jj] [(2,1,(.c (.fn lj [] []))),(3,1,(.c (.fn jg [] []))),(4,1,(.c (.fn jY [] [])))]),qs 0 5 0 1]
def P8:bP:=Hx [(1,[0]),(0,[0])] [] [] [0] [0] [] []
def vc:Abs.Fn:=⟨0,[.v 0 true 5],
 (.seq (.ak [0] Xw) (.seq (.ak [0] Xx) .ret))⟩
@[simp] theorem aGe:type_of% (show Xw=_∧Xx=_ from by simp only[zI,Xw,Xx,qo,qs];exact⟨rfl,rfl⟩):=⟨rfl,rfl⟩
theorem Qr:type_of% vc.eq_1:=ah vc.eq_1
def at3 :=[qb 4 false]
def at4 :=[qm 5 0,qm 6 1,qc 7 dT [5,6],qn 8 .geq 7 0,qm 4 8]
def uB:bP:=jc [(1,[4]),(0,[0,1])]
def iu:Abs.Fn:=⟨2,[.t 4],
 (.seq (.ak [0,1] at3) (.seq (.ak [4] at4) .ret))⟩
def at5 :=[qx 2 0,qb 3 false]
def at6 :=[ql 4 1 1,qa 5 10 2,qo 6 (.call false (.t 4) [(.t 5)]),qu 7 6,qm 3 7]
def yG:bP:=jc [(1,[3]),(0,[1,2])]
def nr:Abs.Fn:=⟨2,[.t 3],
 (.seq (.ak [1,2] at5) (.seq (.ak [3] at6) .ret))⟩
def Xy :=[qx 2 0,qx 3 1,qb 4 false]
def Xz :=[qa 5 3 2,qc 6 fF [5],qm 7 6,qg 7 true (qa 8 3 3),qg 7 true (qc 9 fF [8]),qp 10 7 9,qm 11 10,qg 11 true (qf 12 0 2),qg 11 true (ql 13 1 12),qg 11 true (qf 14 0 3),qg 11 true (ql 15 1 14),qg 11 true (qk 16 .leq 13 15),qp 17 11 16,qm 18 17,qg 18 true (qf 19 1 2),qg 18 true (ql 20 1 19),qg 18 true (qf 21 1 3),qg 18 true (ql 22 1 21),qg 18 true (qk 23 .leq 20 22),qp 24 18 23,qm 25 24,qg 25 true (qf 26 2 2),qg 25 true (ql 27 1 26),qg 25 true (qf 28 2 3),qg 25 true (ql 29 1 28),qg 25 true (qk 30 .leq 27 29),qp 31 25 30,qm 4 31]
def P9:bP:=jc [(1,[4]),(0,[2,3])]
def vf:Abs.Fn:=⟨2,[.t 4],
 (.seq (.ak [2,3] Xy) (.seq (.ak [4] Xz) .ret))⟩
@[simp] theorem aGf:type_of% (show Xy=_∧Xz=_ from by simp only[zI,Xy,Xz,qm,qb,qf,ql,qa,qx,qk,qp,qc,qg,aj,aw];exact⟨rfl,rfl⟩):=⟨rfl,rfl⟩
theorem Qs:type_of% vf.eq_1:=ah vf.eq_1
def at7 :=[qb 4 false]
def aua :=[qm 5 0,qm 6 1,qc 7 dI [5,6],qn 8 .geq 7 0,qm 4 8]
def tM:bP:=jc [(1,[4]),(0,[0,1])]
def gM:Abs.Fn:=⟨2,[.t 4],
 (.seq (.ak [0,1] at7) (.seq (.ak [4] aua) .ret))⟩
def aub :=[qx 2 0,qb 3 false]
def auc :=[ql 4 1 1,qa 5 2 2,qo 6 (.call false (.t 4) [(.t 5)]),qu 7 6,qm 3 7]
def yg:bP:=jc [(1,[3]),(0,[1,2])]
def mu:Abs.Fn:=⟨2,[.t 3],
 (.seq (.ak [1,2] aub) (.seq (.ak [3] auc) .ret))⟩
def XA :=[qx 1 0,qb 2 false]
def XB :=[qf 3 0 1,qa 4 3 3,qc 5 fF [4],qm 6 5,qg 6 true (qf 7 3 1),qg 6 true (ql 8 1 7),qg 6 true (qo 9 (.call false (.c (.fn cq [] [])) [(.t 8),(.c zI),(.c (.int .i64 160))])),qp 10 6 9,qm 2 10]
def B8:bP:=jc [(1,[2]),(0,[1])]
def iM:Abs.Fn:=⟨1,[.t 2],
 (.seq (.ak [1] XA) (.seq (.ak [2] XB) .ret))⟩
@[simp] theorem aGg:type_of% (show XA=_∧XB=_ from by simp only[zI,XA,XB,qo,qm,qb,qf,ql,qa,qx,qp,qc,qg,aj,aw];exact⟨rfl,rfl⟩):=⟨rfl,rfl⟩
theorem Cq:type_of% iM.eq_1:=ah iM.eq_1
def XC :=[qx 1 0,qb 2 false]
def XD :=[qf 3 0 1,ql 4 1 3,qf 5 1 1,ql 6 1 5,qf 7 2 1,ql 8 1 7,qo 9 (.wc 3 1 [zI,zI,zI] [(0,1,(.t 4)),(1,1,(.t 6)),(2,1,(.t 8))]),qo 10 (.call false (.c (.fn ij [] [])) [(.t 9),(.c (.fn ew [] []))]),qm 2 10]
def D9:bP:=jc [(1,[2]),(0,[1])]
def kI:Abs.Fn:=⟨1,[.t 2],
 (.seq (.ak [1] XC) (.seq (.ak [2] XD) .ret))⟩
@[simp] theorem aGh:type_of% (show XC=_∧XD=_ from by simp only[zI,XC,XD,qo,qm,qb,qf,ql,qx];exact⟨rfl,rfl⟩):=⟨rfl,rfl⟩
theorem Es:type_of% kI.eq_1:=ah kI.eq_1
def aud :=[qi 4 0]
def aue :=[qm 6 0,qe 7 6,qi 8 0]
def auf :=[qk 9 .lss 8 7]
def aug :=[qm 10 8,qm 5 10]
def auh :=[qm 11 1,qm 12 0,qm 13 5,qj 14 4 12 13,qa 15 4 14,qo 16 (.call false (.t 11) [(.t 15)])]
def aui :=[qm 17 5,qm 4 17]
def auj :=[qn 18 .add 8 1,qm 8 18]
def uG:Abs.cZ :=
 (.seq (.ak [0,1,7,8,9] auf) (.seq (.ite (.t 9) .cU (.exit 0)) (.seq (.bB 1 (.seq (.ak [0,1,5,7,8] aug) (.seq (.ak [0,1,5,7,8,16] auh) (.ite (.t 16) (.seq (.ak [4] aui) .ret) .cU)))) (.ak [0,1,7,8] auj))))
def auk :=[qi 4 (-1)]
def v8:bP:=K1 [(7,[4]),(6,[0,1,7,8]),(5,[4]),(4,[0,1,5,7,8,16]),(3,[0,1,5,7,8]),(2,[0,1,7,8,9]),(1,[0,1,7,8]),(0,[0,1])] [(0,[0,1,7,8])]
def jR:Abs.Fn:=⟨2,[.t 4],
 (.seq (.ak [0,1] aud) (.seq (.seq (.ak [0,1,7,8] aue) (.bB 0 (.loop [0,1,7,8] false uG))) (.seq (.ak [4] auk) .ret)))⟩
def aul :=[qx 2 0,qb 3 false]
def aum :=[ql 4 1 1,qa 5 4 2,qo 6 (.call false (.t 4) [(.t 5)]),qu 7 6,qm 3 7]
def yH:bP:=jc [(1,[3]),(0,[1,2])]
def nu:Abs.Fn:=⟨2,[.t 3],
 (.seq (.ak [1,2] aul) (.seq (.ak [3] aum) .ret))⟩
def XE :=[qx 2 0,qi 4 0]
def XF :=[qm 6 1,qe 7 6,qf 8 8 2,ql 9 1 8,qe 10 9,qk 11 .neq 7 10,qm 5 11]
def XG :=[qi 4 1]
def XH :=[qm 13 1,qo 14 (.call false (.c (.fn kN [] [])) [(.t 13),(.c (.fn jV [] []))]),qu 15 14,qm 12 15]
def XI :=[qi 4 2]
def XJ :=[qi 4 0]
def JY:bP:=jc [(5,[4]),(2,[4]),(4,[4]),(3,[12]),(1,[1,5]),(0,[1,2])]
def o8:Abs.Fn:=⟨2,[.t 4],
 (.seq (.ak [1,2] XE) (.seq (.bB 0 (.seq (.ak [1,5] XF) (.ite (.t 5) (.seq (.ak [4] XG) .ret) (.seq (.ak [12] XH) (.ite (.t 12) (.seq (.ak [4] XI) .ret) .cU))))) (.seq (.ak [4] XJ) .ret)))⟩
@[simp] theorem aGi:type_of% (show XE=_∧XF=_∧XG=_∧XH=_∧XI=_∧XJ=_ from by simp only[zI,XE,XF,XG,XH,XI,XJ,qo,qm,qi,qf,ql,qx,qe,qk,qu];exact⟨rfl,rfl,rfl,rfl,rfl,rfl⟩):=⟨rfl,rfl,rfl,rfl,rfl,rfl⟩
theorem Ke:type_of% o8.eq_1:=ah o8.eq_1
def XK :=[qx 1 0,qo 2 (.rk 3)]
def XL :=[qf 4 0 1,qa 5 9 4,qc 6 dq [5],qi 7 0]
def XM :=[qk 8 .lss 7 6]
def XN :=[qm 9 7,qm 3 9]
def XO :=[qM 10 2,qA 11 11 1,qM 12 3,qC 13 fD [11,12],qA 14 11 1,qM 15 3,qC 16 fD [14,15],qA 17 11 1,qM 18 3,qC 19 nF [17,18],qK 20 .mul 16 19,qO 21 (.mJ [zI,zI,zI] [(0,1,(.t 13)),(1,1,(.t 20))]),qO 22 (.wc 1 3 [zI,zI,zI] [(0,3,(.t 21))]),qy 23 3 24 10 22,qm 2 23]
def XP :=[qn 24 .add 7 1,qm 7 24]
def mo:Abs.cZ :=
 (.seq (.ak [1,2,6,7,8] XM) (.seq (.ite (.t 8) .cU (.exit 0)) (.seq (.bB 1 (.seq (.ak [1,2,3,6,7] XN) (.ak [1,2,6,7] XO))) (.ak [1,2,6,7] XP))))
def XQ :=[qm 25 2,qm 2 25]
def FZ:bP:=Tl [(6,[2]),(5,[1,2,6,7]),(4,[1,2,6,7]),(3,[1,2,3,6,7]),(2,[1,2,6,7,8]),(1,[1,2,6,7]),(0,[1,2])] [(0,[1,2,6,7])] [] [2]
def lS:Abs.Fn:=⟨1,[.t 2],
 (.seq (.ak [1,2] XK) (.seq (.seq (.ak [1,2,6,7] XL) (.bB 0 (.loop [1,2,6,7] false mo))) (.seq (.ak [2] XQ) .ret)))⟩
@[simp] theorem aGj:type_of% (show XK=_∧XL=_∧XM=_∧XN=_∧XO=_∧XP=_∧XQ=_ from by simp only[zI,XK,XL,XM,XN,XO,XP,XQ,qo,qO,qm,qM,qi,qf,qa,qA,qx,qk,qK,qn,qc,qC,qy,aj,aw];exact⟨rfl,rfl,rfl,rfl,rfl,rfl,rfl⟩):=⟨rfl,rfl,rfl,rfl,rfl,rfl,rfl⟩
theorem uR:type_of% mo.eq_1:=ah mo.eq_1
theorem Gf:type_of% lS.eq_1:=ah lS.eq_1
def XR :=[qx 3 0,qo 6 (.mv (.c .aH)),qo 7 (.mv (.c .aH)),qi 8 0]
def XS :=[qm 18 1,qo 19 (.call true (.c (.fn cT [] [])) [(.t 18)]),qm 9 19]
def XT :=[qa 20 11 3,qm 21 1,qo 22 (.call true (.c (.fn l6 [] [])) [(.t 20),(.t 21)]),qo 23 (.mp (.rng) [(.t 22)])]
def XU :=[qo 26 (.mp (.ent) [(.t 23)]),qz 27 26 0,qz 28 26 1,qo 10 (.eK [] [zI,zI]),qo 11 (.eK [] [zI,zI,zI]),qs 10 2 10 27,qs 11 3 11 28]
def XV :=[qM 29 9,qF 30 0 10,qV 31 10 1 30,qJ 32 3 29 31,qW 33 11 3 11,qo 34 (.call false (.c (.fn ck [] [])) [(.t 32),(.t 33),(.c (.int .i64 (-1)))])]
def XW :=[qM 35 9,qF 36 1 10,qV 37 10 1 36,qJ 38 3 35 37,qW 39 11 3 11,qo 40 (.call false (.c (.fn ck [] [])) [(.t 38),(.t 39),(.c (.int .i64 1))])]
def nJ:Abs.cZ :=
 (.seq (.ite (.t 25) .cU (.exit 0)) (.bB 1 (.seq (.ak [1,2,3,9,10,11,23] XU) (.seq (.ak [1,2,3,9,10,11,23] XV) (.ak [1,2,3,9,23] XW)))))
def XX :=[qo 12 (.rk 3)]
def XY :=[qm 41 2,qe 42 41,qi 43 0]
def XZ :=[qk 44 .lss 43 42]
def Qy :=[qm 45 43,qj 46 1 41 43,ql 47 1 46,qm 13 45,qm 14 47]
def Qz :=[qf 48 0 3,qf 49 8 48,ql 50 1 49,qm 51 13,qj 52 3 50 51,qf 53 0 52,ql 54 1 53,qm 15 54]
def QA :=[qo 16 (.eK [] [zI,zI,zI])]
def QB :=[qm 55 14,qn 56 .lss 55 0]
def QC :=[qM 57 9,qM 58 15,qJ 59 3 57 58,qF 60 0 3,qF 61 8 60,qL 62 1 61,qM 63 13,qJ 64 3 62 63,qA 65 3 64,qM 66 14,qC 67 oD [65,66],qo 68 (.call false (.c (.fn ck [] [])) [(.t 59),(.t 67),(.c (.int .i64 1))])]
def QD :=[qM 69 1,qM 70 15,qJ 71 3 69 70,qA 72 3 71,qM 73 14,qM 74 1,qM 75 15,qJ 76 3 74 75,qF 77 0 76,qL 78 1 77,qN 79 .quo 78 8,qO 80 (.mn (.t 73) (.t 79)),qc 81 mI [72,80],qs 16 3 16 81]
def QE :=[qM 82 9,qM 83 15,qJ 84 3 82 83,qW 85 16 3 16,qo 86 (.call false (.c (.fn ck [] [])) [(.t 84),(.t 85),(.c (.int .i64 (-1)))])]
def QF :=[qm 87 12,qw 88 16 3 16,qo 89 (.wc 1 3 [zI,zI,zI] [(0,3,(.t 88))]),qy 90 3 24 87 89,qm 12 90]
def QG :=[qn 91 .add 43 1,qm 43 91]
def mq:Abs.cZ :=
 (.seq (.ak [1,3,9,12,41,42,43,44] XZ) (.seq (.ite (.t 44) .cU (.exit 2)) (.seq (.bB 3 (.seq (.ak [1,3,9,12,13,14,41,42,43] Qy) (.seq (.ak [1,3,9,12,13,14,15,41,42,43] Qz) (.seq (.ak [1,3,9,12,13,14,15,16,41,42,43] QA) (.seq (.seq (.ak [1,3,9,12,13,14,15,16,41,42,43,56] QB) (.ite (.t 56) (.ak [1,3,9,12,16,41,42,43] QC) (.seq (.ak [1,3,9,12,15,16,41,42,43] QD) (.ak [1,3,9,12,16,41,42,43] QE)))) (.ak [1,3,9,12,41,42,43] QF)))))) (.ak [1,3,9,12,41,42,43] QG))))
def QH :=[qm 92 9,qe 93 92,qi 94 0]
def QI :=[qk 95 .lss 94 93]
def QJ :=[qm 96 94,qm 17 96]
def QK :=[qM 97 9,qM 98 17,qJ 99 3 97 98,qA 100 11 3,qM 101 17,qC 102 oF [100,101],qo 103 (.call false (.c (.fn ck [] [])) [(.t 99),(.t 102),(.c (.int .i64 1))])]
def QL :=[qn 104 .add 94 1,qm 94 104]
def mr:Abs.cZ :=
 (.seq (.ak [3,9,12,93,94,95] QI) (.seq (.ite (.t 95) .cU (.exit 4)) (.seq (.bB 5 (.seq (.ak [3,9,12,17,93,94] QJ) (.ak [3,9,12,93,94] QK))) (.ak [3,9,12,93,94] QL))))
def QM :=[qa 105 11 3,qm 106 9,qc 107 l7 [105,106],qu 108 107]
def QN :=[qo 6 (.mv (.c .aH)),qo 7 (.mv (.c .aH)),qi 8 9]
def QO :=[qm 109 9,qm 110 12,qm 6 109,qm 7 110,qi 8 0]
def fN:Abs.cZ :=
 (.seq (.ak [1,2,3,9,12] XX) (.seq (.seq (.ak [1,3,9,12,41,42,43] XY) (.bB 2 (.loop [1,3,9,12,41,42,43] false mq))) (.seq (.seq (.ak [3,9,12,93,94] QH) (.bB 4 (.loop [3,9,12,93,94] false mr))) (.seq (.seq (.ak [9,12,108] QM) (.ite (.t 108) (.seq (.ak [6,7,8] QN) .ret) .cU)) (.seq (.ak [6,7,8] QO) .ret)))))
def Hs:bP:=Hx [(26,[6,7,8]),(25,[6,7,8]),(24,[9,12,108]),(23,[3,9,12,93,94]),(22,[3,9,12,93,94]),(21,[3,9,12,17,93,94]),(20,[3,9,12,93,94,95]),(19,[3,9,12,93,94]),(18,[1,3,9,12,41,42,43]),(17,[1,3,9,12,41,42,43]),(14,[1,3,9,12,16,41,42,43]),(16,[1,3,9,12,16,41,42,43]),(15,[1,3,9,12,15,16,41,42,43]),(13,[1,3,9,12,13,14,15,16,41,42,43,56]),(12,[1,3,9,12,13,14,15,16,41,42,43]),(11,[1,3,9,12,13,14,15,41,42,43]),(10,[1,3,9,12,13,14,41,42,43]),(9,[1,3,9,12,41,42,43,44]),(8,[1,3,9,12,41,42,43]),(7,[1,2,3,9,12]),(6,[1,2,3,9,23]),(5,[1,2,3,9,10,11,23]),(4,[1,2,3,9,10,11,23]),(3,[1,2,3,9,23,25]),(2,[1,2,3,9,23]),(1,[1,2,3,9]),(0,[1,2,3])] [(4,[3,9,12,93,94]),(2,[1,3,9,12,41,42,43]),(0,[1,2,3,9,23])] [] [10,11,12,16] [10,11,16] [] [2002,1001]
def ni:Abs.Fn:=⟨3,[.t 6,.t 7,.t 8],
 (.seq (.ak [1,2,3] XR) (.seq (.ak [1,2,3,9] XS) (.seq (.ak [1,2,3,9,23] XT) (.j7 [1,2,3,9,23] (.t 23) 24 25 0 nJ fN))))⟩
@[simp] theorem aGk:type_of% (show XR=_∧XS=_∧XT=_∧XU=_∧XV=_∧XW=_∧XX=_∧XY=_∧XZ=_∧Qy=_∧Qz=_∧QA=_∧QB=_∧QC=_∧QD=_∧QE=_∧QF=_∧QG=_∧QH=_∧QI=_∧QJ=_∧QK=_∧QL=_∧QM=_∧QN=_∧QO=_ from by simp only[zI,XR,XS,XT,XU,XV,XW,XX,XY,XZ,Qy,Qz,QA,QB,QC,QD,QE,QF,QG,QH,QI,QJ,QK,QL,QM,QN,QO,qo,qO,qm,qM,qi,qf,qF,ql,qL,qa,qA,qV,qw,qW,qx,qe,qj,qJ,qk,qn,qN,qu,qs,qz,qc,qC,qy,aj,aw];exact⟨rfl,rfl,rfl,rfl,rfl,rfl,rfl,rfl,rfl,rfl,rfl,rfl,rfl,rfl,rfl,rfl,rfl,rfl,rfl,rfl,rfl,rfl,rfl,rfl,rfl,rfl⟩):=⟨rfl,rfl,rfl,rfl,rfl,rfl,rfl,rfl,rfl,rfl,rfl,rfl,rfl,rfl,rfl,rfl,rfl,rfl,rfl,rfl,rfl,rfl,rfl,rfl,rfl,rfl⟩
theorem vP:type_of% nJ.eq_1:=ah nJ.eq_1
theorem uS:type_of% mq.eq_1:=ah mq.eq_1
theorem uT:type_of% mr.eq_1:=ah mr.eq_1
theorem Cp:type_of% fN.eq_1:=ah fN.eq_1
theorem HS:type_of% ni.eq_1:=ah ni.eq_1
def X0 :=[qb 6 false]
def X2 :=[qm 7 1,qm 8 0,qk 9 .leq 7 8,qm 10 9,qg 10 true (qm 11 0),qg 10 true (qm 12 2),qg 10 true (qk 13 .leq 11 12),qp 14 10 13,qm 6 14]
def MR:bP:=jc [(1,[6]),(0,[0,1,2])]
def sb:Abs.Fn:=⟨3,[.t 6],
 (.seq (.ak [0,1,2] X0) (.seq (.ak [6] X2) .ret))⟩
@[simp] theorem aGl:type_of% (show X0=_∧X2=_ from by simp only[zI,X0,X2,qm,qb,qk,qp,qg];exact⟨rfl,rfl⟩):=⟨rfl,rfl⟩
theorem Nh:type_of% sb.eq_1:=ah sb.eq_1
def aun :=[qx 3 1,qb 4 false]
def auo :=[qm 5 0,qo 6 (.zR ln [] [(.t 3)]),qc 7 fk [5,6],qu 8 7,qm 4 8]
def Dm:bP:=jc [(1,[4]),(0,[0,3])]
def vS:Abs.Fn:=⟨2,[.t 4],
 (.seq (.ak [0,3] aun) (.seq (.ak [4] auo) .ret))⟩
def X3 :=[qx 1 0,qb 2 false]
def X4 :=[qf 3 0 1,ql 4 1 3,qo 5 (.call false (.c (.fn dz [] [])) [(.t 4),(.c zI),(.c (.int .i64 400))]),qm 6 5,qg 6 true (qf 7 1 1),qg 6 true (ql 8 1 7),qg 6 true (qo 9 (.call false (.c (.fn dz [] [])) [(.t 8),(.c (.int .i64 1)),(.c (.int .i64 10000))])),qp 10 6 9,qm 11 10,qg 11 true (qf 12 2 1),qg 11 true (ql 13 1 12),qg 11 true (qo 14 (.call false (.c (.fn dz [] [])) [(.t 13),(.c zI),(.c (.int .i64 4000))])),qp 15 11 14,qm 16 15,qg 16 true (qf 17 4 1),qg 16 true (ql 18 1 17),qg 16 true (qo 19 (.call false (.c (.fn dz [] [])) [(.t 18),(.c zI),(.c (.int .i64 2000))])),qp 20 16 19,qm 21 20,qg 21 true (qf 22 2 1),qg 21 true (ql 23 1 22),qg 21 true (qf 24 3 1),qg 21 true (ql 25 1 24),qg 21 true (qk 26 .lss 23 25),qp 27 21 26,qm 28 27,qg 28 true (qf 29 3 1),qg 28 true (ql 30 1 29),qg 28 true (qn 31 .leq 30 4000),qp 32 28 31,qm 2 32]
def IJ:bP:=jc [(1,[2]),(0,[1])]
def ou:Abs.Fn:=⟨1,[.t 2],
 (.seq (.ak [1] X3) (.seq (.ak [2] X4) .ret))⟩
@[simp] theorem aGm:type_of% (show X3=_∧X4=_ from by simp only[zI,X3,X4,qo,qm,qb,qf,ql,qx,qk,qn,qp,qg];exact⟨rfl,rfl⟩):=⟨rfl,rfl⟩
theorem I1:type_of% ou.eq_1:=ah ou.eq_1
def X5 :=[qx 2 0,qx 3 1,qi 4 0]
def X6 :=[qf 6 1 3,ql 7 1 6,qf 8 0 3,ql 9 1 8,qf 10 0 2,qf 11 2 10,ql 12 1 11,qk 13 .mul 9 12,qk 14 .sub 7 13,qm 5 14]
def X7 :=[qm 16 5,qn 17 .leq 16 0,qm 15 17]
def X8 :=[qi 4 0]
def X9 :=[qf 19 1 3,ql 20 1 19,qf 21 0 3,ql 22 1 21,qf 23 0 2,qf 24 3 23,ql 25 1 24,qk 26 .mul 22 25,qk 27 .geq 20 26,qm 18 27]
def Ya :=[qf 28 0 3,ql 29 1 28,qm 4 29]
def Yb :=[qm 30 5,qf 31 0 2,qf 32 3 31,ql 33 1 32,qf 34 0 2,qf 35 2 34,ql 36 1 35,qk 37 .sub 33 36,qk 38 .quo 30 37,qm 4 38]
def F5:bP:=jc [(6,[4]),(3,[4]),(5,[4]),(4,[2,3,5,18]),(2,[2,3,5,15]),(1,[2,3,5]),(0,[2,3])]
def lY:Abs.Fn:=⟨2,[.t 4],
 (.seq (.ak [2,3] X5) (.seq (.ak [2,3,5] X6) (.seq (.bB 0 (.seq (.ak [2,3,5,15] X7) (.ite (.t 15) (.seq (.ak [4] X8) .ret) (.seq (.ak [2,3,5,18] X9) (.ite (.t 18) (.seq (.ak [4] Ya) .ret) .cU))))) (.seq (.ak [4] Yb) .ret))))⟩
@[simp] theorem aGn:type_of% (show X5=_∧X6=_∧X7=_∧X8=_∧X9=_∧Ya=_∧Yb=_ from by simp only[zI,X5,X6,X7,X8,X9,Ya,Yb,qm,qi,qf,ql,qx,qk,qn];exact⟨rfl,rfl,rfl,rfl,rfl,rfl,rfl⟩):=⟨rfl,rfl,rfl,rfl,rfl,rfl,rfl⟩
theorem Gl:type_of% lY.eq_1:=ah lY.eq_1
def Yc :=[qb 6 false]
def Yd :=[qm 7 1,qm 8 0,qk 9 .leq 7 8,qm 10 9,qg 10 true (qm 11 0),qg 10 true (qm 12 2),qg 10 true (qk 13 .leq 11 12),qp 14 10 13,qm 6 14]
def MN:bP:=jc [(1,[6]),(0,[0,1,2])]
def rX:Abs.Fn:=⟨3,[.t 6],
 (.seq (.ak [0,1,2] Yc) (.seq (.ak [6] Yd) .ret))⟩
@[simp] theorem aGo:type_of% (show Yc=_∧Yd=_ from by simp only[zI,Yc,Yd,qm,qb,qk,qp,qg];exact⟨rfl,rfl⟩):=⟨rfl,rfl⟩
theorem Nd:type_of% rX.eq_1:=ah rX.eq_1
def aup :=[qx 3 1,qb 4 false]
def auq :=[qm 5 0,qo 6 (.zR kc [] [(.t 3)]),qc 7 eZ [5,6],qu 8 7,qm 4 8]
def B0:bP:=jc [(1,[4]),(0,[0,3])]
def uZ:Abs.Fn:=⟨2,[.t 4],
 (.seq (.ak [0,3] aup) (.seq (.ak [4] auq) .ret))⟩
def Ye :=[qx 2 0,qb 3 false]
def Yf :=[qf 5 1 2,ql 6 1 5,ql 7 1 1,qo 8 (.call false (.c (.fn kM [] [])) [(.t 6),(.c zI),(.t 7)]),qm 4 8]
def Yg :=[qf 9 1 2,ql 10 1 9,qt 1 1 10]
def Yh :=[qm 11 4,qm 12 11,qg 12 true (qf 13 0 2),qg 12 true (ql 14 1 13),qg 12 true (qo 15 (.call false (.c (.fn kM [] [])) [(.t 14),(.c (.int .i64 1)),(.c (.int .i64 100000))])),qp 16 12 15,qm 3 16]
def D2:bP:=Tl [(3,[3]),(2,[2,4]),(1,[1,2,4]),(0,[1,2])] [] [] [1]
def kB:Abs.Fn:=⟨2,[.t 3],
 (.seq (.ak [1,2] Ye) (.seq (.ak [1,2,4] Yf) (.seq (.ak [2,4] Yg) (.seq (.ak [3] Yh) .ret))))⟩
@[simp] theorem aGp:type_of% (show Ye=_∧Yf=_∧Yg=_∧Yh=_ from by simp only[zI,Ye,Yf,Yg,Yh,qo,qm,qb,qf,ql,qx,qp,qt,qg];exact⟨rfl,rfl,rfl,rfl⟩):=⟨rfl,rfl,rfl,rfl⟩
theorem Ej:type_of% kB.eq_1:=ah kB.eq_1
def aur :=[qx 3 1,qb 4 false]
def aus :=[qm 5 0,qo 6 (.zR iS [] [(.t 3)]),qc 7 ep [5,6],qu 8 7,qm 4 8]
def Ap:bP:=jc [(1,[4]),(0,[0,3])]
def tn:Abs.Fn:=⟨2,[.t 4],
 (.seq (.ak [0,3] aur) (.seq (.ak [4] aus) .ret))⟩
def Yi :=[qx 1 0,qb 2 false]
def Yj :=[qa 3 4 1,qc 4 l9 [3],qn 5 .eql 4 0,qm 2 5]
def Lz:bP:=jc [(1,[2]),(0,[1])]
def qB:Abs.Fn:=⟨1,[.t 2],
 (.seq (.ak [1] Yi) (.seq (.ak [2] Yj) .ret))⟩
@[simp] theorem aGq:type_of% (show Yi=_∧Yj=_ from by simp only[zI,Yi,Yj,qm,qb,qa,qx,qn,qc,aj,aw];exact⟨rfl,rfl⟩):=⟨rfl,rfl⟩
theorem LM:type_of% qB.eq_1:=ah qB.eq_1
def Yk :=[qx 1 0,qi 2 0]
def Yl :=[qa 3 4 1,qc 4 ig [3],qu 5 4]
def Ym :=[qi 2 1]
def Yn :=[qi 2 0]
def F3:bP:=jc [(3,[2]),(2,[2]),(1,[5]),(0,[1])]
def lW:Abs.Fn:=⟨1,[.t 2],
 (.seq (.ak [1] Yk) (.seq (.seq (.ak [5] Yl) (.ite (.t 5) (.seq (.ak [2] Ym) .ret) .cU)) (.seq (.ak [2] Yn) .ret)))⟩
@[simp] theorem aGr:type_of% (show Yk=_∧Yl=_∧Ym=_∧Yn=_ from by simp only[zI,Yk,Yl,Ym,Yn,qi,qa,qx,qu,qc,aj,aw];exact⟨rfl,rfl,rfl,rfl⟩):=⟨rfl,rfl,rfl,rfl⟩
theorem Gj:type_of% lW.eq_1:=ah lW.eq_1
def Yo :=[qx 2 0,qo 3 (.Ot (.t 1)),qo 4 (.mv (.c .jj))]
def Yp :=[qo 5 (.zR jf [] [(.t 2),(.t 3)]),qm 4 5]
def IC:bP:=Tl [(1,[4]),(0,[2,3])] [] [] [3]
def od:Abs.Fn:=⟨2,[.t 4],
 (.seq (.ak [2,3] Yo) (.seq (.ak [4] Yp) .ret))⟩
@[simp] theorem aGs:type_of% (show Yo=_∧Yp=_ from by simp only[zI,Yo,Yp,qo,qm,qx];exact⟨rfl,rfl⟩):=⟨rfl,rfl⟩
theorem IU:type_of% od.eq_1:=ah od.eq_1
def aut :=[qo 2 (.mv (.c .aH))]
def auu :=[qm 7 0,qo 8 (.BA (.Jv) [(.t 7)]),qo 9 (.bin .shr (.t 8) (.c (.int .u64 8))),qo 10 (.Tx .u8 (.t 9)),qm 11 0,qo 12 (.BA (.Jv) [(.t 11)]),qo 13 (.Tx .u8 (.t 12)),qm 14 0,qc 15 AI [14],qm 3 10,qm 4 13,qm 5 15]
def auv :=[qm 16 3,qm 17 4,qm 18 3,qo 19 (.un .xor (.t 18)),qm 20 4,qo 21 (.un .xor (.t 20)),qo 22 (.UR 4 1 [(.int .u8 0),(.int .u8 0),(.int .u8 0),(.int .u8 0)] [(0,1,(.t 16)),(1,1,(.t 17)),(2,1,(.t 19)),(3,1,(.t 21))]),qm 23 0,qy 24 1 1 22 23,qm 6 24]
def auw :=[qm 25 6,qm 26 5,qo 27 (.bin .shr (.t 26) (.c (.int .u64 8))),qo 28 (.Tx .u8 (.t 27)),qm 29 5,qo 30 (.Tx .u8 (.t 29)),qo 31 (.wc 2 1 [(.int .u8 0),(.int .u8 0)] [(0,1,(.t 28)),(1,1,(.t 30))]),qy 32 1 1 25 31,qm 2 32]
def JV:bP:=Tl [(3,[2]),(2,[5,6]),(1,[0,3,4,5]),(0,[0])] [] [] [22]
def Bo:Abs.Fn:=⟨1,[.t 2],
 (.seq (.ak [0] aut) (.seq (.ak [0,3,4,5] auu) (.seq (.ak [5,6] auv) (.seq (.ak [2] auw) .ret))))⟩
def Yr :=[qo 4 (.UU)]
def Yt :=[qo 6 (.isi false (.t 4))]
def Yu :=[qm 1 4]
def Yw :=[qo 7 (.tas 311 (some (.agg [zI])) (.t 4)),qz 8 7 1,qz 9 7 0]
def Yx :=[qo 2 (.eK [] [zI]),qs 2 1 2 9]
def Yy :=[qf 10 0 2,qv 11 2 1 10,qt 1 0 11]
def Yz :=[qm 3 4]
def YA :=[qm 5 3]
def YB:List Abs.Op:=[]
def Dg:bP:=⟨[(4,[]),(7,[]),(6,[0,2]),(2,[]),(1,[3]),(5,[0,4,8,9]),(3,[0,4,6]),(0,[0,4])],[],[],[0,2],[2],[],[],[],[],[],[(2,some 1)]⟩
def jG:Abs.Fn:=⟨1,[],
 (.seq (.ak [0,4] Yr) (.bB 0 (.seq (.ak [0,4,6] Yt) (.ite (.t 6) (.ak [] Yu) (.seq (.ak [0,4,8,9] Yw) (.ite (.t 8) (.seq (.ak [0,2] Yx) (.ak [] Yy)) (.seq (.ak [3] Yz) (.jk [] YA ⟨none,none,false,.UT (.t 5)⟩ YB))))))))⟩
@[simp] theorem aGt:type_of% (show Yr=_∧Yt=_∧Yu=_∧Yw=_∧Yx=_∧Yy=_∧Yz=_∧YA=_∧YB=_ from by simp only[zI,Yr,Yt,Yu,Yw,Yx,Yy,Yz,YA,YB,qo,qm,qf,qv,qs,qt,qz];exact⟨rfl,rfl,rfl,rfl,rfl,rfl,rfl,rfl,rfl⟩):=⟨rfl,rfl,rfl,rfl,rfl,rfl,rfl,rfl,rfl⟩
theorem vL:type_of% jG.eq_1:=ah jG.eq_1
def YC :=[qo 2 (.eK [] [(.bool false),zI,zI,.jj]),qo 3 (.mv (.c (.str []))),qo 4 (.rk 1)]
def YD :=[qm 10 0,qo 11 (.call false (.c (.fn gJ [] [])) [(.t 10),(.c (.str [32]))]),qm 5 11]
def YE :=[qo 13 (.call true (.c (.fn re [] [])) []),qM 14 5,qO 15 (.fJ 1 (.t 14) (.c zI)),qO 16 (.ldi false 1 (.t 15)),qO 17 (.mp (.get none (.agg [(.bool false),zI,zI,.jj]) true) [(.t 13),(.t 16)]),qM 12 17,qZ 18 12 0,qZ 19 12 1,qS 2 4 2 18,qm 6 19]
def YF :=[qm 20 6]
def YG:List Abs.Op:=[]
def YH :=[qm 22 5,qo 23 (.UB 1 (.t 22) (some (.c (.int .i64 1))) none none),qm 5 23]
def YI :=[qf 24 0 2,qv 25 2 1 24]
def YJ :=[qm 26 5,qe 27 26,qn 28 .gtr 27 0]
def YK:List Abs.Op:=[]
def YL :=[qM 30 5,qO 31 (.fJ 1 (.t 30) (.c zI)),qL 32 1 31,qM 33 5,qO 34 (.UB 1 (.t 33) (some (.c (.int .i64 1))) none none),qM 3 32,qm 5 34]
def QP :=[qm 35 5,qe 36 35,qi 37 0]
def QQ :=[qk 38 .lss 37 36]
def QR :=[qj 39 1 35 37,ql 40 1 39,qm 8 40]
def QS :=[qm 41 4,qm 42 8]
def QT :=[qo 44 (.wc 1 1 [zI] [(0,1,(.t 43))]),qy 45 1 8 41 44,qm 4 45]
def QU :=[qn 46 .add 37 1,qm 37 46]
def n9:Abs.cZ :=
 (.seq (.ak [2,3,4,35,36,37,38] QQ) (.seq (.ite (.t 38) .cU (.exit 0)) (.seq (.bB 1 (.seq (.ak [2,3,4,8,35,36,37] QR) (.jk [2,3,4,35,36,37] QS ⟨some 43,none,false,.call false (.c (.fn mH [] [])) [(.t 42)]⟩ QT))) (.ak [2,3,4,35,36,37] QU))))
def QV :=[qm 47 4,qe 48 47,qf 49 1 2,qv 50 2 1 49,qk 51 .sub 48 50,qm 9 51]
def QW :=[qm 52 9,qn 53 .eql 52 0,qm 54 53,qg 54 false (qm 55 9),qg 54 false (qn 56 .gtr 55 0),qg 54 false (qm 57 56),qg 57 true (qf 58 2 2),qg 57 true (qv 59 2 1 58),qg 57 true (qn 60 .gtr 59 0),qg 54 false (qp 61 57 60),qg 54 false (qm 62 61),qg 62 true (qm 63 9),qg 62 true (qf 64 2 2),qg 62 true (qv 65 2 1 64),qg 62 true (qk 66 .rem 63 65),qg 62 true (qn 67 .eql 66 0),qg 54 false (qp 68 62 67),qP 69 54 68]
def QX:List Abs.Op:=[]
def QY :=[qw 71 2 4 2,qm 72 3,qm 73 4,qs 2 4 2 71,qm 3 72,qm 4 73]
def JU:bP:=⟨[(15,[2,3,4]),(14,[2,3,4]),(13,[2,3,4,9]),(12,[2,3,4,35,36,37]),(11,[2,3,4,35,36,37]),(10,[2,3,4,8,35,36,37]),(9,[2,3,4,35,36,37,38]),(8,[2,3,4,35,36,37]),(7,[2,3,4,5]),(6,[2,4,5]),(5,[2,3,4,5,25]),(4,[2,3,4,5]),(3,[2,3,4,5]),(2,[2,3,4,5,6]),(1,[2,3,4,5]),(0,[0,2,3,4])],[(0,[2,3,4,35,36,37])],[],[2,4],[2],[],[2000],[],[14],[],[(3,some 1),(6,some 3),(11,some 2),(14,some 18)]⟩
def o5:Abs.Fn:=⟨1,[.v 2 true 4,.t 3,.t 4],
 (.seq (.ak [0,2,3,4] YC) (.seq (.ak [2,3,4,5] YD) (.seq (.ak [2,3,4,5,6] YE) (.seq (.jk [2,3,4,5] YF ⟨some 21,none,false,.call false (.c (.fn bd [] [])) [(.t 20),(.c (.int .i64 4))]⟩ YG) (.seq (.ak [2,3,4,5] YH) (.seq (.seq (.ak [2,3,4,5,25] YI) (.ite (.t 25) (.seq (.jk [2,4,5] YJ ⟨some 29,none,false,.call false (.c (.fn bd [] [])) [(.t 28),(.c (.int .i64 4))]⟩ YK) (.ak [2,3,4,5] YL)) .cU)) (.seq (.seq (.ak [2,3,4,35,36,37] QP) (.bB 0 (.loop [2,3,4,35,36,37] false n9))) (.seq (.ak [2,3,4,9] QV) (.seq (.jk [2,3,4] QW ⟨some 70,none,false,.call false (.c (.fn bd [] [])) [(.t 69),(.c (.int .i64 4))]⟩ QX) (.seq (.ak [2,3,4] QY) .ret))))))))))⟩
@[simp] theorem aGu:type_of% (show YC=_∧YD=_∧YE=_∧YF=_∧YG=_∧YH=_∧YI=_∧YJ=_∧YK=_∧YL=_∧QP=_∧QQ=_∧QR=_∧QS=_∧QT=_∧QU=_∧QV=_∧QW=_∧QX=_∧QY=_ from by simp only[zI,YC,YD,YE,YF,YG,YH,YI,YJ,YK,YL,QP,QQ,QR,QS,QT,QU,QV,QW,QX,QY,qo,qO,qm,qM,qi,qf,ql,qL,qv,qw,qe,qj,qk,qn,qp,qP,qs,qS,qZ,qy,qg];exact⟨rfl,rfl,rfl,rfl,rfl,rfl,rfl,rfl,rfl,rfl,rfl,rfl,rfl,rfl,rfl,rfl,rfl,rfl,rfl,rfl⟩):=⟨rfl,rfl,rfl,rfl,rfl,rfl,rfl,rfl,rfl,rfl,rfl,rfl,rfl,rfl,rfl,rfl,rfl,rfl,rfl,rfl⟩
theorem wT:type_of% n9.eq_1:=ah n9.eq_1
theorem mF:type_of% o5.eq_1:=ah o5.eq_1
def auz :=[qi 4 0]
def auA :=[qm 6 0,qe 7 6,qi 8 0]
def auB :=[qk 9 .lss 8 7]
def auC :=[qm 10 8,qm 5 10]
def auD :=[qm 11 1,qm 12 0,qm 13 5,qj 14 1 12 13,ql 15 1 14,qo 16 (.call false (.t 11) [(.t 15)])]
def auE :=[qm 17 5,qm 4 17]
def auF :=[qn 18 .add 8 1,qm 8 18]
def xA:Abs.cZ :=
 (.seq (.ak [0,1,7,8,9] auB) (.seq (.ite (.t 9) .cU (.exit 0)) (.seq (.bB 1 (.seq (.ak [0,1,5,7,8] auC) (.seq (.ak [0,1,5,7,8,16] auD) (.ite (.t 16) (.seq (.ak [4] auE) .ret) .cU)))) (.ak [0,1,7,8] auF))))
def auG :=[qi 4 (-1)]
def zu:bP:=K1 [(7,[4]),(6,[0,1,7,8]),(5,[4]),(4,[0,1,5,7,8,16]),(3,[0,1,5,7,8]),(2,[0,1,7,8,9]),(1,[0,1,7,8]),(0,[0,1])] [(0,[0,1,7,8])]
def sF:Abs.Fn:=⟨2,[.t 4],
 (.seq (.ak [0,1] auz) (.seq (.seq (.ak [0,1,7,8] auA) (.bB 0 (.loop [0,1,7,8] false xA))) (.seq (.ak [4] auG) .ret)))⟩
def auH :=[qb 4 false]
def auI :=[qm 5 0,qm 6 1,qc 7 eu [5,6],qn 8 .geq 7 0,qm 4 8]
def zt:bP:=jc [(1,[4]),(0,[0,1])]
def nS:Abs.Fn:=⟨2,[.t 4],
 (.seq (.ak [0,1] auH) (.seq (.ak [4] auI) .ret))⟩
def auJ :=[qb 3 false]
def auK :=[ql 4 1 1,qm 5 0,qo 6 (.call false (.t 4) [(.t 5)]),qu 7 6,qm 3 7]
def Ix:bP:=jc [(1,[3]),(0,[0,1])]
def zE:Abs.Fn:=⟨2,[.t 3],
 (.seq (.ak [0,1] auJ) (.seq (.ak [3] auK) .ret))⟩
def tF1:List (Nat×bP×Abs.Fn):=[(eP,F6,lZ),(dj,zw,nT),(ed,D8,kH),(cq,LF,qX),(ef,Ea,kJ),(cz,uC,iw),(eN,Av,oK),(tU,Vk,yZ),(nY,LA,qD),(iU,II,om),(ji,F4,lX),(oG,IK,ov),(ig,D7,kG),(pz,J4,pj),(pA,J5,pk),(jT,Hf,mU),(tC,Oh,tp),(jN,Dj,jJ),(nB,He,mT),(vi,IA,zG),(aN,FP,lJ),(eC,xr,qQ),(iQ,Iz,n8),(l4,FM,lG),(rp,Oa,tc),(du,DT,kl),(q7,Lv,CV),(gp,Dd,jD),(dR,MH,rR),(nv,G7,mO),(nw,G8,mP),(mG,JQ,oZ),(jW,JZ,o9),(ct,Ol,tw),(jd,FI,lD),(iT,B4,u6),(pr,MQ,rZ),(j1,Ho,nd),(dq,LB,qG),(fO,B6,iK),(vl,P8,vc),(di,uB,iu),(fG,yG,nr),(vm,P9,vf),(da,tM,gM),(fe,yg,mu),(fS,B8,iM),(fF,D9,kI),(fR,v8,jR),(iX,yH,nu),(po,JY,o8),(jh,FZ,lS),(nE,Hs,ni),(dz,MR,sb),(jO,Dm,vS),(ll,IJ,ou),(ma,F5,lY),(kM,MN,rX),(iR,B0,uZ),(ea,D2,kB),(ke,Ap,tn),(nX,Lz,qB),(l9,F3,lW),(oC,IC,od),(wy,JV,Bo),(de,Dg,jG),(dp,JU,o5),(jv,zu,sF),(cg,zt,nS),(rG,Ix,zE)]
theorem kF1:(tF1.map fun p=>chk p)=tF1.map fun p=>some p.2.2:=by kernel_rfl
end Go.Proofs.YtfgljaglidhjiaaGreatDoor
