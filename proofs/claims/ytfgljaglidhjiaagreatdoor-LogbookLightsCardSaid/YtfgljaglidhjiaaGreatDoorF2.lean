import Derived.Test.YtfgljaglidhjiaaGreatDoorIds
set_option linter.all false
set_option maxRecDepth 100000
namespace Go.Proofs.YtfgljaglidhjiaaGreatDoor
open Go Go.Abs
def Zn :=[qo 2 (.eJ [] [(.bool false),zI,zI,.iS]),qo 3 (.mv (.c (.str []))),qo 4 (.pB 1)]
def Zo :=[qm 10 0,qo 11 (.call false (.c (.fn gM [] [])) [(.t 10),(.c (.str [32]))]),qm 5 11]
def Zp :=[qo 13 (.call true (.c (.fn pz [] [])) []),qM 14 5,qO 15 (.fh 1 (.t 14) (.c zI)),qO 16 (.Vp false 1 (.t 15)),qO 17 (.mp (.get none (.agg [(.bool false),zI,zI,.iS]) true) [(.t 13),(.t 16)]),qM 12 17,qZ 18 12 0,qZ 19 12 1,qS 2 4 2 18,qm 6 19]
def Zq :=[qm 20 6]
def Zr:List Abs.Op:=[]
def Zs :=[qm 22 5,qo 23 (.Md 1 (.t 22) (some (.c (.int .i64 1))) none none),qm 5 23]
def Zt :=[qf 24 0 2,qv 25 2 1 24]
def Zu :=[qm 26 5,qe 27 26,qn 28 .gtr 27 0]
def Zv:List Abs.Op:=[]
def Zw :=[qM 30 5,qO 31 (.fh 1 (.t 30) (.c zI)),qL 32 1 31,qM 33 5,qO 34 (.Md 1 (.t 33) (some (.c (.int .i64 1))) none none),qM 3 32,qm 5 34]
def RW :=[qm 35 5,qe 36 35,qi 37 0]
def RX :=[qk 38 .lss 37 36]
def RY :=[qj 39 1 35 37,ql 40 1 39,qm 8 40]
def RZ :=[qm 41 4,qm 42 8]
def R0 :=[qo 44 (.uH 1 1 [zI] [(0,1,(.t 43))]),qy 45 1 8 41 44,qm 4 45]
def R4 :=[qn 46 .add 37 1,qm 37 46]
def mU:Abs.cX :=
 (.seq (.ai [2,3,4,35,36,37,38] RX) (.seq (.ite (.t 38) .cI (.exit 0)) (.seq (.bD 1 (.seq (.ai [2,3,4,8,35,36,37] RY) (.iT [2,3,4,35,36,37] RZ ⟨some 43,none,false,.call false (.c (.fn lI [] [])) [(.t 42)]⟩ R0))) (.ai [2,3,4,35,36,37] R4))))
def R5 :=[qm 47 4,qe 48 47,qf 49 1 2,qv 50 2 1 49,qk 51 .sub 48 50,qm 9 51]
def R6 :=[qm 52 9,qn 53 .eql 52 0,qm 54 53,qg 54 false (qm 55 9),qg 54 false (qn 56 .gtr 55 0),qg 54 false (qm 57 56),qg 57 true (qf 58 2 2),qg 57 true (qv 59 2 1 58),qg 57 true (qn 60 .gtr 59 0),qg 54 false (qp 61 57 60),qg 54 false (qm 62 61),qg 62 true (qm 63 9),qg 62 true (qf 64 2 2),qg 62 true (qv 65 2 1 64),qg 62 true (qk 66 .rem 63 65),qg 62 true (qn 67 .eql 66 0),qg 54 false (qp 68 62 67),qP 69 54 68]
def R7:List Abs.Op:=[]
def R8 :=[qw 71 2 4 2,qm 72 3,qm 73 4,qs 2 4 2 71,qm 3 72,qm 4 73]
def G2:bP:=⟨[(15,[2,3,4]),(14,[2,3,4]),(13,[2,3,4,9]),(12,[2,3,4,35,36,37]),(11,[2,3,4,35,36,37]),(10,[2,3,4,8,35,36,37]),(9,[2,3,4,35,36,37,38]),(8,[2,3,4,35,36,37]),(7,[2,3,4,5]),(6,[2,4,5]),(5,[2,3,4,5,25]),(4,[2,3,4,5]),(3,[2,3,4,5]),(2,[2,3,4,5,6]),(1,[2,3,4,5]),(0,[0,2,3,4])],[(0,[2,3,4,35,36,37])],[],[2,4],[2],[],[2000],[],[14],[],[(3,some 1),(6,some 3),(11,some 2),(14,some 18)]⟩
def fN:Abs.Fn:=⟨1,[.v 2 true 4,.t 3,.t 4],
 (.seq (.ai [0,2,3,4] Zn) (.seq (.ai [2,3,4,5] Zo) (.seq (.ai [2,3,4,5,6] Zp) (.seq (.iT [2,3,4,5] Zq ⟨some 21,none,false,.call false (.c (.fn bd [] [])) [(.t 20),(.c (.int .i64 4))]⟩ Zr) (.seq (.ai [2,3,4,5] Zs) (.seq (.seq (.ai [2,3,4,5,25] Zt) (.ite (.t 25) (.seq (.iT [2,4,5] Zu ⟨some 29,none,false,.call false (.c (.fn bd [] [])) [(.t 28),(.c (.int .i64 4))]⟩ Zv) (.ai [2,3,4,5] Zw)) .cI)) (.seq (.seq (.ai [2,3,4,35,36,37] RW) (.bD 0 (.loop [2,3,4,35,36,37] false mU))) (.seq (.ai [2,3,4,9] R5) (.seq (.iT [2,3,4] R6 ⟨some 70,none,false,.call false (.c (.fn bd [] [])) [(.t 69),(.c (.int .i64 4))]⟩ R7) (.seq (.ai [2,3,4] R8) .ret))))))))))⟩
attribute [simp] Zn Zo Zp Zq Zr Zs Zt Zu Zv Zw RW RX RY RZ R0 R4 R5 R6 R7 R8
def aq1 :=[qi 4 0]
def aq2 :=[qm 6 0,qe 7 6,qi 8 0]
def aq3 :=[qk 9 .lss 8 7]
def aq4 :=[qm 10 8,qm 5 10]
def aq5 :=[qm 11 1,qm 12 0,qm 13 5,qj 14 1 12 13,ql 15 1 14,qo 16 (.call false (.t 11) [(.t 15)])]
def aq6 :=[qm 17 5,qm 4 17]
def aq7 :=[qn 18 .add 8 1,qm 8 18]
def wi:Abs.cX :=
 (.seq (.ai [0,1,7,8,9] aq3) (.seq (.ite (.t 9) .cI (.exit 0)) (.seq (.bD 1 (.seq (.ai [0,1,5,7,8] aq4) (.seq (.ai [0,1,5,7,8,16] aq5) (.ite (.t 16) (.seq (.ai [4] aq6) .ret) .cI)))) (.ai [0,1,7,8] aq7))))
def aq8 :=[qi 4 (-1)]
def xY:bP:=IG [(7,[4]),(6,[0,1,7,8]),(5,[4]),(4,[0,1,5,7,8,16]),(3,[0,1,5,7,8]),(2,[0,1,7,8,9]),(1,[0,1,7,8]),(0,[0,1])] [(0,[0,1,7,8])]
def rP:Abs.Fn:=⟨2,[.t 4],
 (.seq (.ai [0,1] aq1) (.seq (.seq (.ai [0,1,7,8] aq2) (.bD 0 (.loop [0,1,7,8] false wi))) (.seq (.ai [4] aq8) .ret)))⟩
def aq9 :=[qb 4 false]
def ara :=[qm 5 0,qm 6 1,qc 7 ew [5,6],qn 8 .geq 7 0,qm 4 8]
def xX:bP:=iL [(1,[4]),(0,[0,1])]
def mF:Abs.Fn:=⟨2,[.t 4],
 (.seq (.ai [0,1] aq9) (.seq (.ai [4] ara) .ret))⟩
def arb :=[qb 3 false]
def arc :=[ql 4 1 1,qm 5 0,qo 6 (.call false (.t 4) [(.t 5)]),qu 7 6,qm 3 7]
def FM:bP:=iL [(1,[3]),(0,[0,1])]
def yo:Abs.Fn:=⟨2,[.t 3],
 (.seq (.ai [0,1] arb) (.seq (.ai [3] arc) .ret))⟩
def Zx :=[qx 1 0,qi 2 0]
def Zy :=[qa 3 4 1,qc 4 cQ [3],qm 2 4]
def EG:bP:=iL [(1,[2]),(0,[1])]
def oI:Abs.Fn:=⟨1,[.t 2],
 (.seq (.ai [1] Zx) (.seq (.ai [2] Zy) .ret))⟩
attribute [simp] Zx Zy
def Zz :=[qi 2 0]
def ZA :=[qm 3 0,qc 4 iR [3],qu 5 4]
def ZB :=[qi 2 1]
def ZC :=[qi 2 0]
def E2:bP:=iL [(3,[2]),(2,[2]),(1,[5]),(0,[0])]
def o8:Abs.Fn:=⟨1,[.t 2],
 (.seq (.ai [0] Zz) (.seq (.seq (.ai [5] ZA) (.ite (.t 5) (.seq (.ai [2] ZB) .ret) .cI)) (.seq (.ai [2] ZC) .ret)))⟩
attribute [simp] Zz ZA ZB ZC
def ard :=[qx 3 1,qb 4 false]
def are :=[qm 5 0,qo 6 (.yF lA [] [(.t 3)]),qc 7 fj [5,6],qu 8 7,qm 4 8]
def Ch:bP:=iL [(1,[4]),(0,[0,3])]
def vI:Abs.Fn:=⟨2,[.t 4],
 (.seq (.ai [0,3] ard) (.seq (.ai [4] are) .ret))⟩
def ZD :=[qx 2 0,qb 3 false]
def ZE :=[qf 4 0 2,ql 5 1 4,ql 6 1 1,qe 7 6,qn 8 .sub 7 1,qo 9 (.call false (.c (.fn cp [] [])) [(.t 5),(.c zI),(.t 8)]),qu 10 9,qm 11 10,qg 11 false (ql 12 1 1),qg 11 false (qf 13 0 2),qg 11 false (ql 14 1 13),qg 11 false (qj 15 1 12 14),qg 11 false (ql 16 1 15),qP 17 11 16]
def ZF :=[qb 3 false]
def ZG :=[ql 18 1 1,qf 19 0 2,ql 20 1 19,qj 21 1 18 20,⟨none,none,false,.st [] 1 (.t 21) (.c (.bool true))⟩]
def ZH :=[qf 22 1 2,ql 23 1 22,qo 24 (.call false (.c (.fn cp [] [])) [(.t 23),(.c zI),(.c (.int .i64 3000))]),qm 25 24,qg 25 true (qf 26 2 2),qg 25 true (ql 27 1 26),qg 25 true (qo 28 (.call false (.c (.fn cp [] [])) [(.t 27),(.c zI),(.c (.int .i64 1000000))])),qp 29 25 28,qm 3 29]
def ES:bP:=iL [(4,[3]),(3,[2]),(2,[3]),(1,[1,2,17]),(0,[1,2])]
def oQ:Abs.Fn:=⟨2,[.t 3],
 (.seq (.ai [1,2] ZD) (.seq (.seq (.ai [1,2,17] ZE) (.ite (.t 17) (.seq (.ai [3] ZF) .ret) .cI)) (.seq (.ai [2] ZG) (.seq (.ai [3] ZH) .ret))))⟩
attribute [simp] ZD ZE ZF ZG ZH
def ZI :=[qi 2 0]
def ZJ :=[qa 3 4 0,ql 4 1 1,qc 5 j2 [3,4],qm 2 5]
def Bt:bP:=iL [(1,[2]),(0,[0,1])]
def l7:Abs.Fn:=⟨2,[.t 2],
 (.seq (.ai [0,1] ZI) (.seq (.ai [2] ZJ) .ret))⟩
attribute [simp] ZI ZJ
def ZK :=[qx 2 0,qi 4 0]
def ZL :=[qm 5 1,qe 6 5,qo 7 (.call false (.c (.fn dU [] [])) [(.t 6),(.c (.int .i64 1)),(.c (.int .i64 40))]),qu 8 7]
def ZM :=[qi 4 3]
def ZN :=[qm 9 1,qo 10 (.yF ek [] [(.t 2)]),qc 11 gF [9,10],qm 4 11]
def B8:bP:=iL [(3,[4]),(2,[4]),(1,[1,2,8]),(0,[1,2])]
def mR:Abs.Fn:=⟨2,[.t 4],
 (.seq (.ai [1,2] ZK) (.seq (.seq (.ai [1,2,8] ZL) (.ite (.t 8) (.seq (.ai [4] ZM) .ret) .cI)) (.seq (.ai [4] ZN) .ret)))⟩
attribute [simp] ZK ZL ZM ZN
def arf :=[qb 4 false]
def arh :=[qm 5 0,qm 6 1,qc 7 fQ [5,6],qn 8 .geq 7 0,qm 4 8]
def tt:bP:=iL [(1,[4]),(0,[0,1])]
def mC:Abs.Fn:=⟨2,[.t 4],
 (.seq (.ai [0,1] arf) (.seq (.ai [4] arh) .ret))⟩
def ari :=[qx 2 0,qb 3 false]
def arj :=[ql 4 1 1,qa 5 2 2,qo 6 (.call false (.t 4) [(.t 5)]),qu 7 6,qm 3 7]
def zc:bP:=iL [(1,[3]),(0,[1,2])]
def sh:Abs.Fn:=⟨2,[.t 3],
 (.seq (.ai [1,2] ari) (.seq (.ai [3] arj) .ret))⟩
def ark :=[qx 3 1,qb 4 false]
def arl :=[qm 5 0,qo 6 (.yF oo [] [(.t 3)]),qc 7 cg [5,6],qu 8 7,qm 4 8]
def JD:bP:=iL [(1,[4]),(0,[0,3])]
def Cy:Abs.Fn:=⟨2,[.t 4],
 (.seq (.ai [0,3] ark) (.seq (.ai [4] arl) .ret))⟩
def ZO :=[qx 2 0,qo 4 (.mv (.c .aG))]
def ZP :=[qF 5 9 2,qF 6 1 5,qL 7 1 6,qM 8 1,qF 9 0 2,qA 10 9 9,qC 11 dp [10],qK 12 .mul 8 11,qM 13 1,qN 14 .add 13 1,qF 15 0 2,qA 16 9 15,qC 17 dp [16],qK 18 .mul 14 17,qo 19 (.Md 1 (.t 7) (some (.t 12)) (some (.t 18)) none),qm 4 19]
def EY:bP:=iL [(1,[4]),(0,[1,2])]
def oZ:Abs.Fn:=⟨2,[.t 4],
 (.seq (.ai [1,2] ZO) (.seq (.ai [4] ZP) .ret))⟩
attribute [simp] ZO ZP
def ZQ :=[qb 3 false]
def ZR :=[qm 4 0,qo 5 (.BM 2 1 (.t 1) (.c zI)),ql 6 1 5,qo 7 (.BM 2 1 (.t 1) (.c (.int .i64 1))),ql 8 1 7,qc 9 cp [4,6,8],qm 3 9]
def Ci:bP:=iL [(1,[3]),(0,[0,1])]
def mW:Abs.Fn:=⟨2,[.t 3],
 (.seq (.ai [0,1] ZQ) (.seq (.ai [3] ZR) .ret))⟩
attribute [simp] ZQ ZR
def ZS :=[qx 2 0,qi 4 0]
def ZT :=[qM 5 1,qF 6 0 2,qF 7 0 6,qF 8 0 7,qL 9 1 8,qF 10 0 2,qF 11 0 10,qF 12 1 11,qL 13 1 12,qK 14 .mul 9 13,qK 15 .quo 5 14,qF 16 0 2,qF 17 6 16,qL 18 1 17,qk 19 .mul 15 18,qm 4 19]
def Cj:bP:=iL [(1,[4]),(0,[1,2])]
def mY:Abs.Fn:=⟨2,[.t 4],
 (.seq (.ai [1,2] ZS) (.seq (.ai [4] ZT) .ret))⟩
attribute [simp] ZS ZT
def ZU :=[qi 4 0]
def ZV :=[qm 6 0,qm 7 1,qk 8 .quo 6 7,qm 5 8]
def ZW :=[qm 9 5,qm 10 1,qk 11 .mul 9 10,qm 12 0,qk 13 .gtr 11 12]
def ZX :=[qm 14 5,qn 15 .sub 14 1,qm 5 15]
def ZY :=[qm 16 5,qm 4 16]
def N4:bP:=iL [(4,[4]),(3,[5]),(2,[5,13]),(1,[0,1,5]),(0,[0,1])]
def yt:Abs.Fn:=⟨2,[.t 4],
 (.seq (.ai [0,1] ZU) (.seq (.ai [0,1,5] ZV) (.seq (.seq (.ai [5,13] ZW) (.ite (.t 13) (.ai [5] ZX) .cI)) (.seq (.ai [4] ZY) .ret))))⟩
attribute [simp] ZU ZV ZW ZX ZY
def ZZ :=[qx 2 0,qi 4 0]
def Z0 :=[qa 5 11 2,qo 6 (.call false (.c (.fn ep [] [])) [(.t 5),(.c zI)]),qm 7 1,qj 8 1 6 7,ql 9 1 8,qm 4 9]
def EX:bP:=iL [(1,[4]),(0,[1,2])]
def oY:Abs.Fn:=⟨2,[.t 4],
 (.seq (.ai [1,2] ZZ) (.seq (.ai [4] Z0) .ret))⟩
attribute [simp] ZZ Z0
def Z1 :=[qx 1 0,qi 2 0]
def Z2 :=[qf 3 0 1,ql 4 1 3,qm 2 4]
def FW:bP:=iL [(1,[2]),(0,[1])]
def pZ:Abs.Fn:=⟨1,[.t 2],
 (.seq (.ai [1] Z1) (.seq (.ai [2] Z2) .ret))⟩
attribute [simp] Z1 Z2
def Z3 :=[qx 1 0,qi 2 0]
def Z4 :=[qf 3 0 1,ql 4 1 3,qn 5 .eql 4 0]
def Z5 :=[qi 2 0]
def Z6 :=[qf 6 1 1,ql 7 1 6,qf 8 0 1,ql 9 1 8,qk 10 .quo 7 9,qm 2 10]
def DT:bP:=iL [(3,[2]),(2,[2]),(1,[1,5]),(0,[1])]
def nU:Abs.Fn:=⟨1,[.t 2],
 (.seq (.ai [1] Z3) (.seq (.seq (.ai [1,5] Z4) (.ite (.t 5) (.seq (.ai [2] Z5) .ret) .cI)) (.seq (.ai [2] Z6) .ret)))⟩
attribute [simp] Z3 Z4 Z5 Z6
def Z7 :=[qx 1 0,qi 2 0]
def Z8 :=[qf 3 2 1,ql 4 1 3,qm 2 4]
def EU:bP:=iL [(1,[2]),(0,[1])]
def oV:Abs.Fn:=⟨1,[.t 2],
 (.seq (.ai [1] Z7) (.seq (.ai [2] Z8) .ret))⟩
attribute [simp] Z7 Z8
def arn :=[qi 4 0]
def aro :=[qm 6 0,qe 7 6,qi 8 0]
def arp :=[qk 9 .lss 8 7]
def arq :=[qm 10 8,qm 5 10]
def ars :=[qm 11 1,qm 12 0,qm 13 5,qj 14 10 12 13,qa 15 10 14,qo 16 (.call false (.t 11) [(.t 15)])]
def art :=[qm 17 5,qm 4 17]
def aru :=[qn 18 .add 8 1,qm 8 18]
def tz:Abs.cX :=
 (.seq (.ai [0,1,7,8,9] arp) (.seq (.ite (.t 9) .cI (.exit 0)) (.seq (.bD 1 (.seq (.ai [0,1,5,7,8] arq) (.seq (.ai [0,1,5,7,8,16] ars) (.ite (.t 16) (.seq (.ai [4] art) .ret) .cI)))) (.ai [0,1,7,8] aru))))
def arv :=[qi 4 (-1)]
def uT:bP:=IG [(7,[4]),(6,[0,1,7,8]),(5,[4]),(4,[0,1,5,7,8,16]),(3,[0,1,5,7,8]),(2,[0,1,7,8,9]),(1,[0,1,7,8]),(0,[0,1])] [(0,[0,1,7,8])]
def jr:Abs.Fn:=⟨2,[.t 4],
 (.seq (.ai [0,1] arn) (.seq (.seq (.ai [0,1,7,8] aro) (.bD 0 (.loop [0,1,7,8] false tz))) (.seq (.ai [4] arv) .ret)))⟩
def arw :=[qi 4 0]
def arx :=[qm 6 0,qe 7 6,qi 8 0]
def ary :=[qk 9 .lss 8 7]
def arz :=[qm 10 8,qm 5 10]
def arA :=[qm 11 1,qm 12 0,qm 13 5,qj 14 2 12 13,qa 15 2 14,qo 16 (.call false (.t 11) [(.t 15)])]
def arB :=[qm 17 5,qm 4 17]
def arC :=[qn 18 .add 8 1,qm 8 18]
def sP:Abs.cX :=
 (.seq (.ai [0,1,7,8,9] ary) (.seq (.ite (.t 9) .cI (.exit 0)) (.seq (.bD 1 (.seq (.ai [0,1,5,7,8] arz) (.seq (.ai [0,1,5,7,8,16] arA) (.ite (.t 16) (.seq (.ai [4] arB) .ret) .cI)))) (.ai [0,1,7,8] arC))))
def arD :=[qi 4 (-1)]
def uB:bP:=IG [(7,[4]),(6,[0,1,7,8]),(5,[4]),(4,[0,1,5,7,8,16]),(3,[0,1,5,7,8]),(2,[0,1,7,8,9]),(1,[0,1,7,8]),(0,[0,1])] [(0,[0,1,7,8])]
def iV:Abs.Fn:=⟨2,[.t 4],
 (.seq (.ai [0,1] arw) (.seq (.seq (.ai [0,1,7,8] arx) (.bD 0 (.loop [0,1,7,8] false sP))) (.seq (.ai [4] arD) .ret)))⟩
def arE :=[qx 3 1,qb 4 false]
def arF :=[qm 5 0,qo 6 (.yF pa [] [(.t 3)]),qc 7 cg [5,6],qu 8 7,qm 4 8]
def Hf:bP:=iL [(1,[4]),(0,[0,3])]
def u6:Abs.Fn:=⟨2,[.t 4],
 (.seq (.ai [0,3] arE) (.seq (.ai [4] arF) .ret))⟩
def Z9 :=[qb 2 false]
def aaa :=[qm 3 0,qo 4 (.call false (.c (.fn cn [] [])) [(.t 3),(.c (.int .i64 (-20000))),(.c (.int .i64 20000))]),qm 2 4]
def Aw:bP:=iL [(1,[2]),(0,[0])]
def lr:Abs.Fn:=⟨1,[.t 2],
 (.seq (.ai [0] Z9) (.seq (.ai [2] aaa) .ret))⟩
attribute [simp] Z9 aaa
def aab :=[qb 2 false]
def aac :=[qm 3 0,qo 4 (.call false (.c (.fn cp [] [])) [(.t 3),(.c (.int .i64 (-100000))),(.c (.int .i64 100000))]),qm 2 4]
def EP:bP:=iL [(1,[2]),(0,[0])]
def oO:Abs.Fn:=⟨1,[.t 2],
 (.seq (.ai [0] aab) (.seq (.ai [2] aac) .ret))⟩
attribute [simp] aab aac
def aad :=[qx 2 0,qi 4 0]
def aae :=[qa 5 11 2,qo 6 (.call false (.c (.fn ep [] [])) [(.t 5),(.c (.int .i64 2))]),qm 7 1,qj 8 1 6 7,ql 9 1 8,qm 4 9]
def E1:bP:=iL [(1,[4]),(0,[1,2])]
def o6:Abs.Fn:=⟨2,[.t 4],
 (.seq (.ai [1,2] aad) (.seq (.ai [4] aae) .ret))⟩
attribute [simp] aad aae
def aaf :=[qo 2 (.pB 3)]
def aag :=[qm 3 0,qo 4 (.Vn false false (.t 3))]
def aah :=[qo 2 (.pB 3)]
def aai :=[qo 5 (.Oa 0 3 [] []),qm 6 0,qy 7 3 24 5 6,qm 2 7]
def rW:bP:=NA [(3,[2]),(2,[2]),(1,[0,4]),(0,[0])] [] [] [2,5]
def dN:Abs.Fn:=⟨1,[.t 2],
 (.seq (.ai [0] aaf) (.seq (.seq (.ai [0,4] aag) (.ite (.t 4) (.seq (.ai [2] aah) .ret) .cI)) (.seq (.ai [2] aai) .ret)))⟩
attribute [simp] aaf aag aah aai
def aaj :=[qx 2 0,qx 3 1,qo 4 (.mv (.c .undef))]
def aak :=[qo 11 (.mp (.make) []),qo 5 (.K5 [] [.undef]),qt 1 5 11]
def aal :=[qa 12 11 2,ql 13 1 3,qc 14 gW [12,13],qo 6 (.K5 [] [.aG]),qt 1 6 14]
def aam :=[qf 15 0 2,qa 16 9 15,qc 17 oj [16]]
def aan :=[qo 7 (.eJ [] [zI,zI]),qs 7 2 7 18]
def aao :=[qL 19 1 6,qF 20 0 7,qV 21 7 1 20,qJ 22 1 19 21,qL 23 1 22,qA 24 11 2,qF 25 0 7,qV 26 7 1 25,qC 27 fE [24,26],qK 28 .sub 23 27,qL 29 1 6,qF 30 1 7,qV 31 7 1 30,qJ 32 1 29 31,qL 33 1 32,qK 34 .sub 28 33,qA 35 11 2,qF 36 1 7,qV 37 7 1 36,qC 38 fE [35,37],qk 39 .add 34 38,qm 8 39]
def aap :=[qm 40 8,qn 41 .lss 40 0]
def aaq :=[qf 42 1 7,qv 43 7 1 42,qf 44 0 7,qv 45 7 1 44,qo 46 (.lK [zI,zI] [(0,1,(.t 43)),(1,1,(.t 45))]),qm 47 8,qo 48 (.un .neg (.t 47)),qs 7 2 7 46,qm 8 48]
def aar :=[qA 49 11 2,qF 50 0 7,qV 51 7 1 50,qC 52 jE [49,51],qA 53 11 2,qF 54 1 7,qV 55 7 1 54,qc 56 jE [53,55],qo 57 (.mn (.t 52) (.t 56)),qm 9 57]
def aas :=[qm 58 9,qm 59 8,qk 60 .mul 58 59,qn 61 .quo 60 1000,ql 62 1 3,qf 63 0 7,qv 64 7 1 63,qj 65 3 62 64,qf 66 0 65,ql 67 1 66,qn 68 .quo 67 8,qo 69 (.mn (.t 61) (.t 68)),qm 10 69]
def R9 :=[qm 70 10,qn 71 .gtr 70 0]
def Sa :=[qL 72 1 5,qW 73 7 2 7,qL 74 1 3,qF 75 0 7,qV 76 7 1 75,qJ 77 3 74 76,qA 78 3 77,qM 79 10,qC 80 lJ [78,79],⟨none,none,false,.mp (.put (some (true,[some .i64,some .i64]))) [(.t 72),(.t 73),(.t 80)]⟩]
def kj:Abs.cX :=
 (.ai [2,3,5,6,7] aan)
def dS:Abs.cX :=
 (.bD 1 (.seq (.ai [2,3,5,7,8] aao) (.seq (.seq (.ai [2,3,5,7,8,41] aap) (.ite (.t 41) (.ai [2,3,5,7,8] aaq) .cI)) (.seq (.ai [3,5,7,8,9] aar) (.seq (.ai [3,5,7,10] aas) (.seq (.ai [3,5,7,10,71] R9) (.ite (.t 71) (.ai [] Sa) .cI)))))))
def Sb :=[ql 81 1 5,qm 4 81]
def DV:bP:=Fp [(12,[4]),(11,[]),(10,[3,5,7,10,71]),(9,[3,5,7,10]),(8,[3,5,7,8,9]),(7,[2,3,5,7,8]),(6,[2,3,5,7,8,41]),(5,[2,3,5,7,8]),(4,[2,3,5,6,7]),(3,[2,3,4,5,6,17]),(2,[2,3,4,5,6]),(1,[2,3,4,5]),(0,[2,3,4])] [(0,[2,3,4,5,6])] [] [5,6,7] [7] [] []
def nW:Abs.Fn:=⟨2,[.t 4],
 (.seq (.ai [2,3,4] aaj) (.seq (.ai [2,3,4,5] aak) (.seq (.ai [2,3,4,5,6] aal) (.seq (.seq (.ai [2,3,4,5,6,17] aam) (.bD 0 (.QH [2,3,4,5,6] (.t 17) [18] kj dS))) (.seq (.ai [4] Sb) .ret)))))⟩
attribute [simp] aaj aak aal aam aan aao aap aaq aar aas R9 Sa Sb
def aat :=[qx 4 1]
def aau :=[qM 6 0,qO 7 (.mA (.t 6)),qF 8 0 7,qL 9 1 8,qM 10 2,qF 11 0 4,qL 12 1 11,qK 13 .mul 10 12,qk 14 .add 9 13,qo 15 (.mA (.t 6)),qf 16 0 15,qt 1 16 14]
def aav :=[qM 17 0,qO 18 (.mA (.t 17)),qF 19 1 18,qL 20 1 19,qM 21 2,qF 22 1 4,qL 23 1 22,qK 24 .mul 21 23,qk 25 .add 20 24,qo 26 (.mA (.t 17)),qf 27 1 26,qt 1 27 25]
def aaw :=[qM 28 0,qO 29 (.mA (.t 28)),qF 30 2 29,qL 31 1 30,qM 32 2,qF 33 2 4,qL 34 1 33,qK 35 .mul 32 34,qk 36 .add 31 35,qo 37 (.mA (.t 28)),qf 38 2 37,qt 1 38 36]
def FT:bP:=NA [(3,[]),(2,[0,2,4]),(1,[0,2,4]),(0,[0,2,4])] [] [] [0]
def pW:Abs.Fn:=⟨3,[],
 (.seq (.ai [0,2,4] aat) (.seq (.ai [0,2,4] aau) (.seq (.ai [0,2,4] aav) (.ai [] aaw))))⟩
attribute [simp] aat aau aav aaw
def aax :=[qx 2 0,qo 4 (.eJ [] [zI,zI,zI])]
def aay :=[qm 5 1,qo 6 (.un .neg (.t 5)),qm 7 1,qo 8 (.un .neg (.t 7)),qf 9 1 2,ql 10 1 9,qk 11 .mul 8 10,qm 12 1,qo 13 (.un .neg (.t 12)),qf 14 2 2,ql 15 1 14,qk 16 .mul 13 15,qo 17 (.lK [zI,zI,zI] [(0,1,(.t 6)),(1,1,(.t 11)),(2,1,(.t 16))]),qs 4 3 4 17]
def FU:bP:=Fp [(1,[4]),(0,[1,2,4])] [] [] [4] [4] [] []
def pX:Abs.Fn:=⟨2,[.v 4 true 3],
 (.seq (.ai [1,2,4] aax) (.seq (.ai [4] aay) .ret))⟩
attribute [simp] aax aay
def aaz :=[qx 2 0,qo 4 (.eJ [] [zI,zI,zI])]
def aaA :=[qM 5 1,qF 6 1 2,qL 7 1 6,qM 8 1,qK 9 .mul 7 8,qF 10 0 2,qL 11 1 10,qK 12 .quo 9 11,qF 13 2 2,qL 14 1 13,qM 15 1,qK 16 .mul 14 15,qF 17 0 2,qL 18 1 17,qK 19 .quo 16 18,qo 20 (.lK [zI,zI,zI] [(0,1,(.t 5)),(1,1,(.t 12)),(2,1,(.t 19))]),qs 4 3 4 20]
def G8:bP:=Fp [(1,[4]),(0,[1,2,4])] [] [] [4] [4] [] []
def rI:Abs.Fn:=⟨2,[.v 4 true 3],
 (.seq (.ai [1,2,4] aaz) (.seq (.ai [4] aaA) .ret))⟩
attribute [simp] aaz aaA
def aaB :=[qx 2 0,qo 4 (.eJ [] [zI,zI,zI])]
def aaC :=[qA 5 11 2,qM 6 1,qC 7 jC [5,6],qA 8 11 2,qM 9 1,qC 10 jC [8,9],qF 11 0 2,qF 12 7 11,qL 13 1 12,qk 14 .mul 10 13,qo 15 (.lK [zI,zI,zI] [(0,1,(.t 7)),(1,1,(.t 14))]),qs 4 3 4 15]
def FX:bP:=Fp [(1,[4]),(0,[1,2,4])] [] [] [4] [4] [] []
def qd:Abs.Fn:=⟨2,[.v 4 true 3],
 (.seq (.ai [1,2,4] aaB) (.seq (.ai [4] aaC) .ret))⟩
attribute [simp] aaB aaC
def aaD :=[qx 2 0,qb 4 false]
def aaE :=[qm 5 1,qe 6 5,qf 7 0 2,qa 8 9 7,qc 9 dp [8],qk 10 .eql 6 9,qm 11 10,qg 11 true (qm 12 1),qg 11 true (qo 13 (.call false (.c (.fn mw [] [])) [(.t 12),(.c (.fn jA [] []))])),qp 14 11 13,qm 4 14]
def DW:bP:=iL [(1,[4]),(0,[1,2])]
def nX:Abs.Fn:=⟨2,[.t 4],
 (.seq (.ai [1,2] aaD) (.seq (.ai [4] aaE) .ret))⟩
attribute [simp] aaD aaE
def arL :=[qb 4 false]
def arM :=[qm 5 0,qm 6 1,qc 7 gL [5,6],qn 8 .geq 7 0,qm 4 8]
def uz:bP:=iL [(1,[4]),(0,[0,1])]
def nH:Abs.Fn:=⟨2,[.t 4],
 (.seq (.ai [0,1] arL) (.seq (.ai [4] arM) .ret))⟩
def arN :=[qx 2 0,qb 3 false]
def arO :=[ql 4 1 1,qa 5 5 2,qo 6 (.call false (.t 4) [(.t 5)]),qu 7 6,qm 3 7]
def zH:bP:=iL [(1,[3]),(0,[1,2])]
def td:Abs.Fn:=⟨2,[.t 3],
 (.seq (.ai [1,2] arN) (.seq (.ai [3] arO) .ret))⟩
def arP :=[qb 4 false]
def arQ :=[qm 5 0,qm 6 1,qc 7 gn [5,6],qn 8 .geq 7 0,qm 4 8]
def tC:bP:=iL [(1,[4]),(0,[0,1])]
def mZ:Abs.Fn:=⟨2,[.t 4],
 (.seq (.ai [0,1] arP) (.seq (.ai [4] arQ) .ret))⟩
def arR :=[qx 2 0,qb 3 false]
def arS :=[ql 4 1 1,qa 5 2 2,qo 6 (.call false (.t 4) [(.t 5)]),qu 7 6,qm 3 7]
def za:bP:=iL [(1,[3]),(0,[1,2])]
def se:Abs.Fn:=⟨2,[.t 3],
 (.seq (.ai [1,2] arR) (.seq (.ai [3] arS) .ret))⟩
def arT :=[qb 4 false]
def arU :=[qm 5 0,qm 6 1,qc 7 fm [5,6],qn 8 .geq 7 0,qm 4 8]
def sL:bP:=iL [(1,[4]),(0,[0,1])]
def lP:Abs.Fn:=⟨2,[.t 4],
 (.seq (.ai [0,1] arT) (.seq (.ai [4] arU) .ret))⟩
def arV :=[qx 2 0,qb 3 false]
def arW :=[ql 4 1 1,qa 5 4 2,qo 6 (.call false (.t 4) [(.t 5)]),qu 7 6,qm 3 7]
def xk:bP:=iL [(1,[3]),(0,[1,2])]
def q7:Abs.Fn:=⟨2,[.t 3],
 (.seq (.ai [1,2] arV) (.seq (.ai [3] arW) .ret))⟩
def aaF :=[qf 7 1 1,ql 8 1 7,qe 9 8,qi 10 0]
def aaG :=[qk 11 .lss 10 9]
def aaH :=[qj 12 2 8 10,qa 13 2 12,qo 5 (.eJ [] [zI,zI]),qs 5 2 5 13]
def aaI :=[ql 14 1 2,qf 15 0 5,qv 16 5 1 15,qo 17 (.mn (.t 14) (.t 16)),qm 6 17]
def aaJ :=[qm 18 0,qw 19 5 2 5,qm 20 6,qo 21 (.call false (.t 18) [(.t 19),(.t 20)]),qu 22 21]
def aaK :=[ql 23 1 2,qm 24 6,qk 25 .sub 23 24,qt 1 2 25]
def aaL :=[qn 26 .add 10 1,qm 10 26]
def lh:Abs.cX :=
 (.seq (.ai [0,2,8,9,10,11] aaG) (.seq (.ite (.t 11) .cI (.exit 0)) (.seq (.bD 1 (.seq (.ai [0,2,5,8,9,10] aaH) (.seq (.ai [0,2,5,6,8,9,10] aaI) (.seq (.seq (.ai [0,2,6,8,9,10,22] aaJ) (.ite (.t 22) .ret .cI)) (.ai [0,2,8,9,10] aaK))))) (.ai [0,2,8,9,10] aaL))))
def DS:bP:=Fp [(6,[0,2,8,9,10]),(5,[0,2,8,9,10]),(4,[0,2,6,8,9,10,22]),(3,[0,2,5,6,8,9,10]),(2,[0,2,5,8,9,10]),(1,[0,2,8,9,10,11]),(0,[0,2,8,9,10])] [(0,[0,2,8,9,10])] [] [2,5] [5] [] []
def nS:Abs.Fn:=⟨3,[],
 (.seq (.ai [0,2,8,9,10] aaF) (.bD 0 (.loop [0,2,8,9,10] false lh)))⟩
attribute [simp] aaF aaG aaH aaI aaJ aaK aaL
def arX :=[qi 2 0]
def arY :=[qi 3 1]
def arZ :=[qm 6 0,qo 7 (.me (.s2b) [(.t 6)]),qe 8 7,qi 9 0]
def ar0 :=[qk 10 .lss 9 8]
def ar1 :=[qj 11 1 7 9,ql 12 1 11,qm 5 12]
def ar2 :=[qm 13 3,qo 14 (.bin .mul (.c (.int .i64 31)) (.t 13)),qm 15 5,qo 16 (.Oj .i64 (.t 15)),qk 17 .add 14 16,qn 18 .rem 17 65521,qm 3 18]
def ar3 :=[qn 19 .add 9 1,qm 9 19]
def Ho:Abs.cX :=
 (.seq (.ai [3,7,8,9,10] ar0) (.seq (.ite (.t 10) .cI (.exit 0)) (.seq (.bD 1 (.seq (.ai [3,5,7,8,9] ar1) (.ai [3,7,8,9] ar2))) (.ai [3,7,8,9] ar3))))
def ar4 :=[qm 20 3,qm 2 20]
def KX:bP:=IG [(7,[2]),(6,[3,7,8,9]),(5,[3,7,8,9]),(4,[3,5,7,8,9]),(3,[3,7,8,9,10]),(2,[3,7,8,9]),(1,[0,3]),(0,[0])] [(0,[3,7,8,9])]
def Ed:Abs.Fn:=⟨1,[.t 2],
 (.seq (.ai [0] arX) (.seq (.ai [0,3] arY) (.seq (.seq (.ai [3,7,8,9] arZ) (.bD 0 (.loop [3,7,8,9] false Ho))) (.seq (.ai [2] ar4) .ret))))⟩
def aaM :=[qo 0 (.mv (.c .undef))]
def aaN :=[qo 1 (.mp (.make) []),qo 2 (.lK [(.bool false),zI,zI,.iS] [(0,1,(.c (.bool false))),(1,1,(.c (.int .i64 4))),(2,1,(.c zI)),(3,1,(.c (.fn fw [] [])))]),⟨none,none,false,.mp (.put none) [(.t 1),(.c (.str [102,105,101,108,100])),(.t 2)]⟩,qo 3 (.lK [(.bool false),zI,zI,.iS] [(0,1,(.c (.bool false))),(1,1,(.c zI)),(2,1,(.c (.int .i64 5))),(3,1,(.c (.fn fB [] [])))]),⟨none,none,false,.mp (.put none) [(.t 1),(.c (.str [116,97,98,108,101])),(.t 3)]⟩,qo 4 (.lK [(.bool false),zI,zI,.iS] [(0,1,(.c (.bool false))),(1,1,(.c (.int .i64 3))),(2,1,(.c zI)),(3,1,(.c (.fn gP [] [])))]),⟨none,none,false,.mp (.put none) [(.t 1),(.c (.str [98,101,100])),(.t 4)]⟩,qo 5 (.lK [(.bool false),zI,zI,.iS] [(0,1,(.c (.bool false))),(1,1,(.c (.int .i64 3))),(2,1,(.c zI)),(3,1,(.c (.fn gk [] [])))]),⟨none,none,false,.mp (.put none) [(.t 1),(.c (.str [119,101,108,108])),(.t 5)]⟩,qo 6 (.lK [(.bool false),zI,zI,.iS] [(0,1,(.c (.bool true))),(1,1,(.c zI)),(2,1,(.c (.int .i64 1))),(3,1,(.c (.fn fy [] [])))]),⟨none,none,false,.mp (.put none) [(.t 1),(.c (.str [109,111,100,101,108])),(.t 6)]⟩,qo 7 (.lK [(.bool false),zI,zI,.iS] [(0,1,(.c (.bool true))),(1,1,(.c (.int .i64 3))),(2,1,(.c (.int .i64 2))),(3,1,(.c (.fn gQ [] [])))]),⟨none,none,false,.mp (.put none) [(.t 1),(.c (.str [108,111,103])),(.t 7)]⟩,qo 8 (.lK [(.bool false),zI,zI,.iS] [(0,1,(.c (.bool false))),(1,1,(.c (.int .i64 10))),(2,1,(.c zI)),(3,1,(.c (.fn gg [] [])))]),⟨none,none,false,.mp (.put none) [(.t 1),(.c (.str [114,117,108,101])),(.t 8)]⟩,qo 9 (.lK [(.bool false),zI,zI,.iS] [(0,1,(.c (.bool false))),(1,1,(.c (.int .i64 3))),(2,1,(.c zI)),(3,1,(.c (.fn ga [] [])))]),⟨none,none,false,.mp (.put none) [(.t 1),(.c (.str [107,101,101,112])),(.t 9)]⟩,qo 10 (.lK [(.bool false),zI,zI,.iS] [(0,1,(.c (.bool false))),(1,1,(.c zI)),(2,1,(.c (.int .i64 4))),(3,1,(.c (.fn fA [] [])))]),⟨none,none,false,.mp (.put none) [(.t 1),(.c (.str [113,117,97,107,101])),(.t 10)]⟩,qo 11 (.lK [(.bool false),zI,zI,.iS] [(0,1,(.c (.bool false))),(1,1,(.c zI)),(2,1,(.c (.int .i64 1))),(3,1,(.c (.fn gi [] [])))]),⟨none,none,false,.mp (.put none) [(.t 1),(.c (.str [116,105,99,107])),(.t 11)]⟩,qo 12 (.lK [(.bool false),zI,zI,.iS] [(0,1,(.c (.bool false))),(1,1,(.c (.int .i64 4))),(2,1,(.c zI)),(3,1,(.c (.fn gf [] [])))]),⟨none,none,false,.mp (.put none) [(.t 1),(.c (.str [114,101,97,100])),(.t 12)]⟩,qo 13 (.lK [(.bool false),zI,zI,.iS] [(0,1,(.c (.bool false))),(1,1,(.c (.int .i64 1))),(2,1,(.c (.int .i64 2))),(3,1,(.c (.fn gj [] [])))]),⟨none,none,false,.mp (.put none) [(.t 1),(.c (.str [117,110,105,116])),(.t 13)]⟩,qo 14 (.lK [(.bool false),zI,zI,.iS] [(0,1,(.c (.bool false))),(1,1,(.c (.int .i64 4))),(2,1,(.c zI)),(3,1,(.c (.fn gh [] [])))]),⟨none,none,false,.mp (.put none) [(.t 1),(.c (.str [115,101,108,108])),(.t 14)]⟩,qm 15 1,qm 0 15]
def Iz:bP:=iL [(1,[0]),(0,[])]
def sD:Abs.Fn:=⟨0,[.t 0],
 (.seq (.ai [] aaM) (.seq (.ai [0] aaN) .ret))⟩
attribute [simp] aaM aaN
def aaO :=[qm 4 0,qu 5 4]
def aaP :=[qm 6 1,qo 7 (.lK [zI] [(0,1,(.t 6))]),qo 8 (.mki 311 (.t 7))]
def aaQ:List Abs.Op:=[]
def KV:bP:=⟨[(1,[]),(0,[1,5])],[],[],[],[],[],[],[],[],[],[(1,some 3)]⟩
def sd:Abs.Fn:=⟨2,[],
 (.seq (.ai [1,5] aaO) (.ite (.t 5) (.iT [] aaP ⟨none,none,false,.PC (.t 8)⟩ aaQ) .cI))⟩
attribute [simp] aaO aaP aaQ
def aaR :=[qi 2 0]
def aaS :=[qm 6 0,qc 7 iF [6],qm 5 7,qz 8 5 0,qz 9 5 1,qm 3 8,qm 4 9]
def aaT :=[qm 10 4,qo 11 (.isi false (.t 10)),qm 12 11,qg 12 true (qm 13 3),qg 12 true (qc 14 eE [13]),qg 12 true (qm 15 0),qg 12 true (qo 16 (.rl (.seq false) [(.t 14),(.t 15)])),qp 17 12 16,qm 18 17,qg 18 true (qm 19 3),qg 18 true (qo 20 (.call false (.c (.fn cF [] [])) [(.t 19),(.c (.int .i64 (-999999999))),(.c (.int .i64 999999999))])),qp 21 18 20]
def aaU:List Abs.Op:=[]
def aaV :=[qm 23 3,qm 2 23]
def G1:bP:=⟨[(3,[2]),(2,[3]),(1,[0,3,4]),(0,[0])],[],[],[],[],[],[],[],[],[],[(2,some 12)]⟩
def og:Abs.Fn:=⟨1,[.t 2],
 (.seq (.ai [0] aaR) (.seq (.ai [0,3,4] aaS) (.seq (.iT [3] aaT ⟨some 22,none,false,.call false (.c (.fn bd [] [])) [(.t 21),(.c (.int .i64 4))]⟩ aaU) (.seq (.ai [2] aaV) .ret))))⟩
attribute [simp] aaR aaS aaT aaU aaV
def asi :=[qi 4 0]
def asj :=[qm 6 0,qe 7 6,qi 8 0]
def asl :=[qk 9 .lss 8 7]
def asm :=[qm 10 8,qm 5 10]
def asn :=[qm 11 1,qm 12 0,qm 13 5,qj 14 1 12 13,ql 15 1 14,qo 16 (.call false (.t 11) [(.t 15)])]
def aso :=[qm 17 5,qm 4 17]
def asq :=[qn 18 .add 8 1,qm 8 18]
def yb:Abs.cX :=
 (.seq (.ai [0,1,7,8,9] asl) (.seq (.ite (.t 9) .cI (.exit 0)) (.seq (.bD 1 (.seq (.ai [0,1,5,7,8] asm) (.seq (.ai [0,1,5,7,8,16] asn) (.ite (.t 16) (.seq (.ai [4] aso) .ret) .cI)))) (.ai [0,1,7,8] asq))))
def asr :=[qi 4 (-1)]
def Au:bP:=IG [(7,[4]),(6,[0,1,7,8]),(5,[4]),(4,[0,1,5,7,8,16]),(3,[0,1,5,7,8]),(2,[0,1,7,8,9]),(1,[0,1,7,8]),(0,[0,1])] [(0,[0,1,7,8])]
def o7:Abs.Fn:=⟨2,[.t 4],
 (.seq (.ai [0,1] asi) (.seq (.seq (.ai [0,1,7,8] asj) (.bD 0 (.loop [0,1,7,8] false yb))) (.seq (.ai [4] asr) .ret)))⟩
def ass :=[qb 4 false]
def ast :=[qm 5 0,qm 6 1,qc 7 gK [5,6],qn 8 .geq 7 0,qm 4 8]
def uy:bP:=iL [(1,[4]),(0,[0,1])]
def nG:Abs.Fn:=⟨2,[.t 4],
 (.seq (.ai [0,1] ass) (.seq (.ai [4] ast) .ret))⟩
def asu :=[qx 2 0,qb 3 false]
def asv :=[ql 4 1 1,qa 5 3 2,qo 6 (.call false (.t 4) [(.t 5)]),qu 7 6,qm 3 7]
def Ar:bP:=iL [(1,[3]),(0,[1,2])]
def tR:Abs.Fn:=⟨2,[.t 3],
 (.seq (.ai [1,2] asu) (.seq (.ai [3] asv) .ret))⟩
def aaW :=[qi 4 0]
def aaX :=[qo 10 (.mp (.make) []),qm 5 10]
def aaY :=[qm 11 0,qe 12 11,qi 13 0]
def aaZ :=[qk 14 .lss 13 12]
def aa0 :=[qj 15 2 11 13,qa 16 2 15,qo 7 (.eJ [] [(.str []),.aG]),qs 7 2 7 16]
def aa1 :=[qm 18 1,qw 19 7 2 7,qo 20 (.call false (.t 18) [(.t 19)]),qm 17 20,qz 21 17 0,qz 22 17 1,qm 8 21,qm 9 22]
def aa2 :=[qm 23 9,qn 24 .neq 23 0]
def aa3 :=[qm 25 9,qm 4 25]
def aa4 :=[qm 26 5,qm 27 8,qo 28 (.mp (.get none (.bool false) false) [(.t 26),(.t 27)])]
def aa5 :=[qi 4 6]
def Sc :=[qm 29 5,qm 30 8,⟨none,none,false,.mp (.put none) [(.t 29),(.t 30),(.c (.bool true))]⟩]
def Sd :=[qn 31 .add 13 1,qm 13 31]
def gI:Abs.cX :=
 (.seq (.ai [1,5,11,12,13,14] aaZ) (.seq (.ite (.t 14) .cI (.exit 0)) (.seq (.bD 1 (.seq (.ai [1,5,7,11,12,13] aa0) (.seq (.ai [1,5,8,9,11,12,13] aa1) (.seq (.seq (.ai [1,5,8,9,11,12,13,24] aa2) (.ite (.t 24) (.seq (.ai [4] aa3) .ret) .cI)) (.seq (.seq (.ai [1,5,8,11,12,13,28] aa4) (.ite (.t 28) (.seq (.ai [4] aa5) .ret) .cI)) (.ai [1,5,11,12,13] Sc)))))) (.ai [1,5,11,12,13] Sd))))
def Se :=[qi 4 0]
def y9:bP:=Fp [(12,[4]),(11,[1,5,11,12,13]),(10,[1,5,11,12,13]),(9,[4]),(8,[1,5,8,11,12,13,28]),(7,[4]),(6,[1,5,8,9,11,12,13,24]),(5,[1,5,8,9,11,12,13]),(4,[1,5,7,11,12,13]),(3,[1,5,11,12,13,14]),(2,[1,5,11,12,13]),(1,[0,1,5]),(0,[0,1])] [(0,[1,5,11,12,13])] [] [7] [7] [] []
def jO:Abs.Fn:=⟨2,[.t 4],
 (.seq (.ai [0,1] aaW) (.seq (.ai [0,1,5] aaX) (.seq (.seq (.ai [1,5,11,12,13] aaY) (.bD 0 (.loop [1,5,11,12,13] false gI))) (.seq (.ai [4] Se) .ret))))⟩
attribute [simp] aaW aaX aaY aaZ aa0 aa1 aa2 aa3 aa4 aa5 Sc Sd Se
def aa6 :=[qx 2 0,qo 3 (.mv (.c (.str []))),qi 4 0]
def aa7 :=[qF 5 0 2,qL 6 1 5,qA 7 4 1,qA 8 2 2,qC 9 iN [7,8],qm 3 6,qm 4 9]
def An:bP:=iL [(1,[3,4]),(0,[1,2])]
def kY:Abs.Fn:=⟨2,[.t 3,.t 4],
 (.seq (.ai [1,2] aa6) (.seq (.ai [3,4] aa7) .ret))⟩
attribute [simp] aa6 aa7
def asw :=[qi 4 0]
def asx :=[qm 6 0,qe 7 6,qi 8 0]
def asy :=[qk 9 .lss 8 7]
def asz :=[qm 10 8,qm 5 10]
def asA :=[qm 11 1,qm 12 0,qm 13 5,qj 14 2 12 13,qa 15 2 14,qo 16 (.call false (.t 11) [(.t 15)])]
def asB :=[qm 17 5,qm 4 17]
def asC :=[qn 18 .add 8 1,qm 8 18]
def tx:Abs.cX :=
 (.seq (.ai [0,1,7,8,9] asy) (.seq (.ite (.t 9) .cI (.exit 0)) (.seq (.bD 1 (.seq (.ai [0,1,5,7,8] asz) (.seq (.ai [0,1,5,7,8,16] asA) (.ite (.t 16) (.seq (.ai [4] asB) .ret) .cI)))) (.ai [0,1,7,8] asC))))
def asD :=[qi 4 (-1)]
def uS:bP:=IG [(7,[4]),(6,[0,1,7,8]),(5,[4]),(4,[0,1,5,7,8,16]),(3,[0,1,5,7,8]),(2,[0,1,7,8,9]),(1,[0,1,7,8]),(0,[0,1])] [(0,[0,1,7,8])]
def oi:Abs.Fn:=⟨2,[.t 4],
 (.seq (.ai [0,1] asw) (.seq (.seq (.ai [0,1,7,8] asx) (.bD 0 (.loop [0,1,7,8] false tx))) (.seq (.ai [4] asD) .ret)))⟩
def asE :=[qb 3 false]
def asF :=[ql 4 1 1,qm 5 0,qo 6 (.call false (.t 4) [(.t 5)]),qu 7 6,qm 3 7]
def G9:bP:=iL [(1,[3]),(0,[0,1])]
def zP:Abs.Fn:=⟨2,[.t 3],
 (.seq (.ai [0,1] asE) (.seq (.ai [3] asF) .ret))⟩
def asG :=[qb 3 false]
def asH :=[ql 4 1 1,qm 5 0,qo 6 (.call false (.t 4) [(.t 5)]),qu 7 6,qm 3 7]
def E3:bP:=iL [(1,[3]),(0,[0,1])]
def sQ:Abs.Fn:=⟨2,[.t 3],
 (.seq (.ai [0,1] asG) (.seq (.ai [3] asH) .ret))⟩
def aa8 :=[qx 2 0,qo 4 (.pB 1)]
def aa9 :=[qm 6 1,qe 7 6,qi 8 0]
def aba :=[qk 9 .lss 8 7]
def abb :=[qm 10 8,qm 5 10]
def abc :=[qm 11 4,qa 12 11 2,qm 13 1,qm 14 5,qc 15 fO [12,13,14],qo 16 (.uH 1 1 [zI] [(0,1,(.t 15))]),qy 17 1 8 11 16,qm 4 17]
def abd :=[qn 18 .add 8 1,qm 8 18]
def iw:Abs.cX :=
 (.seq (.ai [1,2,4,7,8,9] aba) (.seq (.ite (.t 9) .cI (.exit 0)) (.seq (.bD 1 (.seq (.ai [1,2,4,5,7,8] abb) (.ai [1,2,4,7,8] abc))) (.ai [1,2,4,7,8] abd))))
def abe :=[qm 19 4,qm 4 19]
def zG:bP:=NA [(6,[4]),(5,[1,2,4,7,8]),(4,[1,2,4,7,8]),(3,[1,2,4,5,7,8]),(2,[1,2,4,7,8,9]),(1,[1,2,4,7,8]),(0,[1,2,4])] [(0,[1,2,4,7,8])] [] [4]
def kl:Abs.Fn:=⟨2,[.t 4],
 (.seq (.ai [1,2,4] aa8) (.seq (.seq (.ai [1,2,4,7,8] aa9) (.bD 0 (.loop [1,2,4,7,8] false iw))) (.seq (.ai [4] abe) .ret)))⟩
attribute [simp] aa8 aa9 aba abb abc abd abe
def abf :=[qx 1 0,qo 2 (.mv (.c .iS))]
def abg :=[qo 3 (.yF jx [] [(.t 1)]),qm 2 3]
def G5:bP:=iL [(1,[2]),(0,[1])]
def rF:Abs.Fn:=⟨1,[.t 2],
 (.seq (.ai [1] abf) (.seq (.ai [2] abg) .ret))⟩
attribute [simp] abf abg
def abh :=[qx 2 0,qi 4 0]
def abi :=[qa 5 11 2,qo 6 (.call false (.c (.fn ep [] [])) [(.t 5),(.c (.int .i64 1))]),qm 7 1,qj 8 1 6 7,ql 9 1 8,qm 4 9]
def EZ:bP:=iL [(1,[4]),(0,[1,2])]
def o4:Abs.Fn:=⟨2,[.t 4],
 (.seq (.ai [1,2] abh) (.seq (.ai [4] abi) .ret))⟩
attribute [simp] abh abi
def abj :=[qx 2 0,qi 4 0]
def abk :=[qa 5 11 2,qo 6 (.call false (.c (.fn ep [] [])) [(.t 5),(.c (.int .i64 3))]),qm 7 1,qj 8 1 6 7,ql 9 1 8,qm 4 9]
def EV:bP:=iL [(1,[4]),(0,[1,2])]
def oW:Abs.Fn:=⟨2,[.t 4],
 (.seq (.ai [1,2] abj) (.seq (.ai [4] abk) .ret))⟩
attribute [simp] abj abk
def asI :=[qx 3 1,qb 4 false]
def asJ :=[qm 5 0,qo 6 (.yF kq [] [(.t 3)]),qc 7 eW [5,6],qu 8 7,qm 4 8]
def BF:bP:=iL [(1,[4]),(0,[0,3])]
def uJ:Abs.Fn:=⟨2,[.t 4],
 (.seq (.ai [0,3] asI) (.seq (.ai [4] asJ) .ret))⟩
def abl :=[qx 1 0,qb 2 false]
def abm :=[qf 3 0 1,ql 4 1 3,qo 5 (.call false (.c (.fn cp [] [])) [(.t 4),(.c (.int .i64 1)),(.c (.int .i64 1000000))]),qm 6 5,qg 6 true (qf 7 1 1),qg 6 true (ql 8 1 7),qg 6 true (qo 9 (.call false (.c (.fn cp [] [])) [(.t 8),(.c zI),(.c (.int .i64 10000000000))])),qp 10 6 9,qm 11 10,qg 11 true (qf 12 2 1),qg 11 true (ql 13 1 12),qg 11 true (qo 14 (.call false (.c (.fn cp [] [])) [(.t 13),(.c zI),(.c (.int .i64 1000000000000))])),qp 15 11 14,qm 2 15]
def ET:bP:=iL [(1,[2]),(0,[1])]
def oR:Abs.Fn:=⟨1,[.t 2],
 (.seq (.ai [1] abl) (.seq (.ai [2] abm) .ret))⟩
attribute [simp] abl abm
def asK :=[qi 4 0]
def asL :=[qm 6 0,qe 7 6,qi 8 0]
def asM :=[qk 9 .lss 8 7]
def asN :=[qm 10 8,qm 5 10]
def asO :=[qm 11 1,qm 12 0,qm 13 5,qj 14 5 12 13,qa 15 5 14,qo 16 (.call false (.t 11) [(.t 15)])]
def asP :=[qm 17 5,qm 4 17]
def asQ :=[qn 18 .add 8 1,qm 8 18]
def uD:Abs.cX :=
 (.seq (.ai [0,1,7,8,9] asM) (.seq (.ite (.t 9) .cI (.exit 0)) (.seq (.bD 1 (.seq (.ai [0,1,5,7,8] asN) (.seq (.ai [0,1,5,7,8,16] asO) (.ite (.t 16) (.seq (.ai [4] asP) .ret) .cI)))) (.ai [0,1,7,8] asQ))))
def asR :=[qi 4 (-1)]
def wa:bP:=IG [(7,[4]),(6,[0,1,7,8]),(5,[4]),(4,[0,1,5,7,8,16]),(3,[0,1,5,7,8]),(2,[0,1,7,8,9]),(1,[0,1,7,8]),(0,[0,1])] [(0,[0,1,7,8])]
def pr:Abs.Fn:=⟨2,[.t 4],
 (.seq (.ai [0,1] asK) (.seq (.seq (.ai [0,1,7,8] asL) (.bD 0 (.loop [0,1,7,8] false uD))) (.seq (.ai [4] asR) .ret)))⟩
def asS :=[qi 4 0]
def asT :=[qm 6 0,qe 7 6,qi 8 0]
def asU :=[qk 9 .lss 8 7]
def asV :=[qm 10 8,qm 5 10]
def asW :=[qm 11 1,qm 12 0,qm 13 5,qj 14 2 12 13,qa 15 2 14,qo 16 (.call false (.t 11) [(.t 15)])]
def asX :=[qm 17 5,qm 4 17]
def asY :=[qn 18 .add 8 1,qm 8 18]
def tU:Abs.cX :=
 (.seq (.ai [0,1,7,8,9] asU) (.seq (.ite (.t 9) .cI (.exit 0)) (.seq (.bD 1 (.seq (.ai [0,1,5,7,8] asV) (.seq (.ai [0,1,5,7,8,16] asW) (.ite (.t 16) (.seq (.ai [4] asX) .ret) .cI)))) (.ai [0,1,7,8] asY))))
def asZ :=[qi 4 (-1)]
def vF:bP:=IG [(7,[4]),(6,[0,1,7,8]),(5,[4]),(4,[0,1,5,7,8,16]),(3,[0,1,5,7,8]),(2,[0,1,7,8,9]),(1,[0,1,7,8]),(0,[0,1])] [(0,[0,1,7,8])]
def oC:Abs.Fn:=⟨2,[.t 4],
 (.seq (.ai [0,1] asS) (.seq (.seq (.ai [0,1,7,8] asT) (.bD 0 (.loop [0,1,7,8] false tU))) (.seq (.ai [4] asZ) .ret)))⟩
def as0 :=[qi 4 0]
def as1 :=[qm 6 0,qe 7 6,qi 8 0]
def as2 :=[qk 9 .lss 8 7]
def as3 :=[qm 10 8,qm 5 10]
def as4 :=[qm 11 1,qm 12 0,qm 13 5,qj 14 4 12 13,qa 15 4 14,qo 16 (.call false (.t 11) [(.t 15)])]
def as5 :=[qm 17 5,qm 4 17]
def as6 :=[qn 18 .add 8 1,qm 8 18]
def sO:Abs.cX :=
 (.seq (.ai [0,1,7,8,9] as2) (.seq (.ite (.t 9) .cI (.exit 0)) (.seq (.bD 1 (.seq (.ai [0,1,5,7,8] as3) (.seq (.ai [0,1,5,7,8,16] as4) (.ite (.t 16) (.seq (.ai [4] as5) .ret) .cI)))) (.ai [0,1,7,8] as6))))
def as7 :=[qi 4 (-1)]
def uA:bP:=IG [(7,[4]),(6,[0,1,7,8]),(5,[4]),(4,[0,1,5,7,8,16]),(3,[0,1,5,7,8]),(2,[0,1,7,8,9]),(1,[0,1,7,8]),(0,[0,1])] [(0,[0,1,7,8])]
def nI:Abs.Fn:=⟨2,[.t 4],
 (.seq (.ai [0,1] as0) (.seq (.seq (.ai [0,1,7,8] as1) (.bD 0 (.loop [0,1,7,8] false sO))) (.seq (.ai [4] as7) .ret)))⟩
def abn :=[qm 7 0,qo 8 (.mA (.t 7)),qf 9 0 8,qf 10 0 9,qf 11 0 10,qa 12 4 11,qo 13 (.lK [zI,zI,zI,zI] []),qo 14 (.eqv true [some .i64,some .i64,some .i64,some .i64] false (.t 12) (.t 13))]
def abo:List Abs.Op:=[]
def abp :=[qM 16 2,qO 17 (.fh 1 (.t 16) (.c zI)),qL 18 1 17,qM 19 2,qO 20 (.fh 1 (.t 19) (.c (.int .i64 1))),qL 21 1 20,qM 22 2,qO 23 (.fh 1 (.t 22) (.c (.int .i64 2))),qL 24 1 23,qM 25 2,qO 26 (.fh 1 (.t 25) (.c (.int .i64 3))),qL 27 1 26,qO 28 (.lK [zI,zI,zI,zI] [(0,1,(.t 18)),(1,1,(.t 21)),(2,1,(.t 24)),(3,1,(.t 27))]),qO 6 (.eJ [] [zI,zI,zI,zI]),qs 6 4 6 28]
def abq :=[qw 29 6 4 6,qc 30 jv [29],qn 31 .eql 30 0,qm 32 31,qg 32 true (qf 33 3 6),qg 32 true (qv 34 6 1 33),qg 32 true (qn 35 .geq 34 4),qp 36 32 35]
def abr:List Abs.Op:=[]
def abt :=[qm 38 0,qw 39 6 4 6,qo 40 (.mA (.t 38)),qf 41 0 40,qf 42 0 41,qf 43 0 42,qt 4 43 39]
def Cb:bP:=⟨[(3,[]),(2,[0,6]),(1,[0,6]),(0,[0,2])],[],[],[0,6],[6],[],[],[],[],[],[(0,some 8),(2,some 8)]⟩
def jW:Abs.Fn:=⟨3,[],
 (.seq (.iT [0,2] abn ⟨some 15,none,false,.call false (.c (.fn bd [] [])) [(.t 14),(.c (.int .i64 8))]⟩ abo) (.seq (.ai [0,6] abp) (.seq (.iT [0,6] abq ⟨some 37,none,false,.call false (.c (.fn bd [] [])) [(.t 36),(.c (.int .i64 1))]⟩ abr) (.ai [] abt))))⟩
attribute [simp] abn abo abp abq abr abt
def abu :=[qm 7 0,qo 8 (.mA (.t 7)),qf 9 0 8,qf 10 0 9,qf 11 4 10,ql 12 1 11,qe 13 12,qn 14 .eql 13 0]
def abv:List Abs.Op:=[]
def abw :=[qo 6 (.pB 5)]
def abx :=[qm 16 2,qe 17 16,qn 18 .gtr 17 0]
def aby :=[qM 21 6,qM 22 2,qO 23 (.fh 1 (.t 22) (.c zI)),qL 24 1 23,qM 25 2,qO 26 (.fh 1 (.t 25) (.c (.int .i64 1))),qL 27 1 26,qM 28 2,qO 29 (.fh 1 (.t 28) (.c (.int .i64 2))),qL 30 1 29,qM 31 2,qO 32 (.fh 1 (.t 31) (.c (.int .i64 3))),qL 33 1 32,qM 34 2,qO 35 (.fh 1 (.t 34) (.c (.int .i64 4))),qL 36 1 35,qO 37 (.lK [zI,zI,zI,zI,zI] [(0,1,(.t 24)),(1,1,(.t 27)),(2,1,(.t 30)),(3,1,(.t 33)),(4,1,(.t 36))]),qO 38 (.uH 1 5 [zI,zI,zI,zI,zI] [(0,5,(.t 37))]),qy 39 5 40 21 38,qm 6 39]
def abz :=[qm 19 2,qo 20 (.Md 1 (.t 19) (some (.c (.int .i64 5))) none none),qm 2 20]
def kg:Abs.cX :=
 (.seq (.seq (.ai [0,2,6,18] abx) (.ite (.t 18) .cI (.exit 0))) (.seq (.bD 1 (.ai [0,2,6] aby)) (.ai [0,2,6] abz)))
def abA :=[qm 40 6,qc 41 jF [40]]
def abB:List Abs.Op:=[]
def abC :=[qm 43 0,qm 44 6,qo 45 (.mA (.t 43)),qf 46 0 45,qf 47 0 46,qf 48 4 47,qt 1 48 44]
def Cf:bP:=⟨[(6,[]),(5,[0,6]),(3,[0,2,6]),(4,[0,2,6]),(2,[0,2,6,18]),(1,[0,2,6]),(0,[0,2])],[(0,[0,2,6])],[],[0,6],[],[],[],[(5,[6])],[],[],[(0,some 8),(5,some 2)]⟩
def jZ:Abs.Fn:=⟨3,[],
 (.seq (.iT [0,2] abu ⟨some 15,none,false,.call false (.c (.fn bd [] [])) [(.t 14),(.c (.int .i64 8))]⟩ abv) (.seq (.ai [0,2,6] abw) (.seq (.bD 0 (.loop [0,2,6] false kg)) (.seq (.seq (.cG [6]) (.iT [0,6] abA ⟨some 42,none,false,.call false (.c (.fn bX [] [])) [(.t 41)]⟩ abB)) (.ai [] abC)))))⟩
attribute [simp] abu abv abw abx aby abz abA abB abC
def abD :=[qm 7 0,qo 8 (.mA (.t 7)),qf 9 0 8,qf 10 0 9,qf 11 0 10,qa 12 4 11,qo 13 (.lK [zI,zI,zI,zI] []),qo 14 (.eqv true [some .i64,some .i64,some .i64,some .i64] true (.t 12) (.t 13)),qm 15 14,qg 15 true (qm 16 0),qg 15 true (qo 17 (.mA (.t 16))),qg 15 true (qf 18 0 17),qg 15 true (qf 19 0 18),qg 15 true (qf 20 4 19),qg 15 true (ql 21 1 20),qg 15 true (qe 22 21),qg 15 true (qn 23 .gtr 22 0),qp 24 15 23,qm 25 24,qg 25 true (qm 26 0),qg 25 true (qo 27 (.mA (.t 26))),qg 25 true (qf 28 18 27),qg 25 true (ql 29 1 28),qg 25 true (qu 30 29),qp 31 25 30]
def abE:List Abs.Op:=[]
def abF :=[qm 33 0,qo 34 (.mA (.t 33)),qf 35 0 34,qf 36 0 35,qa 37 9 36,qo 6 (.eJ [] [zI,zI,zI,zI,.aG,zI,zI,zI,.aG]),qs 6 9 6 37]
def abG :=[qM 38 2,qO 39 (.fh 1 (.t 38) (.c zI)),qL 40 1 39,qM 41 2,qO 42 (.fh 1 (.t 41) (.c (.int .i64 1))),qL 43 1 42,qM 44 2,qO 45 (.fh 1 (.t 44) (.c (.int .i64 2))),qL 46 1 45,qF 47 5 6,qS 6 1 47 40,qF 48 6 6,qS 6 1 48 43,qf 49 7 6,qs 6 1 49 46]
def abH :=[qw 50 6 9 6,qc 51 mM [50]]
def abI:List Abs.Op:=[]
def abJ :=[qm 53 0,qm 54 0,qw 55 6 9 6,qo 56 (.mA (.t 53)),qf 57 0 56,qf 58 0 57,qt 9 58 55,qo 59 (.mA (.t 54)),qf 60 18 59,⟨none,none,false,.st [] 1 (.t 60) (.c (.bool true))⟩]
def EK:bP:=⟨[(4,[]),(3,[0,6]),(2,[0,6]),(1,[0,2,6]),(0,[0,2])],[],[],[0,6],[6],[],[],[],[],[],[(0,some 25),(3,some 2)]⟩
def lN:Abs.Fn:=⟨3,[],
 (.seq (.iT [0,2] abD ⟨some 32,none,false,.call false (.c (.fn bd [] [])) [(.t 31),(.c (.int .i64 8))]⟩ abE) (.seq (.ai [0,2,6] abF) (.seq (.ai [0,6] abG) (.seq (.iT [0,6] abH ⟨some 52,none,false,.call false (.c (.fn bX [] [])) [(.t 51)]⟩ abI) (.ai [] abJ)))))⟩
attribute [simp] abD abE abF abG abH abI abJ
def abK :=[qm 7 0,qo 8 (.mA (.t 7)),qf 9 18 8,ql 10 1 9,qm 11 10,qg 11 true (qm 12 0),qg 11 true (qo 13 (.mA (.t 12))),qg 11 true (qf 14 0 13),qg 11 true (qf 15 9 14),qg 11 true (ql 16 1 15),qg 11 true (qe 17 16),qg 11 true (qn 18 .eql 17 0),qp 19 11 18]
def abL:List Abs.Op:=[]
def abM :=[qm 21 0,qo 22 (.mA (.t 21)),qf 23 0 22,qf 24 0 23,qa 25 9 24,qo 6 (.eJ [] [zI,zI,zI,zI,.aG,zI,zI,zI,.aG]),qs 6 9 6 25]
def abN :=[qF 26 8 6,qV 27 6 1 26,qo 28 (.call true (.c (.fn eK [] [])) [(.t 27)]),qM 29 2,qO 30 (.fh 1 (.t 29) (.c zI)),qO 31 (.Vp false 1 (.t 30)),qM 32 2,qO 33 (.fh 1 (.t 32) (.c (.int .i64 1))),qO 34 (.Vp false 1 (.t 33)),qM 35 2,qO 36 (.fh 1 (.t 35) (.c (.int .i64 2))),qO 37 (.Vp false 1 (.t 36)),qO 38 (.lK [zI,zI,zI] [(0,1,(.t 31)),(1,1,(.t 34)),(2,1,(.t 37))]),qO 39 (.uH 1 3 [zI,zI,zI] [(0,3,(.t 38))]),qy 40 3 24 28 39,qf 41 8 6,qs 6 1 41 40]
def abO :=[qw 42 6 9 6,qc 43 mM [42]]
def abP:List Abs.Op:=[]
def abQ :=[qm 45 0,qw 46 6 9 6,qo 47 (.mA (.t 45)),qf 48 0 47,qf 49 0 48,qt 9 49 46]
def DR:bP:=⟨[(4,[]),(3,[0,6]),(2,[0,6]),(1,[0,2,6]),(0,[0,2])],[],[],[0,6],[6],[],[2002],[(3,[6])],[29,32,35],[],[(0,some 13),(3,some 2)]⟩
def kO:Abs.Fn:=⟨3,[],
 (.seq (.iT [0,2] abK ⟨some 20,none,false,.call false (.c (.fn bd [] [])) [(.t 19),(.c (.int .i64 8))]⟩ abL) (.seq (.ai [0,2,6] abM) (.seq (.ai [0,6] abN) (.seq (.seq (.cG [6]) (.iT [0,6] abO ⟨some 44,none,false,.call false (.c (.fn bX [] [])) [(.t 43)]⟩ abP)) (.ai [] abQ)))))⟩
attribute [simp] abK abL abM abN abO abP abQ
def abR :=[qx 4 1]
def abS :=[qm 9 0,qo 10 (.mA (.t 9)),qf 11 18 10,ql 12 1 11,qm 13 12,qg 13 true (qm 14 0),qg 13 true (qo 15 (.mA (.t 14))),qg 13 true (qf 16 0 15),qg 13 true (qf 17 10 16),qg 13 true (ql 18 1 17),qg 13 true (qe 19 18),qg 13 true (qn 20 .eql 19 0),qp 21 13 20]
def abT:List Abs.Op:=[]
def abU :=[qm 23 0,qo 24 (.mA (.t 23)),qf 25 0 24,qf 26 9 25,ql 27 1 26,qo 28 (.yF eo [] [(.t 4)]),qc 29 dZ [27,28],qu 30 29]
def abV:List Abs.Op:=[]
def abW :=[qm 32 0,qo 33 (.mA (.t 32)),qf 34 0 33,qf 35 9 34,ql 36 1 35,qe 37 36,qn 38 .lss 37 40]
def abX:List Abs.Op:=[]
def abY :=[qo 40 (.Vp false 1 (.t 4)),qm 41 2,qo 42 (.lK [(.str []),.aG] [(0,1,(.t 40)),(1,1,(.t 41))]),qo 6 (.eJ [] [(.str []),.aG]),qs 6 2 6 42]
def abZ :=[qM 44 0,qO 45 (.mA (.t 44)),qF 46 0 45,qF 47 0 46,qA 48 9 47,qW 49 6 2 6,qC 50 tZ [48,49],qM 43 50,qZ 51 43 0,qZ 52 43 1,qM 7 51,qm 8 52]
def ab0 :=[qm 53 8]
def Sf:List Abs.Op:=[]
def Sg :=[qM 55 0,qM 56 0,qM 57 0,qO 58 (.mA (.t 57)),qF 59 0 58,qF 60 9 59,qL 61 1 60,qW 62 6 2 6,qO 63 (.lK [(.str []),.aG,(.bool false),zI] [(0,2,(.t 62)),(2,1,(.c (.bool true))),(3,1,(.c zI))]),qO 64 (.uH 1 4 [(.str []),.aG,(.bool false),zI] [(0,4,(.t 63))]),qO 65 (.Uj [] 4 56 (.t 61) (.t 64)),qM 66 0,qO 67 (.mA (.t 66)),qF 68 19 67,qO 69 (.Vo false 1 (.t 68)),qO 70 (.lK [zI,zI,zI,zI] []),qO 71 (.uH 1 4 [zI,zI,zI,zI] [(0,4,(.t 70))]),qO 72 (.app 4 32 (.t 69) (.t 71)),qO 73 (.mA (.t 55)),qF 74 0 73,qF 75 9 74,⟨none,none,true,.st [(0,4),(10,4)] 1 (.t 75) (.t 65)⟩,qo 76 (.mA (.t 56)),qf 77 19 76,⟨none,none,false,.st [(0,4)] 1 (.t 77) (.t 72)⟩]
def Cd:bP:=⟨[(7,[]),(6,[0,6]),(5,[0,6,8]),(4,[0,6]),(3,[0,2,4]),(2,[0,2,4]),(1,[0,2,4]),(0,[0,2,4])],[],[],[0,6],[6],[(7021,[(0,4),(10,4)]),(7024,[(0,4)])],[3007014],[],[4],[(7010,some [])],[(1,some 13),(2,some 8),(3,some 7),(6,some 1)]⟩
def jX:Abs.Fn:=⟨3,[],
 (.seq (.ai [0,2,4] abR) (.seq (.iT [0,2,4] abS ⟨some 22,none,false,.call false (.c (.fn bd [] [])) [(.t 21),(.c (.int .i64 8))]⟩ abT) (.seq (.iT [0,2,4] abU ⟨some 31,none,false,.call false (.c (.fn bd [] [])) [(.t 30),(.c (.int .i64 6))]⟩ abV) (.seq (.iT [0,2,4] abW ⟨some 39,none,false,.call false (.c (.fn bd [] [])) [(.t 38),(.c (.int .i64 3))]⟩ abX) (.seq (.ai [0,6] abY) (.seq (.ai [0,6,8] abZ) (.seq (.iT [0,6] ab0 ⟨some 54,none,false,.call false (.c (.fn bX [] [])) [(.t 53)]⟩ Sf) (.ai [] Sg))))))))⟩
attribute [simp] abR abS abT abU abV abW abX abY abZ ab0 Sf Sg
def ab1 :=[qx 3 0]
def ab2 :=[ql 9 1 3,qo 10 (.mA (.t 9)),qf 11 0 10,qf 12 9 11,ql 13 1 12,qe 14 13,qn 15 .gtr 14 0]
def ab3:List Abs.Op:=[]
def ab4 :=[qM 17 1,qM 18 2,qO 19 (.fh 1 (.t 18) (.c zI)),qL 20 1 19,qM 21 2,qO 22 (.fh 1 (.t 21) (.c (.int .i64 1))),qL 23 1 22,qM 24 2,qO 25 (.fh 1 (.t 24) (.c (.int .i64 2))),qL 26 1 25,qO 27 (.lK [zI,zI] [(0,1,(.t 23)),(1,1,(.t 26))]),qO 28 (.lK [(.str []),zI,.aG,.aG,zI,zI] [(0,1,(.t 17)),(1,1,(.t 20)),(4,2,(.t 27))]),qO 6 (.K5 [] [(.str []),zI,.aG,.aG,zI,zI]),⟨none,none,false,.st [(2,1),(3,1)] 6 (.t 6) (.t 28)⟩]
def ab5 :=[qm 29 2,qo 30 (.Md 1 (.t 29) (some (.c (.int .i64 3))) none none),qe 31 30,qi 32 0]
def ab6 :=[qk 33 .lss 32 31]
def ab7 :=[qm 34 32,qj 35 1 30 32,ql 36 1 35,qm 7 34,qm 8 36]
def ab8 :=[qm 37 7,qn 38 .rem 37 2,qn 39 .eql 38 0]
def ab9 :=[qf 40 2 6,ql 41 1 40,qm 42 8,qo 43 (.uH 1 1 [zI] [(0,1,(.t 42))]),qy 44 1 8 41 43,qf 45 2 6,⟨none,none,false,.st [(0,1),(1,1)] 1 (.t 45) (.t 44)⟩]
def aca :=[qf 46 3 6,ql 47 1 46,qm 48 8,qo 49 (.uH 1 1 [zI] [(0,1,(.t 48))]),qy 50 1 8 47 49,qf 51 3 6,⟨none,none,false,.st [(0,1)] 1 (.t 51) (.t 50)⟩]
def Sh :=[qn 52 .add 32 1,qm 32 52]
def iu:Abs.cX :=
 (.seq (.ai [2,3,6,30,31,32,33] ab6) (.seq (.ite (.t 33) .cI (.exit 0)) (.seq (.bD 1 (.seq (.ai [2,3,6,7,8,30,31,32] ab7) (.seq (.ai [2,3,6,8,30,31,32,39] ab8) (.ite (.t 39) (.ai [2,3,6,30,31,32] ab9) (.ai [2,3,6,30,31,32] aca))))) (.ai [2,3,6,30,31,32] Sh))))
def Si :=[qL 53 1 3,qO 54 (.mA (.t 53)),qF 55 0 54,qF 56 0 55,qF 57 0 56,qA 58 4 57,qA 59 6 6,qO 60 (.uH 1 6 [(.str []),zI,.aG,.aG,zI,zI] [(0,6,(.t 59))]),qc 61 ji [58,60]]
def Sj:List Abs.Op:=[]
def Sk :=[qL 63 1 3,qM 64 2,qO 65 (.fh 1 (.t 64) (.c (.int .i64 1))),qL 66 1 65,qM 67 2,qO 68 (.fh 1 (.t 67) (.c (.int .i64 2))),qL 69 1 68,qO 70 (.lK [zI,zI] [(0,1,(.t 66)),(1,1,(.t 69))]),qO 71 (.yF fx [] [(.t 3),(.t 6)]),qc 72 gB [63,70,71]]
def EL:bP:=⟨[(11,[]),(10,[2,3,6]),(9,[2,3,6,30,31,32]),(7,[2,3,6,30,31,32]),(8,[2,3,6,30,31,32]),(6,[2,3,6,8,30,31,32,39]),(5,[2,3,6,7,8,30,31,32]),(4,[2,3,6,30,31,32,33]),(3,[2,3,6,30,31,32]),(2,[2,3,6]),(1,[1,2,3]),(0,[1,2,3])],[(0,[2,3,6,30,31,32])],[],[6],[],[(2013,[(2,1),(3,1)]),(7006,[(0,1),(1,1)]),(8006,[(0,1)])],[],[(10,[1000006])],[],[],[(1,some 7),(10,some 9)]⟩
def lO:Abs.Fn:=⟨3,[],
 (.seq (.ai [1,2,3] ab1) (.seq (.iT [1,2,3] ab2 ⟨some 16,none,false,.call false (.c (.fn bd [] [])) [(.t 15),(.c (.int .i64 8))]⟩ ab3) (.seq (.ai [2,3,6] ab4) (.seq (.seq (.ai [2,3,6,30,31,32] ab5) (.bD 0 (.loop [2,3,6,30,31,32] false iu))) (.seq (.seq (.cG [1000006]) (.iT [2,3,6] Si ⟨some 62,none,false,.call false (.c (.fn bX [] [])) [(.t 61)]⟩ Sj)) (.ai [] Sk))))))⟩
attribute [simp] ab1 ab2 ab3 ab4 ab5 ab6 ab7 ab8 ab9 aca Sh Si Sj Sk
def acb :=[qm 10 0,qo 11 (.mA (.t 10)),qf 12 0 11,qf 13 11 12,ql 14 1 13,qe 15 14,qn 16 .lss 15 20]
def acd:List Abs.Op:=[]
def ace :=[qm 18 2,qo 19 (.fh 1 (.t 18) (.c (.int .i64 9))),ql 20 1 19,qo 21 (.call false (.c (.fn cF [] [])) [(.t 20),(.c (.int .i64 1)),(.c (.int .i64 2))])]
def acf:List Abs.Op:=[]
def acg :=[qM 23 2,qO 24 (.fh 1 (.t 23) (.c zI)),qL 25 1 24,qM 26 2,qO 27 (.fh 1 (.t 26) (.c (.int .i64 1))),qL 28 1 27,qM 29 2,qO 30 (.fh 1 (.t 29) (.c (.int .i64 2))),qL 31 1 30,qO 32 (.lK [zI,zI,zI] [(0,1,(.t 25)),(1,1,(.t 28)),(2,1,(.t 31))]),qM 33 2,qO 34 (.fh 1 (.t 33) (.c (.int .i64 3))),qL 35 1 34,qM 36 2,qO 37 (.fh 1 (.t 36) (.c (.int .i64 4))),qL 38 1 37,qM 39 2,qO 40 (.fh 1 (.t 39) (.c (.int .i64 5))),qL 41 1 40,qO 42 (.lK [zI,zI,zI] [(0,1,(.t 35)),(1,1,(.t 38)),(2,1,(.t 41))]),qM 43 2,qO 44 (.fh 1 (.t 43) (.c (.int .i64 6))),qL 45 1 44,qM 46 2,qO 47 (.fh 1 (.t 46) (.c (.int .i64 7))),qL 48 1 47,qM 49 2,qO 50 (.fh 1 (.t 49) (.c (.int .i64 8))),qL 51 1 50,qM 52 2,qO 53 (.fh 1 (.t 52) (.c (.int .i64 9))),qL 54 1 53,qO 55 (.Oj .u8 (.t 54)),qO 56 (.lK [zI,zI,zI,zI,zI,zI,zI,zI,zI,(.int .u8 0)] [(0,3,(.t 32)),(3,3,(.t 42)),(6,1,(.t 45)),(7,1,(.t 48)),(8,1,(.t 51)),(9,1,(.t 55))]),qO 6 (.eJ [] [zI,zI,zI,zI,zI,zI,zI,zI,zI,(.int .u8 0)]),qs 6 10 6 56]
def ach :=[qw 58 6 10 6,qo 59 (.uH 1 10 [zI,zI,zI,zI,zI,zI,zI,zI,zI,(.int .u8 0)] [(0,10,(.t 58))]),qo 60 (.call false (.c (.fn fF [] [])) [(.t 59),(.c .aG),(.c zI)]),qm 57 60,qz 61 57 0,qz 62 57 1,qz 63 57 2,qm 7 61,qm 8 62,qm 9 63]
def aci :=[qm 64 9]
def acj:List Abs.Op:=[]
def ack :=[qM 66 0,qM 67 0,qO 68 (.mA (.t 67)),qF 69 0 68,qF 70 11 69,qL 71 1 70,qW 72 6 10 6,qO 73 (.uH 1 10 [zI,zI,zI,zI,zI,zI,zI,zI,zI,(.int .u8 0)] [(0,10,(.t 72))]),qO 74 (.app 10 80 (.t 71) (.t 73)),qo 75 (.mA (.t 66)),qf 76 0 75,qf 77 11 76,⟨none,none,false,.st [(0,10)] 1 (.t 77) (.t 74)⟩]
def DN:bP:=⟨[(5,[]),(4,[0,6]),(3,[0,6,9]),(2,[0,6]),(1,[0,2]),(0,[0,2])],[],[],[0,6],[6],[(5012,[(0,10)])],[],[],[],[],[(0,some 7),(1,some 4),(4,some 1)]⟩
def kK:Abs.Fn:=⟨3,[],
 (.seq (.iT [0,2] acb ⟨some 17,none,false,.call false (.c (.fn bd [] [])) [(.t 16),(.c (.int .i64 3))]⟩ acd) (.seq (.iT [0,2] ace ⟨some 22,none,false,.call false (.c (.fn bd [] [])) [(.t 21),(.c (.int .i64 1))]⟩ acf) (.seq (.ai [0,6] acg) (.seq (.ai [0,6,9] ach) (.seq (.iT [0,6] aci ⟨some 65,none,false,.call false (.c (.fn bX [] [])) [(.t 64)]⟩ acj) (.ai [] ack))))))⟩
attribute [simp] acb acd ace acf acg ach aci acj ack
def acm :=[qm 9 2,qo 10 (.me (.s2a 3 1) [(.t 9)]),qa 11 3 10,qo 12 (.call false (.c (.fn pA [] [])) [(.c .aG),(.c .aG),(.t 11),(.c zI)]),qm 8 12,qz 13 8 0,qz 14 8 1,qm 6 13,qm 7 14]
def acn :=[qm 15 7]
def aco:List Abs.Op:=[]
def acp :=[qm 17 0,qm 18 2,qo 19 (.me (.s2a 3 1) [(.t 18)]),qa 20 3 19,qo 21 (.mA (.t 17)),qf 22 0 21,qf 23 13 22,qt 3 23 20]
def DJ:bP:=⟨[(2,[]),(1,[0,2]),(0,[0,2,7])],[],[],[0],[],[],[],[],[],[],[(1,some 1)]⟩
def kI:Abs.Fn:=⟨3,[],
 (.seq (.ai [0,2,7] acm) (.seq (.iT [0,2] acn ⟨some 16,none,false,.call false (.c (.fn bX [] [])) [(.t 15)]⟩ aco) (.ai [] acp)))⟩
attribute [simp] acm acn aco acp
def tF2:List (Nat×bP×Abs.Fn):=[(dn,G2,fN),(jc,xY,rP),(cg,xX,mF),(qG,FM,yo),(jv,EG,oI),(jF,E2,o8),(j6,Ch,vI),(fC,ES,oQ),(gv,Bt,l7),(j2,B8,mR),(eH,tt,mC),(jT,zc,sh),(j5,JD,Cy),(ep,EY,oZ),(ed,Ci,mW),(fE,Cj,mY),(vQ,N4,yt),(fD,EX,oY),(kn,FW,pZ),(iP,DT,nU),(jB,EU,oV),(dW,uT,jr),(dH,uB,iV),(gZ,Hf,u6),(ez,Aw,lr),(jy,EP,oO),(l4,E1,o6),(cS,rW,dN),(kQ,DV,nW),(ck,FT,pW),(nq,FU,pX),(lJ,G8,rI),(nu,FX,qd),(kR,DW,nX),(fk,uz,nH),(ku,zH,td),(eV,tC,mZ),(jR,za,se),(eu,sL,lP),(iC,xk,q7),(iO,DS,nS),(zn,KX,Ed),(pz,Iz,sD),(bd,KV,sd),(lI,G1,og),(ew,Au,o7),(fj,uy,nG),(lA,Ar,tR),(gF,y9,jO),(ek,An,kY),(fQ,uS,oi),(oo,G9,zP),(pa,E3,sQ),(gW,zG,kl),(oj,G5,rF),(jE,EZ,o4),(jC,EV,oW),(mw,BF,uJ),(jA,ET,oR),(gL,wa,pr),(gn,vF,oC),(fm,uA,nI),(fw,Cb,jW),(fB,Cf,jZ),(gP,EK,lN),(gk,DR,kO),(fy,Cd,jX),(gQ,EL,lO),(gg,DN,kK),(ga,DJ,kI)]
theorem kF2:(tF2.map fun p=>chk p)=tF2.map fun p=>some p.2.2:=by kernel_rfl
end Go.Proofs.YtfgljaglidhjiaaGreatDoor
