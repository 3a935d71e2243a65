import Derived.Test.YtfgljaglidhjiaaGreatDoorIds
set_option linter.all false
set_option maxRecDepth 100000
namespace Go.Proofs.YtfgljaglidhjiaaGreatDoor
open Go Go.Abs
def YM :=[qx 1 0,qi 2 0]
def YN :=[qa 3 4 1,qc 4 cS [3],qm 2 4]
def G6:bP:=jc [(1,[2]),(0,[1])]
def mN:Abs.Fn:=⟨1,[.t 2],
 (.seq (.ak [1] YM) (.seq (.ak [2] YN) .ret))⟩
@[simp] theorem aGv:type_of% (show YM=_∧YN=_ from by simp only[zI,YM,YN,qm,qi,qa,qx,qc,aj,aw];exact⟨rfl,rfl⟩):=⟨rfl,rfl⟩
theorem HB:type_of% mN.eq_1:=ah mN.eq_1
def YO :=[qi 2 0]
def YP :=[qm 3 0,qc 4 ji [3],qu 5 4]
def YQ :=[qi 2 1]
def YR :=[qi 2 0]
def Hu:bP:=jc [(3,[2]),(2,[2]),(1,[5]),(0,[0])]
def nq:Abs.Fn:=⟨1,[.t 2],
 (.seq (.ak [0] YO) (.seq (.seq (.ak [5] YP) (.ite (.t 5) (.seq (.ak [2] YQ) .ret) .cU)) (.seq (.ak [2] YR) .ret)))⟩
@[simp] theorem aGw:type_of% (show YO=_∧YP=_∧YQ=_∧YR=_ from by simp only[zI,YO,YP,YQ,YR,qm,qi,qu,qc,aj,aw];exact⟨rfl,rfl,rfl,rfl⟩):=⟨rfl,rfl,rfl,rfl⟩
theorem HU:type_of% nq.eq_1:=ah nq.eq_1
def auL :=[qx 3 1,qb 4 false]
def auM :=[qm 5 0,qo 6 (.zR mw [] [(.t 3)]),qc 7 fj [5,6],qu 8 7,qm 4 8]
def D3:bP:=jc [(1,[4]),(0,[0,3])]
def wZ:Abs.Fn:=⟨2,[.t 4],
 (.seq (.ak [0,3] auL) (.seq (.ak [4] auM) .ret))⟩
def YS :=[qx 2 0,qb 3 false]
def YT :=[qf 4 0 2,ql 5 1 4,ql 6 1 1,qe 7 6,qn 8 .sub 7 1,qo 9 (.call false (.c (.fn ct [] [])) [(.t 5),(.c zI),(.t 8)]),qu 10 9,qm 11 10,qg 11 false (ql 12 1 1),qg 11 false (qf 13 0 2),qg 11 false (ql 14 1 13),qg 11 false (qj 15 1 12 14),qg 11 false (ql 16 1 15),qP 17 11 16]
def YU :=[qb 3 false]
def YV :=[ql 18 1 1,qf 19 0 2,ql 20 1 19,qj 21 1 18 20,⟨none,none,false,.st [] 1 (.t 21) (.c (.bool true))⟩]
def YW :=[qf 22 1 2,ql 23 1 22,qo 24 (.call false (.c (.fn ct [] [])) [(.t 23),(.c zI),(.c (.int .i64 3000))]),qm 25 24,qg 25 true (qf 26 2 2),qg 25 true (ql 27 1 26),qg 25 true (qo 28 (.call false (.c (.fn ct [] [])) [(.t 27),(.c zI),(.c (.int .i64 1000000))])),qp 29 25 28,qm 3 29]
def Hk:bP:=jc [(4,[3]),(3,[2]),(2,[3]),(1,[1,2,17]),(0,[1,2])]
def mY:Abs.Fn:=⟨2,[.t 3],
 (.seq (.ak [1,2] YS) (.seq (.seq (.ak [1,2,17] YT) (.ite (.t 17) (.seq (.ak [3] YU) .ret) .cU)) (.seq (.ak [2] YV) (.seq (.ak [3] YW) .ret))))⟩
@[simp] theorem aGx:type_of% (show YS=_∧YT=_∧YU=_∧YV=_∧YW=_ from by simp only[zI,YS,YT,YU,YV,YW,qo,qm,qb,qf,ql,qx,qe,qj,qn,qu,qp,qP,qg];exact⟨rfl,rfl,rfl,rfl,rfl⟩):=⟨rfl,rfl,rfl,rfl,rfl⟩
theorem HK:type_of% mY.eq_1:=ah mY.eq_1
def YX :=[qi 2 0]
def YY :=[qa 3 4 0,ql 4 1 1,qc 5 kK [3,4],qm 2 5]
def Db:bP:=jc [(1,[2]),(0,[0,1])]
def jB:Abs.Fn:=⟨2,[.t 2],
 (.seq (.ak [0,1] YX) (.seq (.ak [2] YY) .ret))⟩
@[simp] theorem aGy:type_of% (show YX=_∧YY=_ from by simp only[zI,YX,YY,qm,qi,ql,qa,qc,aj,aw];exact⟨rfl,rfl⟩):=⟨rfl,rfl⟩
theorem Dr:type_of% jB.eq_1:=ah jB.eq_1
def YZ :=[qx 2 0,qi 4 0]
def Y0 :=[qm 5 1,qe 6 5,qo 7 (.call false (.c (.fn dR [] [])) [(.t 6),(.c (.int .i64 1)),(.c (.int .i64 40))]),qu 8 7]
def Y2 :=[qi 4 3]
def Y3 :=[qm 9 1,qo 10 (.zR ej [] [(.t 2)]),qc 11 gC [9,10],qm 4 11]
def DU:bP:=jc [(3,[4]),(2,[4]),(1,[1,2,8]),(0,[1,2])]
def km:Abs.Fn:=⟨2,[.t 4],
 (.seq (.ak [1,2] YZ) (.seq (.seq (.ak [1,2,8] Y0) (.ite (.t 8) (.seq (.ak [4] Y2) .ret) .cU)) (.seq (.ak [4] Y3) .ret)))⟩
@[simp] theorem aGz:type_of% (show YZ=_∧Y0=_∧Y2=_∧Y3=_ from by simp only[zI,YZ,Y0,Y2,Y3,qo,qm,qi,qx,qe,qu,qc,aj,aw];exact⟨rfl,rfl,rfl,rfl⟩):=⟨rfl,rfl,rfl,rfl⟩
theorem Ef:type_of% km.eq_1:=ah km.eq_1
def auN :=[qb 4 false]
def auO :=[qm 5 0,qm 6 1,qc 7 fQ [5,6],qn 8 .geq 7 0,qm 4 8]
def uA:bP:=jc [(1,[4]),(0,[0,1])]
def nR:Abs.Fn:=⟨2,[.t 4],
 (.seq (.ak [0,1] auN) (.seq (.ak [4] auO) .ret))⟩
def auP :=[qx 2 0,qb 3 false]
def auQ :=[ql 4 1 1,qa 5 2 2,qo 6 (.call false (.t 4) [(.t 5)]),qu 7 6,qm 3 7]
def Aq:bP:=jc [(1,[3]),(0,[1,2])]
def tu:Abs.Fn:=⟨2,[.t 3],
 (.seq (.ak [1,2] auP) (.seq (.ak [3] auQ) .ret))⟩
def auR :=[qx 3 1,qb 4 false]
def auS :=[qm 5 0,qo 6 (.zR pq [] [(.t 3)]),qc 7 cg [5,6],qu 8 7,qm 4 8]
def MP:bP:=jc [(1,[4]),(0,[0,3])]
def Ez:Abs.Fn:=⟨2,[.t 4],
 (.seq (.ak [0,3] auR) (.seq (.ak [4] auS) .ret))⟩
def Y4 :=[qx 2 0,qo 4 (.mv (.c .aH))]
def Y5 :=[qF 5 9 2,qF 6 1 5,qL 7 1 6,qM 8 1,qF 9 0 2,qA 10 9 9,qC 11 dq [10],qK 12 .mul 8 11,qM 13 1,qN 14 .add 13 1,qF 15 0 2,qA 16 9 15,qC 17 dq [16],qK 18 .mul 14 17,qo 19 (.UB 1 (.t 7) (some (.t 12)) (some (.t 18)) none),qm 4 19]
def Hq:bP:=jc [(1,[4]),(0,[1,2])]
def ng:Abs.Fn:=⟨2,[.t 4],
 (.seq (.ak [1,2] Y4) (.seq (.ak [4] Y5) .ret))⟩
@[simp] theorem aGA:type_of% (show Y4=_∧Y5=_ from by simp only[zI,Y4,Y5,qo,qm,qM,qF,qL,qA,qx,qK,qN,qC,aj,aw];exact⟨rfl,rfl⟩):=⟨rfl,rfl⟩
theorem HQ:type_of% ng.eq_1:=ah ng.eq_1
def Y6 :=[qb 3 false]
def Y7 :=[qm 4 0,qo 5 (.EE 2 1 (.t 1) (.c zI)),ql 6 1 5,qo 7 (.EE 2 1 (.t 1) (.c (.int .i64 1))),ql 8 1 7,qc 9 ct [4,6,8],qm 3 9]
def D4:bP:=jc [(1,[3]),(0,[0,1])]
def kD:Abs.Fn:=⟨2,[.t 3],
 (.seq (.ak [0,1] Y6) (.seq (.ak [3] Y7) .ret))⟩
@[simp] theorem aGB:type_of% (show Y6=_∧Y7=_ from by simp only[zI,Y6,Y7,qo,qm,qb,ql,qc,aj,aw];exact⟨rfl,rfl⟩):=⟨rfl,rfl⟩
theorem Em:type_of% kD.eq_1:=ah kD.eq_1
def Y8 :=[qx 2 0,qi 4 0]
def Y9 :=[qM 5 1,qF 6 0 2,qF 7 0 6,qF 8 0 7,qL 9 1 8,qF 10 0 2,qF 11 0 10,qF 12 1 11,qL 13 1 12,qK 14 .mul 9 13,qK 15 .quo 5 14,qF 16 0 2,qF 17 6 16,qL 18 1 17,qk 19 .mul 15 18,qm 4 19]
def D5:bP:=jc [(1,[4]),(0,[1,2])]
def kE:Abs.Fn:=⟨2,[.t 4],
 (.seq (.ak [1,2] Y8) (.seq (.ak [4] Y9) .ret))⟩
@[simp] theorem aGC:type_of% (show Y8=_∧Y9=_ from by simp only[zI,Y8,Y9,qm,qM,qi,qF,qL,qx,qk,qK];exact⟨rfl,rfl⟩):=⟨rfl,rfl⟩
theorem En:type_of% kE.eq_1:=ah kE.eq_1
def Za :=[qi 4 0]
def Zb :=[qm 6 0,qm 7 1,qk 8 .quo 6 7,qm 5 8]
def Zc :=[qm 9 5,qm 10 1,qk 11 .mul 9 10,qm 12 0,qk 13 .gtr 11 12]
def Zd :=[qm 14 5,qn 15 .sub 14 1,qm 5 15]
def Ze :=[qm 16 5,qm 4 16]
def Th:bP:=jc [(4,[4]),(3,[5]),(2,[5,13]),(1,[0,1,5]),(0,[0,1])]
def xa:Abs.Fn:=⟨2,[.t 4],
 (.seq (.ak [0,1] Za) (.seq (.ak [0,1,5] Zb) (.seq (.seq (.ak [5,13] Zc) (.ite (.t 13) (.ak [5] Zd) .cU)) (.seq (.ak [4] Ze) .ret))))⟩
@[simp] theorem aGD:type_of% (show Za=_∧Zb=_∧Zc=_∧Zd=_∧Ze=_ from by simp only[zI,Za,Zb,Zc,Zd,Ze,qm,qi,qk,qn];exact⟨rfl,rfl,rfl,rfl,rfl⟩):=⟨rfl,rfl,rfl,rfl,rfl⟩
theorem TI:type_of% xa.eq_1:=ah xa.eq_1
def Zf :=[qx 2 0,qi 4 0]
def Zg :=[qa 5 11 2,qo 6 (.call false (.c (.fn eo [] [])) [(.t 5),(.c zI)]),qm 7 1,qj 8 1 6 7,ql 9 1 8,qm 4 9]
def Hp:bP:=jc [(1,[4]),(0,[1,2])]
def nf:Abs.Fn:=⟨2,[.t 4],
 (.seq (.ak [1,2] Zf) (.seq (.ak [4] Zg) .ret))⟩
@[simp] theorem aGE:type_of% (show Zf=_∧Zg=_ from by simp only[zI,Zf,Zg,qo,qm,qi,ql,qa,qx,qj];exact⟨rfl,rfl⟩):=⟨rfl,rfl⟩
theorem HP:type_of% nf.eq_1:=ah nf.eq_1
def Zh :=[qx 1 0,qi 2 0]
def Zi :=[qf 3 0 1,ql 4 1 3,qm 2 4]
def IG:bP:=jc [(1,[2]),(0,[1])]
def oi:Abs.Fn:=⟨1,[.t 2],
 (.seq (.ak [1] Zh) (.seq (.ak [2] Zi) .ret))⟩
@[simp] theorem aGF:type_of% (show Zh=_∧Zi=_ from by simp only[zI,Zh,Zi,qm,qi,qf,ql,qx];exact⟨rfl,rfl⟩):=⟨rfl,rfl⟩
theorem IZ:type_of% oi.eq_1:=ah oi.eq_1
def Zj :=[qx 1 0,qi 2 0]
def Zk :=[qf 3 0 1,ql 4 1 3,qn 5 .eql 4 0]
def Zl :=[qi 2 0]
def Zm :=[qf 6 1 1,ql 7 1 6,qf 8 0 1,ql 9 1 8,qk 10 .quo 7 9,qm 2 10]
def FY:bP:=jc [(3,[2]),(2,[2]),(1,[1,5]),(0,[1])]
def lR:Abs.Fn:=⟨1,[.t 2],
 (.seq (.ak [1] Zj) (.seq (.seq (.ak [1,5] Zk) (.ite (.t 5) (.seq (.ak [2] Zl) .ret) .cU)) (.seq (.ak [2] Zm) .ret)))⟩
@[simp] theorem aGG:type_of% (show Zj=_∧Zk=_∧Zl=_∧Zm=_ from by simp only[zI,Zj,Zk,Zl,Zm,qm,qi,qf,ql,qx,qk,qn];exact⟨rfl,rfl,rfl,rfl⟩):=⟨rfl,rfl,rfl,rfl⟩
theorem Ge:type_of% lR.eq_1:=ah lR.eq_1
def Zn :=[qx 1 0,qi 2 0]
def Zo :=[qf 3 2 1,ql 4 1 3,qm 2 4]
def Hm:bP:=jc [(1,[2]),(0,[1])]
def na:Abs.Fn:=⟨1,[.t 2],
 (.seq (.ak [1] Zn) (.seq (.ak [2] Zo) .ret))⟩
@[simp] theorem aGH:type_of% (show Zn=_∧Zo=_ from by simp only[zI,Zn,Zo,qm,qi,qf,ql,qx];exact⟨rfl,rfl⟩):=⟨rfl,rfl⟩
theorem HM:type_of% na.eq_1:=ah na.eq_1
def auT :=[qi 4 0]
def auU :=[qm 6 0,qe 7 6,qi 8 0]
def auV :=[qk 9 .lss 8 7]
def auW :=[qm 10 8,qm 5 10]
def auX :=[qm 11 1,qm 12 0,qm 13 5,qj 14 10 12 13,qa 15 10 14,qo 16 (.call false (.t 11) [(.t 15)])]
def auY :=[qm 17 5,qm 4 17]
def auZ :=[qn 18 .add 8 1,qm 8 18]
def uF:Abs.cZ :=
 (.seq (.ak [0,1,7,8,9] auV) (.seq (.ite (.t 9) .cU (.exit 0)) (.seq (.bB 1 (.seq (.ak [0,1,5,7,8] auW) (.seq (.ak [0,1,5,7,8,16] auX) (.ite (.t 16) (.seq (.ak [4] auY) .ret) .cU)))) (.ak [0,1,7,8] auZ))))
def au0 :=[qi 4 (-1)]
def vZ:bP:=K1 [(7,[4]),(6,[0,1,7,8]),(5,[4]),(4,[0,1,5,7,8,16]),(3,[0,1,5,7,8]),(2,[0,1,7,8,9]),(1,[0,1,7,8]),(0,[0,1])] [(0,[0,1,7,8])]
def jQ:Abs.Fn:=⟨2,[.t 4],
 (.seq (.ak [0,1] auT) (.seq (.seq (.ak [0,1,7,8] auU) (.bB 0 (.loop [0,1,7,8] false uF))) (.seq (.ak [4] au0) .ret)))⟩
def au1 :=[qi 4 0]
def au2 :=[qm 6 0,qe 7 6,qi 8 0]
def au3 :=[qk 9 .lss 8 7]
def au4 :=[qm 10 8,qm 5 10]
def au5 :=[qm 11 1,qm 12 0,qm 13 5,qj 14 2 12 13,qa 15 2 14,qo 16 (.call false (.t 11) [(.t 15)])]
def au6 :=[qm 17 5,qm 4 17]
def au7 :=[qn 18 .add 8 1,qm 8 18]
def tQ:Abs.cZ :=
 (.seq (.ak [0,1,7,8,9] au3) (.seq (.ite (.t 9) .cU (.exit 0)) (.seq (.bB 1 (.seq (.ak [0,1,5,7,8] au4) (.seq (.ak [0,1,5,7,8,16] au5) (.ite (.t 16) (.seq (.ak [4] au6) .ret) .cU)))) (.ak [0,1,7,8] au7))))
def au8 :=[qi 4 (-1)]
def vE:bP:=K1 [(7,[4]),(6,[0,1,7,8]),(5,[4]),(4,[0,1,5,7,8,16]),(3,[0,1,5,7,8]),(2,[0,1,7,8,9]),(1,[0,1,7,8]),(0,[0,1])] [(0,[0,1,7,8])]
def jm:Abs.Fn:=⟨2,[.t 4],
 (.seq (.ak [0,1] au1) (.seq (.seq (.ak [0,1,7,8] au2) (.bB 0 (.loop [0,1,7,8] false tQ))) (.seq (.ak [4] au8) .ret)))⟩
def au9 :=[qx 3 1,qb 4 false]
def ava :=[qm 5 0,qo 6 (.zR pU [] [(.t 3)]),qc 7 cg [5,6],qu 8 7,qm 4 8]
def J6:bP:=jc [(1,[4]),(0,[0,3])]
def wk:Abs.Fn:=⟨2,[.t 4],
 (.seq (.ak [0,3] au9) (.seq (.ak [4] ava) .ret))⟩
def Zp :=[qb 2 false]
def Zq :=[qm 3 0,qo 4 (.call false (.c (.fn cq [] [])) [(.t 3),(.c (.int .i64 (-20000))),(.c (.int .i64 20000))]),qm 2 4]
def B9:bP:=jc [(1,[2]),(0,[0])]
def iN:Abs.Fn:=⟨1,[.t 2],
 (.seq (.ak [0] Zp) (.seq (.ak [2] Zq) .ret))⟩
@[simp] theorem aGI:type_of% (show Zp=_∧Zq=_ from by simp only[zI,Zp,Zq,qo,qm,qb];exact⟨rfl,rfl⟩):=⟨rfl,rfl⟩
theorem Cr:type_of% iN.eq_1:=ah iN.eq_1
def Zr :=[qb 2 false]
def Zs :=[qm 3 0,qo 4 (.call false (.c (.fn ct [] [])) [(.t 3),(.c (.int .i64 (-100000))),(.c (.int .i64 100000))]),qm 2 4]
def Hh:bP:=jc [(1,[2]),(0,[0])]
def mW:Abs.Fn:=⟨1,[.t 2],
 (.seq (.ak [0] Zr) (.seq (.ak [2] Zs) .ret))⟩
@[simp] theorem aGJ:type_of% (show Zr=_∧Zs=_ from by simp only[zI,Zr,Zs,qo,qm,qb];exact⟨rfl,rfl⟩):=⟨rfl,rfl⟩
theorem HI:type_of% mW.eq_1:=ah mW.eq_1
def Zt :=[qx 2 0,qi 4 0]
def Zu :=[qa 5 11 2,qo 6 (.call false (.c (.fn eo [] [])) [(.t 5),(.c (.int .i64 2))]),qm 7 1,qj 8 1 6 7,ql 9 1 8,qm 4 9]
def Ht:bP:=jc [(1,[4]),(0,[1,2])]
def nj:Abs.Fn:=⟨2,[.t 4],
 (.seq (.ak [1,2] Zt) (.seq (.ak [4] Zu) .ret))⟩
@[simp] theorem aGK:type_of% (show Zt=_∧Zu=_ from by simp only[zI,Zt,Zu,qo,qm,qi,ql,qa,qx,qj];exact⟨rfl,rfl⟩):=⟨rfl,rfl⟩
theorem HT:type_of% nj.eq_1:=ah nj.eq_1
def Zv :=[qo 2 (.rk 3)]
def Zw :=[qm 3 0,qo 4 (.isn false false (.t 3))]
def Zx :=[qo 2 (.rk 3)]
def Zy :=[qo 5 (.UR 0 3 [] []),qm 6 0,qy 7 3 24 5 6,qm 2 7]
def sM:bP:=Tl [(3,[2]),(2,[2]),(1,[0,4]),(0,[0])] [] [] [2,5]
def cN:Abs.Fn:=⟨1,[.t 2],
 (.seq (.ak [0] Zv) (.seq (.seq (.ak [0,4] Zw) (.ite (.t 4) (.seq (.ak [2] Zx) .ret) .cU)) (.seq (.ak [2] Zy) .ret)))⟩
@[simp] theorem aGL:type_of% (show Zv=_∧Zw=_∧Zx=_∧Zy=_ from by simp only[zI,Zv,Zw,Zx,Zy,qo,qm,qy];exact⟨rfl,rfl,rfl,rfl⟩):=⟨rfl,rfl,rfl,rfl⟩
theorem sP:type_of% cN.eq_1:=ah cN.eq_1
def Zz :=[qx 2 0,qx 3 1,qo 4 (.mv (.c .undef))]
def ZA :=[qo 11 (.mp (.make) []),qo 5 (.On [] [.undef]),qt 1 5 11]
def ZB :=[qa 12 11 2,ql 13 1 3,qc 14 ic [12,13],qo 6 (.On [] [.aH]),qt 1 6 14]
def ZC :=[qf 15 0 2,qa 16 9 15,qc 17 pn [16]]
def ZD :=[qo 7 (.eK [] [zI,zI]),qs 7 2 7 18]
def ZE :=[qL 19 1 6,qF 20 0 7,qV 21 7 1 20,qJ 22 1 19 21,qL 23 1 22,qA 24 11 2,qF 25 0 7,qV 26 7 1 25,qC 27 fE [24,26],qK 28 .sub 23 27,qL 29 1 6,qF 30 1 7,qV 31 7 1 30,qJ 32 1 29 31,qL 33 1 32,qK 34 .sub 28 33,qA 35 11 2,qF 36 1 7,qV 37 7 1 36,qC 38 fE [35,37],qk 39 .add 34 38,qm 8 39]
def ZF :=[qm 40 8,qn 41 .lss 40 0]
def ZG :=[qf 42 1 7,qv 43 7 1 42,qf 44 0 7,qv 45 7 1 44,qo 46 (.mJ [zI,zI] [(0,1,(.t 43)),(1,1,(.t 45))]),qm 47 8,qo 48 (.un .neg (.t 47)),qs 7 2 7 46,qm 8 48]
def ZH :=[qA 49 11 2,qF 50 0 7,qV 51 7 1 50,qC 52 j2 [49,51],qA 53 11 2,qF 54 1 7,qV 55 7 1 54,qc 56 j2 [53,55],qo 57 (.mn (.t 52) (.t 56)),qm 9 57]
def ZI :=[qm 58 9,qm 59 8,qk 60 .mul 58 59,qn 61 .quo 60 1000,ql 62 1 3,qf 63 0 7,qv 64 7 1 63,qj 65 3 62 64,qf 66 0 65,ql 67 1 66,qn 68 .quo 67 8,qo 69 (.mn (.t 61) (.t 68)),qm 10 69]
def QZ :=[qm 70 10,qn 71 .gtr 70 0]
def Q0 :=[qL 72 1 5,qW 73 7 2 7,qL 74 1 3,qF 75 0 7,qV 76 7 1 75,qJ 77 3 74 76,qA 78 3 77,qM 79 10,qC 80 mI [78,79],⟨none,none,false,.mp (.put (some (true,[some .i64,some .i64]))) [(.t 72),(.t 73),(.t 80)]⟩]
def gZ:Abs.cZ :=
 (.ak [2,3,5,6,7] ZD)
def hJ:Abs.cZ :=
 (.bB 1 (.seq (.ak [2,3,5,7,8] ZE) (.seq (.seq (.ak [2,3,5,7,8,41] ZF) (.ite (.t 41) (.ak [2,3,5,7,8] ZG) .cU)) (.seq (.ak [3,5,7,8,9] ZH) (.seq (.ak [3,5,7,10] ZI) (.seq (.ak [3,5,7,10,71] QZ) (.ite (.t 71) (.ak [] Q0) .cU)))))))
def Q1 :=[ql 81 1 5,qm 4 81]
def F0:bP:=Hx [(12,[4]),(11,[]),(10,[3,5,7,10,71]),(9,[3,5,7,10]),(8,[3,5,7,8,9]),(7,[2,3,5,7,8]),(6,[2,3,5,7,8,41]),(5,[2,3,5,7,8]),(4,[2,3,5,6,7]),(3,[2,3,4,5,6,17]),(2,[2,3,4,5,6]),(1,[2,3,4,5]),(0,[2,3,4])] [(0,[2,3,4,5,6])] [] [5,6,7] [7] [] []
def lT:Abs.Fn:=⟨2,[.t 4],
 (.seq (.ak [2,3,4] Zz) (.seq (.ak [2,3,4,5] ZA) (.seq (.ak [2,3,4,5,6] ZB) (.seq (.seq (.ak [2,3,4,5,6,17] ZC) (.bB 0 (.afH [2,3,4,5,6] (.t 17) [18] gZ hJ))) (.seq (.ak [4] Q1) .ret)))))⟩
@[simp] theorem aGM:type_of% (show Zz=_∧ZA=_∧ZB=_∧ZC=_∧ZD=_∧ZE=_∧ZF=_∧ZG=_∧ZH=_∧ZI=_∧QZ=_∧Q0=_∧Q1=_ from by simp only[zI,Zz,ZA,ZB,ZC,ZD,ZE,ZF,ZG,ZH,ZI,QZ,Q0,Q1,qo,qm,qM,qf,qF,ql,qL,qa,qA,qv,qV,qW,qx,qj,qJ,qk,qK,qn,qs,qt,qc,qC,aj,aw];exact⟨rfl,rfl,rfl,rfl,rfl,rfl,rfl,rfl,rfl,rfl,rfl,rfl,rfl⟩):=⟨rfl,rfl,rfl,rfl,rfl,rfl,rfl,rfl,rfl,rfl,rfl,rfl,rfl⟩
theorem Bj:type_of% gZ.eq_1:=ah gZ.eq_1
theorem kW:type_of% hJ.eq_1:=ah hJ.eq_1
theorem Gg:type_of% lT.eq_1:=ah lT.eq_1
def ZJ :=[qx 4 1]
def ZK :=[qM 6 0,qO 7 (.nN (.t 6)),qF 8 0 7,qL 9 1 8,qM 10 2,qF 11 0 4,qL 12 1 11,qK 13 .mul 10 12,qk 14 .add 9 13,qo 15 (.nN (.t 6)),qf 16 0 15,qt 1 16 14]
def ZL :=[qM 17 0,qO 18 (.nN (.t 17)),qF 19 1 18,qL 20 1 19,qM 21 2,qF 22 1 4,qL 23 1 22,qK 24 .mul 21 23,qk 25 .add 20 24,qo 26 (.nN (.t 17)),qf 27 1 26,qt 1 27 25]
def ZM :=[qM 28 0,qO 29 (.nN (.t 28)),qF 30 2 29,qL 31 1 30,qM 32 2,qF 33 2 4,qL 34 1 33,qK 35 .mul 32 34,qk 36 .add 31 35,qo 37 (.nN (.t 28)),qf 38 2 37,qt 1 38 36]
def ID:bP:=Tl [(3,[]),(2,[0,2,4]),(1,[0,2,4]),(0,[0,2,4])] [] [] [0]
def oe:Abs.Fn:=⟨3,[],
 (.seq (.ak [0,2,4] ZJ) (.seq (.ak [0,2,4] ZK) (.seq (.ak [0,2,4] ZL) (.ak [] ZM))))⟩
@[simp] theorem aGN:type_of% (show ZJ=_∧ZK=_∧ZL=_∧ZM=_ from by simp only[zI,ZJ,ZK,ZL,ZM,qo,qO,qM,qf,qF,qL,qx,qk,qK,qt];exact⟨rfl,rfl,rfl,rfl⟩):=⟨rfl,rfl,rfl,rfl⟩
theorem IV:type_of% oe.eq_1:=ah oe.eq_1
def ZN :=[qx 2 0,qo 4 (.eK [] [zI,zI,zI])]
def ZO :=[qm 5 1,qo 6 (.un .neg (.t 5)),qm 7 1,qo 8 (.un .neg (.t 7)),qf 9 1 2,ql 10 1 9,qk 11 .mul 8 10,qm 12 1,qo 13 (.un .neg (.t 12)),qf 14 2 2,ql 15 1 14,qk 16 .mul 13 15,qo 17 (.mJ [zI,zI,zI] [(0,1,(.t 6)),(1,1,(.t 11)),(2,1,(.t 16))]),qs 4 3 4 17]
def IE:bP:=Hx [(1,[4]),(0,[1,2,4])] [] [] [4] [4] [] []
def og:Abs.Fn:=⟨2,[.v 4 true 3],
 (.seq (.ak [1,2,4] ZN) (.seq (.ak [4] ZO) .ret))⟩
@[simp] theorem aGO:type_of% (show ZN=_∧ZO=_ from by simp only[zI,ZN,ZO,qo,qm,qf,ql,qx,qk,qs];exact⟨rfl,rfl⟩):=⟨rfl,rfl⟩
theorem IW:type_of% og.eq_1:=ah og.eq_1
def ZP :=[qx 2 0,qo 4 (.eK [] [zI,zI,zI])]
def ZQ :=[qM 5 1,qF 6 1 2,qL 7 1 6,qM 8 1,qK 9 .mul 7 8,qF 10 0 2,qL 11 1 10,qK 12 .quo 9 11,qF 13 2 2,qL 14 1 13,qM 15 1,qK 16 .mul 14 15,qF 17 0 2,qL 18 1 17,qK 19 .quo 16 18,qo 20 (.mJ [zI,zI,zI] [(0,1,(.t 5)),(1,1,(.t 12)),(2,1,(.t 19))]),qs 4 3 4 20]
def J0:bP:=Hx [(1,[4]),(0,[1,2,4])] [] [] [4] [4] [] []
def pa:Abs.Fn:=⟨2,[.v 4 true 3],
 (.seq (.ak [1,2,4] ZP) (.seq (.ak [4] ZQ) .ret))⟩
@[simp] theorem aGP:type_of% (show ZP=_∧ZQ=_ from by simp only[zI,ZP,ZQ,qo,qM,qF,qL,qx,qK,qs];exact⟨rfl,rfl⟩):=⟨rfl,rfl⟩
theorem Kg:type_of% pa.eq_1:=ah pa.eq_1
def ZR :=[qx 2 0,qo 4 (.eK [] [zI,zI,zI])]
def ZS :=[qA 5 11 2,qM 6 1,qC 7 jZ [5,6],qA 8 11 2,qM 9 1,qC 10 jZ [8,9],qF 11 0 2,qF 12 7 11,qL 13 1 12,qk 14 .mul 10 13,qo 15 (.mJ [zI,zI,zI] [(0,1,(.t 7)),(1,1,(.t 14))]),qs 4 3 4 15]
def IH:bP:=Hx [(1,[4]),(0,[1,2,4])] [] [] [4] [4] [] []
def oj:Abs.Fn:=⟨2,[.v 4 true 3],
 (.seq (.ak [1,2,4] ZR) (.seq (.ak [4] ZS) .ret))⟩
@[simp] theorem aGQ:type_of% (show ZR=_∧ZS=_ from by simp only[zI,ZR,ZS,qo,qM,qF,qL,qA,qx,qk,qs,qC,aj,aw];exact⟨rfl,rfl⟩):=⟨rfl,rfl⟩
theorem I0:type_of% oj.eq_1:=ah oj.eq_1
def ZT :=[qx 2 0,qb 4 false]
def ZU :=[qm 5 1,qe 6 5,qf 7 0 2,qa 8 9 7,qc 9 dq [8],qk 10 .eql 6 9,qm 11 10,qg 11 true (qm 12 1),qg 11 true (qo 13 (.call false (.c (.fn nK [] [])) [(.t 12),(.c (.fn jX [] []))])),qp 14 11 13,qm 4 14]
def F1:bP:=jc [(1,[4]),(0,[1,2])]
def lU:Abs.Fn:=⟨2,[.t 4],
 (.seq (.ak [1,2] ZT) (.seq (.ak [4] ZU) .ret))⟩
@[simp] theorem aGR:type_of% (show ZT=_∧ZU=_ from by simp only[zI,ZT,ZU,qo,qm,qb,qf,qa,qx,qe,qk,qp,qc,qg,aj,aw];exact⟨rfl,rfl⟩):=⟨rfl,rfl⟩
theorem Gh:type_of% lU.eq_1:=ah lU.eq_1
def avg :=[qb 4 false]
def avh :=[qm 5 0,qm 6 1,qc 7 gI [5,6],qn 8 .geq 7 0,qm 4 8]
def vC:bP:=jc [(1,[4]),(0,[0,1])]
def oQ:Abs.Fn:=⟨2,[.t 4],
 (.seq (.ak [0,1] avg) (.seq (.ak [4] avh) .ret))⟩
def avi :=[qx 2 0,qb 3 false]
def avj :=[ql 4 1 1,qa 5 5 2,qo 6 (.call false (.t 4) [(.t 5)]),qu 7 6,qm 3 7]
def A4:bP:=jc [(1,[3]),(0,[1,2])]
def ui:Abs.Fn:=⟨2,[.t 3],
 (.seq (.ak [1,2] avi) (.seq (.ak [3] avj) .ret))⟩
def avk :=[qb 4 false]
def avl :=[qm 5 0,qm 6 1,qc 7 gi [5,6],qn 8 .geq 7 0,qm 4 8]
def uH:bP:=jc [(1,[4]),(0,[0,1])]
def oo:Abs.Fn:=⟨2,[.t 4],
 (.seq (.ak [0,1] avk) (.seq (.ak [4] avl) .ret))⟩
def avm :=[qx 2 0,qb 3 false]
def avn :=[ql 4 1 1,qa 5 2 2,qo 6 (.call false (.t 4) [(.t 5)]),qu 7 6,qm 3 7]
def Ao:bP:=jc [(1,[3]),(0,[1,2])]
def tj:Abs.Fn:=⟨2,[.t 3],
 (.seq (.ak [1,2] avm) (.seq (.ak [3] avn) .ret))⟩
def avo :=[qb 4 false]
def avp :=[qm 5 0,qm 6 1,qc 7 fm [5,6],qn 8 .geq 7 0,qm 4 8]
def tL:bP:=jc [(1,[4]),(0,[0,1])]
def nk:Abs.Fn:=⟨2,[.t 4],
 (.seq (.ak [0,1] avo) (.seq (.ak [4] avp) .ret))⟩
def avq :=[qx 2 0,qb 3 false]
def avr :=[ql 4 1 1,qa 5 4 2,qo 6 (.call false (.t 4) [(.t 5)]),qu 7 6,qm 3 7]
def yF:bP:=jc [(1,[3]),(0,[1,2])]
def rW:Abs.Fn:=⟨2,[.t 3],
 (.seq (.ak [1,2] avq) (.seq (.ak [3] avr) .ret))⟩
def ZV :=[qf 7 1 1,ql 8 1 7,qe 9 8,qi 10 0]
def ZW :=[qk 11 .lss 10 9]
def ZX :=[qj 12 2 8 10,qa 13 2 12,qo 5 (.eK [] [zI,zI]),qs 5 2 5 13]
def ZY :=[ql 14 1 2,qf 15 0 5,qv 16 5 1 15,qo 17 (.mn (.t 14) (.t 16)),qm 6 17]
def ZZ :=[qm 18 0,qw 19 5 2 5,qm 20 6,qo 21 (.call false (.t 18) [(.t 19),(.t 20)]),qu 22 21]
def Z0 :=[ql 23 1 2,qm 24 6,qk 25 .sub 23 24,qt 1 2 25]
def Z1 :=[qn 26 .add 10 1,qm 10 26]
def mm:Abs.cZ :=
 (.seq (.ak [0,2,8,9,10,11] ZW) (.seq (.ite (.t 11) .cU (.exit 0)) (.seq (.bB 1 (.seq (.ak [0,2,5,8,9,10] ZX) (.seq (.ak [0,2,5,6,8,9,10] ZY) (.seq (.seq (.ak [0,2,6,8,9,10,22] ZZ) (.ite (.t 22) .ret .cU)) (.ak [0,2,8,9,10] Z0))))) (.ak [0,2,8,9,10] Z1))))
def FX:bP:=Hx [(6,[0,2,8,9,10]),(5,[0,2,8,9,10]),(4,[0,2,6,8,9,10,22]),(3,[0,2,5,6,8,9,10]),(2,[0,2,5,8,9,10]),(1,[0,2,8,9,10,11]),(0,[0,2,8,9,10])] [(0,[0,2,8,9,10])] [] [2,5] [5] [] []
def lQ:Abs.Fn:=⟨3,[],
 (.seq (.ak [0,2,8,9,10] ZV) (.bB 0 (.loop [0,2,8,9,10] false mm)))⟩
@[simp] theorem aGS:type_of% (show ZV=_∧ZW=_∧ZX=_∧ZY=_∧ZZ=_∧Z0=_∧Z1=_ from by simp only[zI,ZV,ZW,ZX,ZY,ZZ,Z0,Z1,qo,qm,qi,qf,ql,qa,qv,qw,qe,qj,qk,qn,qu,qs,qt];exact⟨rfl,rfl,rfl,rfl,rfl,rfl,rfl⟩):=⟨rfl,rfl,rfl,rfl,rfl,rfl,rfl⟩
theorem uQ:type_of% mm.eq_1:=ah mm.eq_1
theorem Gd:type_of% lQ.eq_1:=ah lQ.eq_1
def avs :=[qi 2 0]
def avt :=[qi 3 1]
def avu :=[qm 6 0,qo 7 (.me (.s2b) [(.t 6)]),qe 8 7,qi 9 0]
def avv :=[qk 10 .lss 9 8]
def avw :=[qj 11 1 7 9,ql 12 1 11,qm 5 12]
def avx :=[qm 13 3,qo 14 (.bin .mul (.c (.int .i64 31)) (.t 13)),qm 15 5,qo 16 (.Tx .i64 (.t 15)),qk 17 .add 14 16,qn 18 .rem 17 65521,qm 3 18]
def avy :=[qn 19 .add 9 1,qm 9 19]
def Kn:Abs.cZ :=
 (.seq (.ak [3,7,8,9,10] avv) (.seq (.ite (.t 10) .cU (.exit 0)) (.seq (.bB 1 (.seq (.ak [3,5,7,8,9] avw) (.ak [3,7,8,9] avx))) (.ak [3,7,8,9] avy))))
def avz :=[qm 20 3,qm 2 20]
def Og:bP:=K1 [(7,[2]),(6,[3,7,8,9]),(5,[3,7,8,9]),(4,[3,5,7,8,9]),(3,[3,7,8,9,10]),(2,[3,7,8,9]),(1,[0,3]),(0,[0])] [(0,[3,7,8,9])]
def GB:Abs.Fn:=⟨1,[.t 2],
 (.seq (.ak [0] avs) (.seq (.ak [0,3] avt) (.seq (.seq (.ak [3,7,8,9] avu) (.bB 0 (.loop [3,7,8,9] false Kn))) (.seq (.ak [2] avz) .ret))))⟩
def Z2 :=[qo 0 (.mv (.c .undef))]
def Z3 :=[qo 1 (.mp (.make) []),qo 2 (.mJ [(.bool false),zI,zI,.jj] [(0,1,(.c (.bool false))),(1,1,(.c (.int .i64 4))),(2,1,(.c zI)),(3,1,(.c (.fn fw [] [])))]),⟨none,none,false,.mp (.put none) [(.t 1),(.c (.str [102,105,101,108,100])),(.t 2)]⟩,qo 3 (.mJ [(.bool false),zI,zI,.jj] [(0,1,(.c (.bool false))),(1,1,(.c zI)),(2,1,(.c (.int .i64 5))),(3,1,(.c (.fn fB [] [])))]),⟨none,none,false,.mp (.put none) [(.t 1),(.c (.str [116,97,98,108,101])),(.t 3)]⟩,qo 4 (.mJ [(.bool false),zI,zI,.jj] [(0,1,(.c (.bool false))),(1,1,(.c (.int .i64 3))),(2,1,(.c zI)),(3,1,(.c (.fn gN [] [])))]),⟨none,none,false,.mp (.put none) [(.t 1),(.c (.str [98,101,100])),(.t 4)]⟩,qo 5 (.mJ [(.bool false),zI,zI,.jj] [(0,1,(.c (.bool false))),(1,1,(.c (.int .i64 3))),(2,1,(.c zI)),(3,1,(.c (.fn gg [] [])))]),⟨none,none,false,.mp (.put none) [(.t 1),(.c (.str [119,101,108,108])),(.t 5)]⟩,qo 6 (.mJ [(.bool false),zI,zI,.jj] [(0,1,(.c (.bool true))),(1,1,(.c zI)),(2,1,(.c (.int .i64 1))),(3,1,(.c (.fn fy [] [])))]),⟨none,none,false,.mp (.put none) [(.t 1),(.c (.str [109,111,100,101,108])),(.t 6)]⟩,qo 7 (.mJ [(.bool false),zI,zI,.jj] [(0,1,(.c (.bool true))),(1,1,(.c (.int .i64 3))),(2,1,(.c (.int .i64 2))),(3,1,(.c (.fn gO [] [])))]),⟨none,none,false,.mp (.put none) [(.t 1),(.c (.str [108,111,103])),(.t 7)]⟩,qo 8 (.mJ [(.bool false),zI,zI,.jj] [(0,1,(.c (.bool false))),(1,1,(.c (.int .i64 10))),(2,1,(.c zI)),(3,1,(.c (.fn fZ [] [])))]),⟨none,none,false,.mp (.put none) [(.t 1),(.c (.str [114,117,108,101])),(.t 8)]⟩,qo 9 (.mJ [(.bool false),zI,zI,.jj] [(0,1,(.c (.bool false))),(1,1,(.c (.int .i64 3))),(2,1,(.c zI)),(3,1,(.c (.fn fW [] [])))]),⟨none,none,false,.mp (.put none) [(.t 1),(.c (.str [107,101,101,112])),(.t 9)]⟩,qo 10 (.mJ [(.bool false),zI,zI,.jj] [(0,1,(.c (.bool false))),(1,1,(.c zI)),(2,1,(.c (.int .i64 4))),(3,1,(.c (.fn fA [] [])))]),⟨none,none,false,.mp (.put none) [(.t 1),(.c (.str [113,117,97,107,101])),(.t 10)]⟩,qo 11 (.mJ [(.bool false),zI,zI,.jj] [(0,1,(.c (.bool false))),(1,1,(.c zI)),(2,1,(.c (.int .i64 1))),(3,1,(.c (.fn gb [] [])))]),⟨none,none,false,.mp (.put none) [(.t 1),(.c (.str [116,105,99,107])),(.t 11)]⟩,qo 12 (.mJ [(.bool false),zI,zI,.jj] [(0,1,(.c (.bool false))),(1,1,(.c (.int .i64 4))),(2,1,(.c zI)),(3,1,(.c (.fn fY [] [])))]),⟨none,none,false,.mp (.put none) [(.t 1),(.c (.str [114,101,97,100])),(.t 12)]⟩,qo 13 (.mJ [(.bool false),zI,zI,.jj] [(0,1,(.c (.bool false))),(1,1,(.c (.int .i64 1))),(2,1,(.c (.int .i64 2))),(3,1,(.c (.fn gf [] [])))]),⟨none,none,false,.mp (.put none) [(.t 1),(.c (.str [117,110,105,116])),(.t 13)]⟩,qo 14 (.mJ [(.bool false),zI,zI,.jj] [(0,1,(.c (.bool false))),(1,1,(.c (.int .i64 4))),(2,1,(.c zI)),(3,1,(.c (.fn ga [] [])))]),⟨none,none,false,.mp (.put none) [(.t 1),(.c (.str [115,101,108,108])),(.t 14)]⟩,qm 15 1,qm 0 15]
def Ly:bP:=jc [(1,[0]),(0,[])]
def qq:Abs.Fn:=⟨0,[.t 0],
 (.seq (.ak [] Z2) (.seq (.ak [0] Z3) .ret))⟩
@[simp] theorem aGT:type_of% (show Z2=_∧Z3=_ from by simp only[zI,Z2,Z3,qo,qm];exact⟨rfl,rfl⟩):=⟨rfl,rfl⟩
theorem LL:type_of% qq.eq_1:=ah qq.eq_1
def Z4 :=[qm 4 0,qu 5 4]
def Z5 :=[qm 6 1,qo 7 (.mJ [zI] [(0,1,(.t 6))]),qo 8 (.mki 311 (.t 7))]
def Z6:List Abs.Op:=[]
def Oe:bP:=⟨[(1,[]),(0,[1,5])],[],[],[],[],[],[],[],[],[],[(1,some 3)]⟩
def tg:Abs.Fn:=⟨2,[],
 (.seq (.ak [1,5] Z4) (.ite (.t 5) (.jk [] Z5 ⟨none,none,false,.UT (.t 8)⟩ Z6) .cU))⟩
@[simp] theorem aGU:type_of% (show Z4=_∧Z5=_∧Z6=_ from by simp only[zI,Z4,Z5,Z6,qo,qm,qu];exact⟨rfl,rfl,rfl⟩):=⟨rfl,rfl,rfl⟩
theorem Gy:type_of% tg.eq_1:=ah tg.eq_1
def Z7 :=[qi 2 0]
def Z8 :=[qm 6 0,qc 7 iV [6],qm 5 7,qz 8 5 0,qz 9 5 1,qm 3 8,qm 4 9]
def Z9 :=[qm 10 4,qo 11 (.isi false (.t 10)),qm 12 11,qg 12 true (qm 13 3),qg 12 true (qc 14 eD [13]),qg 12 true (qm 15 0),qg 12 true (qo 16 (.BA (.seq false) [(.t 14),(.t 15)])),qp 17 12 16,qm 18 17,qg 18 true (qm 19 3),qg 18 true (qo 20 (.call false (.c (.fn cG [] [])) [(.t 19),(.c (.int .i64 (-999999999))),(.c (.int .i64 999999999))])),qp 21 18 20]
def aaa:List Abs.Op:=[]
def aab :=[qm 23 3,qm 2 23]
def JT:bP:=⟨[(3,[2]),(2,[3]),(1,[0,3,4]),(0,[0])],[],[],[],[],[],[],[],[],[],[(2,some 12)]⟩
def o4:Abs.Fn:=⟨1,[.t 2],
 (.seq (.ak [0] Z7) (.seq (.ak [0,3,4] Z8) (.seq (.jk [3] Z9 ⟨some 22,none,false,.call false (.c (.fn bd [] [])) [(.t 21),(.c (.int .i64 4))]⟩ aaa) (.seq (.ak [2] aab) .ret))))⟩
@[simp] theorem aGV:type_of% (show Z7=_∧Z8=_∧Z9=_∧aaa=_∧aab=_ from by simp only[zI,Z7,Z8,Z9,aaa,aab,qo,qm,qi,qp,qz,qc,qg,aj,aw];exact⟨rfl,rfl,rfl,rfl,rfl⟩):=⟨rfl,rfl,rfl,rfl,rfl⟩
theorem Bg:type_of% o4.eq_1:=ah o4.eq_1
def avM :=[qi 4 0]
def avN :=[qm 6 0,qe 7 6,qi 8 0]
def avO :=[qk 9 .lss 8 7]
def avP :=[qm 10 8,qm 5 10]
def avQ :=[qm 11 1,qm 12 0,qm 13 5,qj 14 1 12 13,ql 15 1 14,qo 16 (.call false (.t 11) [(.t 15)])]
def avR :=[qm 17 5,qm 4 17]
def avS :=[qn 18 .add 8 1,qm 8 18]
def zx:Abs.cZ :=
 (.seq (.ak [0,1,7,8,9] avO) (.seq (.ite (.t 9) .cU (.exit 0)) (.seq (.bB 1 (.seq (.ak [0,1,5,7,8] avP) (.seq (.ak [0,1,5,7,8,16] avQ) (.ite (.t 16) (.seq (.ak [4] avR) .ret) .cU)))) (.ak [0,1,7,8] avS))))
def avT :=[qi 4 (-1)]
def B7:bP:=K1 [(7,[4]),(6,[0,1,7,8]),(5,[4]),(4,[0,1,5,7,8,16]),(3,[0,1,5,7,8]),(2,[0,1,7,8,9]),(1,[0,1,7,8]),(0,[0,1])] [(0,[0,1,7,8])]
def pQ:Abs.Fn:=⟨2,[.t 4],
 (.seq (.ak [0,1] avM) (.seq (.seq (.ak [0,1,7,8] avN) (.bB 0 (.loop [0,1,7,8] false zx))) (.seq (.ak [4] avT) .ret)))⟩
def avU :=[qb 4 false]
def avV :=[qm 5 0,qm 6 1,qc 7 gH [5,6],qn 8 .geq 7 0,qm 4 8]
def vB:bP:=jc [(1,[4]),(0,[0,1])]
def oP:Abs.Fn:=⟨2,[.t 4],
 (.seq (.ak [0,1] avU) (.seq (.ak [4] avV) .ret))⟩
def avW :=[qx 2 0,qb 3 false]
def avX :=[ql 4 1 1,qa 5 3 2,qo 6 (.call false (.t 4) [(.t 5)]),qu 7 6,qm 3 7]
def B5:bP:=jc [(1,[3]),(0,[1,2])]
def u7:Abs.Fn:=⟨2,[.t 3],
 (.seq (.ak [1,2] avW) (.seq (.ak [3] avX) .ret))⟩
def aac :=[qi 4 0]
def aad :=[qo 10 (.mp (.make) []),qm 5 10]
def aae :=[qm 11 0,qe 12 11,qi 13 0]
def aaf :=[qk 14 .lss 13 12]
def aag :=[qj 15 2 11 13,qa 16 2 15,qo 7 (.eK [] [(.str []),.aH]),qs 7 2 7 16]
def aah :=[qm 18 1,qw 19 7 2 7,qo 20 (.call false (.t 18) [(.t 19)]),qm 17 20,qz 21 17 0,qz 22 17 1,qm 8 21,qm 9 22]
def aai :=[qm 23 9,qn 24 .neq 23 0]
def aaj :=[qm 25 9,qm 4 25]
def aak :=[qm 26 5,qm 27 8,qo 28 (.mp (.get none (.bool false) false) [(.t 26),(.t 27)])]
def aal :=[qi 4 6]
def Q2 :=[qm 29 5,qm 30 8,⟨none,none,false,.mp (.put none) [(.t 29),(.t 30),(.c (.bool true))]⟩]
def Q3 :=[qn 31 .add 13 1,qm 13 31]
def gG:Abs.cZ :=
 (.seq (.ak [1,5,11,12,13,14] aaf) (.seq (.ite (.t 14) .cU (.exit 0)) (.seq (.bB 1 (.seq (.ak [1,5,7,11,12,13] aag) (.seq (.ak [1,5,8,9,11,12,13] aah) (.seq (.seq (.ak [1,5,8,9,11,12,13,24] aai) (.ite (.t 24) (.seq (.ak [4] aaj) .ret) .cU)) (.seq (.seq (.ak [1,5,8,11,12,13,28] aak) (.ite (.t 28) (.seq (.ak [4] aal) .ret) .cU)) (.ak [1,5,11,12,13] Q2)))))) (.ak [1,5,11,12,13] Q3))))
def Q4 :=[qi 4 0]
def An:bP:=Hx [(12,[4]),(11,[1,5,11,12,13]),(10,[1,5,11,12,13]),(9,[4]),(8,[1,5,8,11,12,13,28]),(7,[4]),(6,[1,5,8,9,11,12,13,24]),(5,[1,5,8,9,11,12,13]),(4,[1,5,7,11,12,13]),(3,[1,5,11,12,13,14]),(2,[1,5,11,12,13]),(1,[0,1,5]),(0,[0,1])] [(0,[1,5,11,12,13])] [] [7] [7] [] []
def gA:Abs.Fn:=⟨2,[.t 4],
 (.seq (.ak [0,1] aac) (.seq (.ak [0,1,5] aad) (.seq (.seq (.ak [1,5,11,12,13] aae) (.bB 0 (.loop [1,5,11,12,13] false gG))) (.seq (.ak [4] Q4) .ret))))⟩
@[simp] theorem aGW:type_of% (show aac=_∧aad=_∧aae=_∧aaf=_∧aag=_∧aah=_∧aai=_∧aaj=_∧aak=_∧aal=_∧Q2=_∧Q3=_∧Q4=_ from by simp only[zI,aac,aad,aae,aaf,aag,aah,aai,aaj,aak,aal,Q2,Q3,Q4,qo,qm,qi,qa,qw,qe,qj,qk,qn,qs,qz];exact⟨rfl,rfl,rfl,rfl,rfl,rfl,rfl,rfl,rfl,rfl,rfl,rfl,rfl⟩):=⟨rfl,rfl,rfl,rfl,rfl,rfl,rfl,rfl,rfl,rfl,rfl,rfl,rfl⟩
theorem qd:type_of% gG.eq_1:=ah gG.eq_1
theorem AE:type_of% gA.eq_1:=ah gA.eq_1
def aam :=[qx 2 0,qo 3 (.mv (.c (.str []))),qi 4 0]
def aan :=[qF 5 0 2,qL 6 1 5,qA 7 4 1,qA 8 2 2,qC 9 je [7,8],qm 3 6,qm 4 9]
def BX:bP:=jc [(1,[3,4]),(0,[1,2])]
def iD:Abs.Fn:=⟨2,[.t 3,.t 4],
 (.seq (.ak [1,2] aam) (.seq (.ak [3,4] aan) .ret))⟩
@[simp] theorem aGX:type_of% (show aam=_∧aan=_ from by simp only[zI,aam,aan,qo,qm,qi,qF,qL,qA,qx,qC,aj,aw];exact⟨rfl,rfl⟩):=⟨rfl,rfl⟩
theorem Cl:type_of% iD.eq_1:=ah iD.eq_1
def avY :=[qi 4 0]
def avZ :=[qm 6 0,qe 7 6,qi 8 0]
def av0 :=[qk 9 .lss 8 7]
def av1 :=[qm 10 8,qm 5 10]
def av2 :=[qm 11 1,qm 12 0,qm 13 5,qj 14 2 12 13,qa 15 2 14,qo 16 (.call false (.t 11) [(.t 15)])]
def av3 :=[qm 17 5,qm 4 17]
def av4 :=[qn 18 .add 8 1,qm 8 18]
def uE:Abs.cZ :=
 (.seq (.ak [0,1,7,8,9] av0) (.seq (.ite (.t 9) .cU (.exit 0)) (.seq (.bB 1 (.seq (.ak [0,1,5,7,8] av1) (.seq (.ak [0,1,5,7,8,16] av2) (.ite (.t 16) (.seq (.ak [4] av3) .ret) .cU)))) (.ak [0,1,7,8] av4))))
def av5 :=[qi 4 (-1)]
def vY:bP:=K1 [(7,[4]),(6,[0,1,7,8]),(5,[4]),(4,[0,1,5,7,8,16]),(3,[0,1,5,7,8]),(2,[0,1,7,8,9]),(1,[0,1,7,8]),(0,[0,1])] [(0,[0,1,7,8])]
def pc:Abs.Fn:=⟨2,[.t 4],
 (.seq (.ak [0,1] avY) (.seq (.seq (.ak [0,1,7,8] avZ) (.bB 0 (.loop [0,1,7,8] false uE))) (.seq (.ak [4] av5) .ret)))⟩
def av6 :=[qb 3 false]
def av7 :=[ql 4 1 1,qm 5 0,qo 6 (.call false (.t 4) [(.t 5)]),qu 7 6,qm 3 7]
def J1:bP:=jc [(1,[3]),(0,[0,1])]
def Bp:Abs.Fn:=⟨2,[.t 3],
 (.seq (.ak [0,1] av6) (.seq (.ak [3] av7) .ret))⟩
def av8 :=[qb 3 false]
def av9 :=[ql 4 1 1,qm 5 0,qo 6 (.call false (.t 4) [(.t 5)]),qu 7 6,qm 3 7]
def Hv:bP:=jc [(1,[3]),(0,[0,1])]
def tR:Abs.Fn:=⟨2,[.t 3],
 (.seq (.ak [0,1] av8) (.seq (.ak [3] av9) .ret))⟩
def aao :=[qx 2 0,qo 4 (.rk 1)]
def aap :=[qm 6 1,qe 7 6,qi 8 0]
def aaq :=[qk 9 .lss 8 7]
def aar :=[qm 10 8,qm 5 10]
def aas :=[qm 11 4,qa 12 11 2,qm 13 1,qm 14 5,qc 15 fO [12,13,14],qo 16 (.wc 1 1 [zI] [(0,1,(.t 15))]),qy 17 1 8 11 16,qm 4 17]
def aat :=[qn 18 .add 8 1,qm 8 18]
def iL:Abs.cZ :=
 (.seq (.ak [1,2,4,7,8,9] aaq) (.seq (.ite (.t 9) .cU (.exit 0)) (.seq (.bB 1 (.seq (.ak [1,2,4,5,7,8] aar) (.ak [1,2,4,7,8] aas))) (.ak [1,2,4,7,8] aat))))
def aau :=[qm 19 4,qm 4 19]
def A3:bP:=Tl [(6,[4]),(5,[1,2,4,7,8]),(4,[1,2,4,7,8]),(3,[1,2,4,5,7,8]),(2,[1,2,4,7,8,9]),(1,[1,2,4,7,8]),(0,[1,2,4])] [(0,[1,2,4,7,8])] [] [4]
def ia:Abs.Fn:=⟨2,[.t 4],
 (.seq (.ak [1,2,4] aao) (.seq (.seq (.ak [1,2,4,7,8] aap) (.bB 0 (.loop [1,2,4,7,8] false iL))) (.seq (.ak [4] aau) .ret)))⟩
@[simp] theorem aGY:type_of% (show aao=_∧aap=_∧aaq=_∧aar=_∧aas=_∧aat=_∧aau=_ from by simp only[zI,aao,aap,aaq,aar,aas,aat,aau,qo,qm,qi,qa,qx,qe,qk,qn,qc,qy,aj,aw];exact⟨rfl,rfl,rfl,rfl,rfl,rfl,rfl⟩):=⟨rfl,rfl,rfl,rfl,rfl,rfl,rfl⟩
theorem rQ:type_of% iL.eq_1:=ah iL.eq_1
theorem Bl:type_of% ia.eq_1:=ah ia.eq_1
def aav :=[qx 1 0,qo 2 (.mv (.c .jj))]
def aaw :=[qo 3 (.zR jU [] [(.t 1)]),qm 2 3]
def JX:bP:=jc [(1,[2]),(0,[1])]
def o7:Abs.Fn:=⟨1,[.t 2],
 (.seq (.ak [1] aav) (.seq (.ak [2] aaw) .ret))⟩
@[simp] theorem aGZ:type_of% (show aav=_∧aaw=_ from by simp only[zI,aav,aaw,qo,qm,qx];exact⟨rfl,rfl⟩):=⟨rfl,rfl⟩
theorem Kd:type_of% o7.eq_1:=ah o7.eq_1
def aax :=[qx 2 0,qi 4 0]
def aay :=[qa 5 11 2,qo 6 (.call false (.c (.fn eo [] [])) [(.t 5),(.c (.int .i64 1))]),qm 7 1,qj 8 1 6 7,ql 9 1 8,qm 4 9]
def Hr:bP:=jc [(1,[4]),(0,[1,2])]
def nh:Abs.Fn:=⟨2,[.t 4],
 (.seq (.ak [1,2] aax) (.seq (.ak [4] aay) .ret))⟩
@[simp] theorem aG0:type_of% (show aax=_∧aay=_ from by simp only[zI,aax,aay,qo,qm,qi,ql,qa,qx,qj];exact⟨rfl,rfl⟩):=⟨rfl,rfl⟩
theorem HR:type_of% nh.eq_1:=ah nh.eq_1
def aaz :=[qx 2 0,qi 4 0]
def aaA :=[qa 5 11 2,qo 6 (.call false (.c (.fn eo [] [])) [(.t 5),(.c (.int .i64 3))]),qm 7 1,qj 8 1 6 7,ql 9 1 8,qm 4 9]
def Hn:bP:=jc [(1,[4]),(0,[1,2])]
def nc:Abs.Fn:=⟨2,[.t 4],
 (.seq (.ak [1,2] aaz) (.seq (.ak [4] aaA) .ret))⟩
@[simp] theorem aG1:type_of% (show aaz=_∧aaA=_ from by simp only[zI,aaz,aaA,qo,qm,qi,ql,qa,qx,qj];exact⟨rfl,rfl⟩):=⟨rfl,rfl⟩
theorem HN:type_of% nc.eq_1:=ah nc.eq_1
def awa :=[qx 3 1,qb 4 false]
def awb :=[qm 5 0,qo 6 (.zR lk [] [(.t 3)]),qc 7 fa [5,6],qu 8 7,qm 4 8]
def Dk:bP:=jc [(1,[4]),(0,[0,3])]
def vQ:Abs.Fn:=⟨2,[.t 4],
 (.seq (.ak [0,3] awa) (.seq (.ak [4] awb) .ret))⟩
def aaB :=[qx 1 0,qb 2 false]
def aaC :=[qf 3 0 1,ql 4 1 3,qo 5 (.call false (.c (.fn ct [] [])) [(.t 4),(.c (.int .i64 1)),(.c (.int .i64 1000000))]),qm 6 5,qg 6 true (qf 7 1 1),qg 6 true (ql 8 1 7),qg 6 true (qo 9 (.call false (.c (.fn ct [] [])) [(.t 8),(.c zI),(.c (.int .i64 10000000000))])),qp 10 6 9,qm 11 10,qg 11 true (qf 12 2 1),qg 11 true (ql 13 1 12),qg 11 true (qo 14 (.call false (.c (.fn ct [] [])) [(.t 13),(.c zI),(.c (.int .i64 1000000000000))])),qp 15 11 14,qm 2 15]
def Hl:bP:=jc [(1,[2]),(0,[1])]
def mZ:Abs.Fn:=⟨1,[.t 2],
 (.seq (.ak [1] aaB) (.seq (.ak [2] aaC) .ret))⟩
@[simp] theorem aG2:type_of% (show aaB=_∧aaC=_ from by simp only[zI,aaB,aaC,qo,qm,qb,qf,ql,qx,qp,qg];exact⟨rfl,rfl⟩):=⟨rfl,rfl⟩
theorem HL:type_of% mZ.eq_1:=ah mZ.eq_1
def awc :=[qi 4 0]
def awd :=[qm 6 0,qe 7 6,qi 8 0]
def awe :=[qk 9 .lss 8 7]
def awf :=[qm 10 8,qm 5 10]
def awg :=[qm 11 1,qm 12 0,qm 13 5,qj 14 5 12 13,qa 15 5 14,qo 16 (.call false (.t 11) [(.t 15)])]
def awh :=[qm 17 5,qm 4 17]
def awi :=[qn 18 .add 8 1,qm 8 18]
def vG:Abs.cZ :=
 (.seq (.ak [0,1,7,8,9] awe) (.seq (.ite (.t 9) .cU (.exit 0)) (.seq (.bB 1 (.seq (.ak [0,1,5,7,8] awf) (.seq (.ak [0,1,5,7,8,16] awg) (.ite (.t 16) (.seq (.ak [4] awh) .ret) .cU)))) (.ak [0,1,7,8] awi))))
def awj :=[qi 4 (-1)]
def xw:bP:=K1 [(7,[4]),(6,[0,1,7,8]),(5,[4]),(4,[0,1,5,7,8,16]),(3,[0,1,5,7,8]),(2,[0,1,7,8,9]),(1,[0,1,7,8]),(0,[0,1])] [(0,[0,1,7,8])]
def qT:Abs.Fn:=⟨2,[.t 4],
 (.seq (.ak [0,1] awc) (.seq (.seq (.ak [0,1,7,8] awd) (.bB 0 (.loop [0,1,7,8] false vG))) (.seq (.ak [4] awj) .ret)))⟩
def awk :=[qi 4 0]
def awl :=[qm 6 0,qe 7 6,qi 8 0]
def awm :=[qk 9 .lss 8 7]
def awn :=[qm 10 8,qm 5 10]
def awo :=[qm 11 1,qm 12 0,qm 13 5,qj 14 2 12 13,qa 15 2 14,qo 16 (.call false (.t 11) [(.t 15)])]
def awp :=[qm 17 5,qm 4 17]
def awq :=[qn 18 .add 8 1,qm 8 18]
def vd:Abs.cZ :=
 (.seq (.ak [0,1,7,8,9] awm) (.seq (.ite (.t 9) .cU (.exit 0)) (.seq (.bB 1 (.seq (.ak [0,1,5,7,8] awn) (.seq (.ak [0,1,5,7,8,16] awo) (.ite (.t 16) (.seq (.ak [4] awp) .ret) .cU)))) (.ak [0,1,7,8] awq))))
def awr :=[qi 4 (-1)]
def wL:bP:=K1 [(7,[4]),(6,[0,1,7,8]),(5,[4]),(4,[0,1,5,7,8,16]),(3,[0,1,5,7,8]),(2,[0,1,7,8,9]),(1,[0,1,7,8]),(0,[0,1])] [(0,[0,1,7,8])]
def pF:Abs.Fn:=⟨2,[.t 4],
 (.seq (.ak [0,1] awk) (.seq (.seq (.ak [0,1,7,8] awl) (.bB 0 (.loop [0,1,7,8] false vd))) (.seq (.ak [4] awr) .ret)))⟩
def aws :=[qi 4 0]
def awt :=[qm 6 0,qe 7 6,qi 8 0]
def awu :=[qk 9 .lss 8 7]
def awv :=[qm 10 8,qm 5 10]
def aww :=[qm 11 1,qm 12 0,qm 13 5,qj 14 4 12 13,qa 15 4 14,qo 16 (.call false (.t 11) [(.t 15)])]
def awx :=[qm 17 5,qm 4 17]
def awy :=[qn 18 .add 8 1,qm 8 18]
def tP:Abs.cZ :=
 (.seq (.ak [0,1,7,8,9] awu) (.seq (.ite (.t 9) .cU (.exit 0)) (.seq (.bB 1 (.seq (.ak [0,1,5,7,8] awv) (.seq (.ak [0,1,5,7,8,16] aww) (.ite (.t 16) (.seq (.ak [4] awx) .ret) .cU)))) (.ak [0,1,7,8] awy))))
def awz :=[qi 4 (-1)]
def vD:bP:=K1 [(7,[4]),(6,[0,1,7,8]),(5,[4]),(4,[0,1,5,7,8,16]),(3,[0,1,5,7,8]),(2,[0,1,7,8,9]),(1,[0,1,7,8]),(0,[0,1])] [(0,[0,1,7,8])]
def oR:Abs.Fn:=⟨2,[.t 4],
 (.seq (.ak [0,1] aws) (.seq (.seq (.ak [0,1,7,8] awt) (.bB 0 (.loop [0,1,7,8] false tP))) (.seq (.ak [4] awz) .ret)))⟩
def aaD :=[qm 7 0,qo 8 (.nN (.t 7)),qf 9 0 8,qf 10 0 9,qf 11 0 10,qa 12 4 11,qo 13 (.mJ [zI,zI,zI,zI] []),qo 14 (.eqv true [some .i64,some .i64,some .i64,some .i64] false (.t 12) (.t 13))]
def aaE:List Abs.Op:=[]
def aaF :=[qM 16 2,qO 17 (.fJ 1 (.t 16) (.c zI)),qL 18 1 17,qM 19 2,qO 20 (.fJ 1 (.t 19) (.c (.int .i64 1))),qL 21 1 20,qM 22 2,qO 23 (.fJ 1 (.t 22) (.c (.int .i64 2))),qL 24 1 23,qM 25 2,qO 26 (.fJ 1 (.t 25) (.c (.int .i64 3))),qL 27 1 26,qO 28 (.mJ [zI,zI,zI,zI] [(0,1,(.t 18)),(1,1,(.t 21)),(2,1,(.t 24)),(3,1,(.t 27))]),qO 6 (.eK [] [zI,zI,zI,zI]),qs 6 4 6 28]
def aaG :=[qw 29 6 4 6,qc 30 jS [29],qn 31 .eql 30 0,qm 32 31,qg 32 true (qf 33 3 6),qg 32 true (qv 34 6 1 33),qg 32 true (qn 35 .geq 34 4),qp 36 32 35]
def aaH:List Abs.Op:=[]
def aaI :=[qm 38 0,qw 39 6 4 6,qo 40 (.nN (.t 38)),qf 41 0 40,qf 42 0 41,qf 43 0 42,qt 4 43 39]
def DX:bP:=⟨[(3,[]),(2,[0,6]),(1,[0,6]),(0,[0,2])],[],[],[0,6],[6],[],[],[],[],[],[(0,some 8),(2,some 8)]⟩
def kq:Abs.Fn:=⟨3,[],
 (.seq (.jk [0,2] aaD ⟨some 15,none,false,.call false (.c (.fn bd [] [])) [(.t 14),(.c (.int .i64 8))]⟩ aaE) (.seq (.ak [0,6] aaF) (.seq (.jk [0,6] aaG ⟨some 37,none,false,.call false (.c (.fn bd [] [])) [(.t 36),(.c (.int .i64 1))]⟩ aaH) (.ak [] aaI))))⟩
@[simp] theorem aG3:type_of% (show aaD=_∧aaE=_∧aaF=_∧aaG=_∧aaH=_∧aaI=_ from by simp only[zI,aaD,aaE,aaF,aaG,aaH,aaI,qo,qO,qm,qM,qf,qL,qa,qv,qw,qn,qp,qs,qt,qc,qg,aj,aw];exact⟨rfl,rfl,rfl,rfl,rfl,rfl⟩):=⟨rfl,rfl,rfl,rfl,rfl,rfl⟩
theorem wP:type_of% kq.eq_1:=ah kq.eq_1
def aaJ :=[qm 7 0,qo 8 (.nN (.t 7)),qf 9 0 8,qf 10 0 9,qf 11 4 10,ql 12 1 11,qe 13 12,qn 14 .eql 13 0]
def aaK:List Abs.Op:=[]
def aaL :=[qo 6 (.rk 5)]
def aaM :=[qm 16 2,qe 17 16,qn 18 .gtr 17 0]
def aaN :=[qM 21 6,qM 22 2,qO 23 (.fJ 1 (.t 22) (.c zI)),qL 24 1 23,qM 25 2,qO 26 (.fJ 1 (.t 25) (.c (.int .i64 1))),qL 27 1 26,qM 28 2,qO 29 (.fJ 1 (.t 28) (.c (.int .i64 2))),qL 30 1 29,qM 31 2,qO 32 (.fJ 1 (.t 31) (.c (.int .i64 3))),qL 33 1 32,qM 34 2,qO 35 (.fJ 1 (.t 34) (.c (.int .i64 4))),qL 36 1 35,qO 37 (.mJ [zI,zI,zI,zI,zI] [(0,1,(.t 24)),(1,1,(.t 27)),(2,1,(.t 30)),(3,1,(.t 33)),(4,1,(.t 36))]),qO 38 (.wc 1 5 [zI,zI,zI,zI,zI] [(0,5,(.t 37))]),qy 39 5 40 21 38,qm 6 39]
def aaO :=[qm 19 2,qo 20 (.UB 1 (.t 19) (some (.c (.int .i64 5))) none none),qm 2 20]
def kZ:Abs.cZ :=
 (.seq (.seq (.ak [0,2,6,18] aaM) (.ite (.t 18) .cU (.exit 0))) (.seq (.bB 1 (.ak [0,2,6] aaN)) (.ak [0,2,6] aaO)))
def aaP :=[qm 40 6,qc 41 j3 [40]]
def aaQ:List Abs.Op:=[]
def aaR :=[qm 43 0,qm 44 6,qo 45 (.nN (.t 43)),qf 46 0 45,qf 47 0 46,qf 48 4 47,qt 1 48 44]
def D1:bP:=⟨[(6,[]),(5,[0,6]),(3,[0,2,6]),(4,[0,2,6]),(2,[0,2,6,18]),(1,[0,2,6]),(0,[0,2])],[(0,[0,2,6])],[],[0,6],[],[],[],[(5,[6])],[],[],[(0,some 8),(5,some 2)]⟩
def kA:Abs.Fn:=⟨3,[],
 (.seq (.jk [0,2] aaJ ⟨some 15,none,false,.call false (.c (.fn bd [] [])) [(.t 14),(.c (.int .i64 8))]⟩ aaK) (.seq (.ak [0,2,6] aaL) (.seq (.bB 0 (.loop [0,2,6] false kZ)) (.seq (.seq (.cI [6]) (.jk [0,6] aaP ⟨some 42,none,false,.call false (.c (.fn bW [] [])) [(.t 41)]⟩ aaQ)) (.ak [] aaR)))))⟩
@[simp] theorem aG4:type_of% (show aaJ=_∧aaK=_∧aaL=_∧aaM=_∧aaN=_∧aaO=_∧aaP=_∧aaQ=_∧aaR=_ from by simp only[zI,aaJ,aaK,aaL,aaM,aaN,aaO,aaP,aaQ,aaR,qo,qO,qm,qM,qf,ql,qL,qe,qn,qt,qc,qy,aj,aw];exact⟨rfl,rfl,rfl,rfl,rfl,rfl,rfl,rfl,rfl⟩):=⟨rfl,rfl,rfl,rfl,rfl,rfl,rfl,rfl,rfl⟩
theorem ud:type_of% kZ.eq_1:=ah kZ.eq_1
theorem wS:type_of% kA.eq_1:=ah kA.eq_1
def aaS :=[qm 7 0,qo 8 (.nN (.t 7)),qf 9 0 8,qf 10 0 9,qf 11 0 10,qa 12 4 11,qo 13 (.mJ [zI,zI,zI,zI] []),qo 14 (.eqv true [some .i64,some .i64,some .i64,some .i64] true (.t 12) (.t 13)),qm 15 14,qg 15 true (qm 16 0),qg 15 true (qo 17 (.nN (.t 16))),qg 15 true (qf 18 0 17),qg 15 true (qf 19 0 18),qg 15 true (qf 20 4 19),qg 15 true (ql 21 1 20),qg 15 true (qe 22 21),qg 15 true (qn 23 .gtr 22 0),qp 24 15 23,qm 25 24,qg 25 true (qm 26 0),qg 25 true (qo 27 (.nN (.t 26))),qg 25 true (qf 28 18 27),qg 25 true (ql 29 1 28),qg 25 true (qu 30 29),qp 31 25 30]
def aaT:List Abs.Op:=[]
def aaU :=[qm 33 0,qo 34 (.nN (.t 33)),qf 35 0 34,qf 36 0 35,qa 37 9 36,qo 6 (.eK [] [zI,zI,zI,zI,.aH,zI,zI,zI,.aH]),qs 6 9 6 37]
def aaV :=[qM 38 2,qO 39 (.fJ 1 (.t 38) (.c zI)),qL 40 1 39,qM 41 2,qO 42 (.fJ 1 (.t 41) (.c (.int .i64 1))),qL 43 1 42,qM 44 2,qO 45 (.fJ 1 (.t 44) (.c (.int .i64 2))),qL 46 1 45,qF 47 5 6,qS 6 1 47 40,qF 48 6 6,qS 6 1 48 43,qf 49 7 6,qs 6 1 49 46]
def aaW :=[qw 50 6 9 6,qc 51 nZ [50]]
def aaX:List Abs.Op:=[]
def aaY :=[qm 53 0,qm 54 0,qw 55 6 9 6,qo 56 (.nN (.t 53)),qf 57 0 56,qf 58 0 57,qt 9 58 55,qo 59 (.nN (.t 54)),qf 60 18 59,⟨none,none,false,.st [] 1 (.t 60) (.c (.bool true))⟩]
def Hb:bP:=⟨[(4,[]),(3,[0,6]),(2,[0,6]),(1,[0,2,6]),(0,[0,2])],[],[],[0,6],[6],[],[],[],[],[],[(0,some 25),(3,some 2)]⟩
def mR:Abs.Fn:=⟨3,[],
 (.seq (.jk [0,2] aaS ⟨some 32,none,false,.call false (.c (.fn bd [] [])) [(.t 31),(.c (.int .i64 8))]⟩ aaT) (.seq (.ak [0,2,6] aaU) (.seq (.ak [0,6] aaV) (.seq (.jk [0,6] aaW ⟨some 52,none,false,.call false (.c (.fn bW [] [])) [(.t 51)]⟩ aaX) (.ak [] aaY)))))⟩
@[simp] theorem aG5:type_of% (show aaS=_∧aaT=_∧aaU=_∧aaV=_∧aaW=_∧aaX=_∧aaY=_ from by simp only[zI,aaS,aaT,aaU,aaV,aaW,aaX,aaY,qo,qO,qm,qM,qf,qF,ql,qL,qa,qw,qe,qn,qu,qp,qs,qS,qt,qc,qg,aj,aw];exact⟨rfl,rfl,rfl,rfl,rfl,rfl,rfl⟩):=⟨rfl,rfl,rfl,rfl,rfl,rfl,rfl⟩
theorem yM:type_of% mR.eq_1:=ah mR.eq_1
def aaZ :=[qm 7 0,qo 8 (.nN (.t 7)),qf 9 18 8,ql 10 1 9,qm 11 10,qg 11 true (qm 12 0),qg 11 true (qo 13 (.nN (.t 12))),qg 11 true (qf 14 0 13),qg 11 true (qf 15 9 14),qg 11 true (ql 16 1 15),qg 11 true (qe 17 16),qg 11 true (qn 18 .eql 17 0),qp 19 11 18]
def aa0:List Abs.Op:=[]
def aa1 :=[qm 21 0,qo 22 (.nN (.t 21)),qf 23 0 22,qf 24 0 23,qa 25 9 24,qo 6 (.eK [] [zI,zI,zI,zI,.aH,zI,zI,zI,.aH]),qs 6 9 6 25]
def aa2 :=[qF 26 8 6,qV 27 6 1 26,qo 28 (.call true (.c (.fn eL [] [])) [(.t 27)]),qM 29 2,qO 30 (.fJ 1 (.t 29) (.c zI)),qO 31 (.ldi false 1 (.t 30)),qM 32 2,qO 33 (.fJ 1 (.t 32) (.c (.int .i64 1))),qO 34 (.ldi false 1 (.t 33)),qM 35 2,qO 36 (.fJ 1 (.t 35) (.c (.int .i64 2))),qO 37 (.ldi false 1 (.t 36)),qO 38 (.mJ [zI,zI,zI] [(0,1,(.t 31)),(1,1,(.t 34)),(2,1,(.t 37))]),qO 39 (.wc 1 3 [zI,zI,zI] [(0,3,(.t 38))]),qy 40 3 24 28 39,qf 41 8 6,qs 6 1 41 40]
def aa3 :=[qw 42 6 9 6,qc 43 nZ [42]]
def aa4:List Abs.Op:=[]
def aa5 :=[qm 45 0,qw 46 6 9 6,qo 47 (.nN (.t 45)),qf 48 0 47,qf 49 0 48,qt 9 49 46]
def FW:bP:=⟨[(4,[]),(3,[0,6]),(2,[0,6]),(1,[0,2,6]),(0,[0,2])],[],[],[0,6],[6],[],[2002],[(3,[6])],[29,32,35],[],[(0,some 13),(3,some 2)]⟩
def lP:Abs.Fn:=⟨3,[],
 (.seq (.jk [0,2] aaZ ⟨some 20,none,false,.call false (.c (.fn bd [] [])) [(.t 19),(.c (.int .i64 8))]⟩ aa0) (.seq (.ak [0,2,6] aa1) (.seq (.ak [0,6] aa2) (.seq (.seq (.cI [6]) (.jk [0,6] aa3 ⟨some 44,none,false,.call false (.c (.fn bW [] [])) [(.t 43)]⟩ aa4)) (.ak [] aa5)))))⟩
@[simp] theorem aG6:type_of% (show aaZ=_∧aa0=_∧aa1=_∧aa2=_∧aa3=_∧aa4=_∧aa5=_ from by simp only[zI,aaZ,aa0,aa1,aa2,aa3,aa4,aa5,qo,qO,qm,qM,qf,qF,ql,qa,qV,qw,qe,qn,qp,qs,qt,qc,qy,qg,aj,aw];exact⟨rfl,rfl,rfl,rfl,rfl,rfl,rfl⟩):=⟨rfl,rfl,rfl,rfl,rfl,rfl,rfl⟩
theorem xU:type_of% lP.eq_1:=ah lP.eq_1
def aa6 :=[qx 4 1]
def aa7 :=[qm 9 0,qo 10 (.nN (.t 9)),qf 11 18 10,ql 12 1 11,qm 13 12,qg 13 true (qm 14 0),qg 13 true (qo 15 (.nN (.t 14))),qg 13 true (qf 16 0 15),qg 13 true (qf 17 10 16),qg 13 true (ql 18 1 17),qg 13 true (qe 19 18),qg 13 true (qn 20 .eql 19 0),qp 21 13 20]
def aa8:List Abs.Op:=[]
def aa9 :=[qm 23 0,qo 24 (.nN (.t 23)),qf 25 0 24,qf 26 9 25,ql 27 1 26,qo 28 (.zR ek [] [(.t 4)]),qc 29 dY [27,28],qu 30 29]
def aba:List Abs.Op:=[]
def abb :=[qm 32 0,qo 33 (.nN (.t 32)),qf 34 0 33,qf 35 9 34,ql 36 1 35,qe 37 36,qn 38 .lss 37 40]
def abc:List Abs.Op:=[]
def abd :=[qo 40 (.ldi false 1 (.t 4)),qm 41 2,qo 42 (.mJ [(.str []),.aH] [(0,1,(.t 40)),(1,1,(.t 41))]),qo 6 (.eK [] [(.str []),.aH]),qs 6 2 6 42]
def abe :=[qM 44 0,qO 45 (.nN (.t 44)),qF 46 0 45,qF 47 0 46,qA 48 9 47,qW 49 6 2 6,qC 50 vj [48,49],qM 43 50,qZ 51 43 0,qZ 52 43 1,qM 7 51,qm 8 52]
def abf :=[qm 53 8]
def Q5:List Abs.Op:=[]
def Q6 :=[qM 55 0,qM 56 0,qM 57 0,qO 58 (.nN (.t 57)),qF 59 0 58,qF 60 9 59,qL 61 1 60,qW 62 6 2 6,qO 63 (.mJ [(.str []),.aH,(.bool false),zI] [(0,2,(.t 62)),(2,1,(.c (.bool true))),(3,1,(.c zI))]),qO 64 (.wc 1 4 [(.str []),.aH,(.bool false),zI] [(0,4,(.t 63))]),qO 65 (.apc [] 4 56 (.t 61) (.t 64)),qM 66 0,qO 67 (.nN (.t 66)),qF 68 19 67,qO 69 (.ld0 false 1 (.t 68)),qO 70 (.mJ [zI,zI,zI,zI] []),qO 71 (.wc 1 4 [zI,zI,zI,zI] [(0,4,(.t 70))]),qO 72 (.app 4 32 (.t 69) (.t 71)),qO 73 (.nN (.t 55)),qF 74 0 73,qF 75 9 74,⟨none,none,true,.st [(0,4),(10,4)] 1 (.t 75) (.t 65)⟩,qo 76 (.nN (.t 56)),qf 77 19 76,⟨none,none,false,.st [(0,4)] 1 (.t 77) (.t 72)⟩]
def DZ:bP:=⟨[(7,[]),(6,[0,6]),(5,[0,6,8]),(4,[0,6]),(3,[0,2,4]),(2,[0,2,4]),(1,[0,2,4]),(0,[0,2,4])],[],[],[0,6],[6],[(7021,[(0,4),(10,4)]),(7024,[(0,4)])],[3007014],[],[4],[(7010,some [])],[(1,some 13),(2,some 8),(3,some 7),(6,some 1)]⟩
def ku:Abs.Fn:=⟨3,[],
 (.seq (.ak [0,2,4] aa6) (.seq (.jk [0,2,4] aa7 ⟨some 22,none,false,.call false (.c (.fn bd [] [])) [(.t 21),(.c (.int .i64 8))]⟩ aa8) (.seq (.jk [0,2,4] aa9 ⟨some 31,none,false,.call false (.c (.fn bd [] [])) [(.t 30),(.c (.int .i64 6))]⟩ aba) (.seq (.jk [0,2,4] abb ⟨some 39,none,false,.call false (.c (.fn bd [] [])) [(.t 38),(.c (.int .i64 3))]⟩ abc) (.seq (.ak [0,6] abd) (.seq (.ak [0,6,8] abe) (.seq (.jk [0,6] abf ⟨some 54,none,false,.call false (.c (.fn bW [] [])) [(.t 53)]⟩ Q5) (.ak [] Q6))))))))⟩
@[simp] theorem aG7:type_of% (show aa6=_∧aa7=_∧aa8=_∧aa9=_∧aba=_∧abb=_∧abc=_∧abd=_∧abe=_∧abf=_∧Q5=_∧Q6=_ from by simp only[zI,aa6,aa7,aa8,aa9,aba,abb,abc,abd,abe,abf,Q5,Q6,qo,qO,qm,qM,qf,qF,ql,qL,qA,qW,qx,qe,qn,qu,qp,qs,qZ,qc,qC,qg,aj,aw];exact⟨rfl,rfl,rfl,rfl,rfl,rfl,rfl,rfl,rfl,rfl,rfl,rfl⟩):=⟨rfl,rfl,rfl,rfl,rfl,rfl,rfl,rfl,rfl,rfl,rfl,rfl⟩
theorem wQ:type_of% ku.eq_1:=ah ku.eq_1
def abg :=[qx 3 0]
def abh :=[ql 9 1 3,qo 10 (.nN (.t 9)),qf 11 0 10,qf 12 9 11,ql 13 1 12,qe 14 13,qn 15 .gtr 14 0]
def abi:List Abs.Op:=[]
def abj :=[qM 17 1,qM 18 2,qO 19 (.fJ 1 (.t 18) (.c zI)),qL 20 1 19,qM 21 2,qO 22 (.fJ 1 (.t 21) (.c (.int .i64 1))),qL 23 1 22,qM 24 2,qO 25 (.fJ 1 (.t 24) (.c (.int .i64 2))),qL 26 1 25,qO 27 (.mJ [zI,zI] [(0,1,(.t 23)),(1,1,(.t 26))]),qO 28 (.mJ [(.str []),zI,.aH,.aH,zI,zI] [(0,1,(.t 17)),(1,1,(.t 20)),(4,2,(.t 27))]),qO 6 (.On [] [(.str []),zI,.aH,.aH,zI,zI]),⟨none,none,false,.st [(2,1),(3,1)] 6 (.t 6) (.t 28)⟩]
def abk :=[qm 29 2,qo 30 (.UB 1 (.t 29) (some (.c (.int .i64 3))) none none),qe 31 30,qi 32 0]
def abl :=[qk 33 .lss 32 31]
def abm :=[qm 34 32,qj 35 1 30 32,ql 36 1 35,qm 7 34,qm 8 36]
def abn :=[qm 37 7,qn 38 .rem 37 2,qn 39 .eql 38 0]
def abo :=[qf 40 2 6,ql 41 1 40,qm 42 8,qo 43 (.wc 1 1 [zI] [(0,1,(.t 42))]),qy 44 1 8 41 43,qf 45 2 6,⟨none,none,false,.st [(0,1),(1,1)] 1 (.t 45) (.t 44)⟩]
def abp :=[qf 46 3 6,ql 47 1 46,qm 48 8,qo 49 (.wc 1 1 [zI] [(0,1,(.t 48))]),qy 50 1 8 47 49,qf 51 3 6,⟨none,none,false,.st [(0,1)] 1 (.t 51) (.t 50)⟩]
def Q7 :=[qn 52 .add 32 1,qm 32 52]
def mi:Abs.cZ :=
 (.seq (.ak [2,3,6,30,31,32,33] abl) (.seq (.ite (.t 33) .cU (.exit 0)) (.seq (.bB 1 (.seq (.ak [2,3,6,7,8,30,31,32] abm) (.seq (.ak [2,3,6,8,30,31,32,39] abn) (.ite (.t 39) (.ak [2,3,6,30,31,32] abo) (.ak [2,3,6,30,31,32] abp))))) (.ak [2,3,6,30,31,32] Q7))))
def Q8 :=[qL 53 1 3,qO 54 (.nN (.t 53)),qF 55 0 54,qF 56 0 55,qF 57 0 56,qA 58 4 57,qA 59 6 6,qO 60 (.wc 1 6 [(.str []),zI,.aH,.aH,zI,zI] [(0,6,(.t 59))]),qc 61 jM [58,60]]
def Q9:List Abs.Op:=[]
def Ra :=[qL 63 1 3,qM 64 2,qO 65 (.fJ 1 (.t 64) (.c (.int .i64 1))),qL 66 1 65,qM 67 2,qO 68 (.fJ 1 (.t 67) (.c (.int .i64 2))),qL 69 1 68,qO 70 (.mJ [zI,zI] [(0,1,(.t 66)),(1,1,(.t 69))]),qO 71 (.zR fx [] [(.t 3),(.t 6)]),qc 72 gr [63,70,71]]
def Hc:bP:=⟨[(11,[]),(10,[2,3,6]),(9,[2,3,6,30,31,32]),(7,[2,3,6,30,31,32]),(8,[2,3,6,30,31,32]),(6,[2,3,6,8,30,31,32,39]),(5,[2,3,6,7,8,30,31,32]),(4,[2,3,6,30,31,32,33]),(3,[2,3,6,30,31,32]),(2,[2,3,6]),(1,[1,2,3]),(0,[1,2,3])],[(0,[2,3,6,30,31,32])],[],[6],[],[(2013,[(2,1),(3,1)]),(7006,[(0,1),(1,1)]),(8006,[(0,1)])],[],[(10,[1000006])],[],[],[(1,some 7),(10,some 9)]⟩
def mS:Abs.Fn:=⟨3,[],
 (.seq (.ak [1,2,3] abg) (.seq (.jk [1,2,3] abh ⟨some 16,none,false,.call false (.c (.fn bd [] [])) [(.t 15),(.c (.int .i64 8))]⟩ abi) (.seq (.ak [2,3,6] abj) (.seq (.seq (.ak [2,3,6,30,31,32] abk) (.bB 0 (.loop [2,3,6,30,31,32] false mi))) (.seq (.seq (.cI [1000006]) (.jk [2,3,6] Q8 ⟨some 62,none,false,.call false (.c (.fn bW [] [])) [(.t 61)]⟩ Q9)) (.ak [] Ra))))))⟩
@[simp] theorem aG8:type_of% (show abg=_∧abh=_∧abi=_∧abj=_∧abk=_∧abl=_∧abm=_∧abn=_∧abo=_∧abp=_∧Q7=_∧Q8=_∧Q9=_∧Ra=_ from by simp only[zI,abg,abh,abi,abj,abk,abl,abm,abn,abo,abp,Q7,Q8,Q9,Ra,qo,qO,qm,qM,qi,qf,qF,ql,qL,qA,qx,qe,qj,qk,qn,qc,qy,aj,aw];exact⟨rfl,rfl,rfl,rfl,rfl,rfl,rfl,rfl,rfl,rfl,rfl,rfl,rfl,rfl⟩):=⟨rfl,rfl,rfl,rfl,rfl,rfl,rfl,rfl,rfl,rfl,rfl,rfl,rfl,rfl⟩
theorem pL:type_of% mi.eq_1:=ah mi.eq_1
theorem yN:type_of% mS.eq_1:=ah mS.eq_1
def abq :=[qm 10 0,qo 11 (.nN (.t 10)),qf 12 0 11,qf 13 11 12,ql 14 1 13,qe 15 14,qn 16 .lss 15 20]
def abr:List Abs.Op:=[]
def abt :=[qm 18 2,qo 19 (.fJ 1 (.t 18) (.c (.int .i64 9))),ql 20 1 19,qo 21 (.call false (.c (.fn cG [] [])) [(.t 20),(.c (.int .i64 1)),(.c (.int .i64 2))])]
def abu:List Abs.Op:=[]
def abv :=[qM 23 2,qO 24 (.fJ 1 (.t 23) (.c zI)),qL 25 1 24,qM 26 2,qO 27 (.fJ 1 (.t 26) (.c (.int .i64 1))),qL 28 1 27,qM 29 2,qO 30 (.fJ 1 (.t 29) (.c (.int .i64 2))),qL 31 1 30,qO 32 (.mJ [zI,zI,zI] [(0,1,(.t 25)),(1,1,(.t 28)),(2,1,(.t 31))]),qM 33 2,qO 34 (.fJ 1 (.t 33) (.c (.int .i64 3))),qL 35 1 34,qM 36 2,qO 37 (.fJ 1 (.t 36) (.c (.int .i64 4))),qL 38 1 37,qM 39 2,qO 40 (.fJ 1 (.t 39) (.c (.int .i64 5))),qL 41 1 40,qO 42 (.mJ [zI,zI,zI] [(0,1,(.t 35)),(1,1,(.t 38)),(2,1,(.t 41))]),qM 43 2,qO 44 (.fJ 1 (.t 43) (.c (.int .i64 6))),qL 45 1 44,qM 46 2,qO 47 (.fJ 1 (.t 46) (.c (.int .i64 7))),qL 48 1 47,qM 49 2,qO 50 (.fJ 1 (.t 49) (.c (.int .i64 8))),qL 51 1 50,qM 52 2,qO 53 (.fJ 1 (.t 52) (.c (.int .i64 9))),qL 54 1 53,qO 55 (.Tx .u8 (.t 54)),qO 56 (.mJ [zI,zI,zI,zI,zI,zI,zI,zI,zI,(.int .u8 0)] [(0,3,(.t 32)),(3,3,(.t 42)),(6,1,(.t 45)),(7,1,(.t 48)),(8,1,(.t 51)),(9,1,(.t 55))]),qO 6 (.eK [] [zI,zI,zI,zI,zI,zI,zI,zI,zI,(.int .u8 0)]),qs 6 10 6 56]
def abw :=[qw 58 6 10 6,qo 59 (.wc 1 10 [zI,zI,zI,zI,zI,zI,zI,zI,zI,(.int .u8 0)] [(0,10,(.t 58))]),qo 60 (.call false (.c (.fn iW [] [])) [(.t 59),(.c .aH),(.c zI)]),qm 57 60,qz 61 57 0,qz 62 57 1,qz 63 57 2,qm 7 61,qm 8 62,qm 9 63]
def abx :=[qm 64 9]
def aby:List Abs.Op:=[]
def abz :=[qM 66 0,qM 67 0,qO 68 (.nN (.t 67)),qF 69 0 68,qF 70 11 69,qL 71 1 70,qW 72 6 10 6,qO 73 (.wc 1 10 [zI,zI,zI,zI,zI,zI,zI,zI,zI,(.int .u8 0)] [(0,10,(.t 72))]),qO 74 (.app 10 80 (.t 71) (.t 73)),qo 75 (.nN (.t 66)),qf 76 0 75,qf 77 11 76,⟨none,none,false,.st [(0,10)] 1 (.t 77) (.t 74)⟩]
def FR:bP:=⟨[(5,[]),(4,[0,6]),(3,[0,6,9]),(2,[0,6]),(1,[0,2]),(0,[0,2])],[],[],[0,6],[6],[(5012,[(0,10)])],[],[],[],[],[(0,some 7),(1,some 4),(4,some 1)]⟩
def lL:Abs.Fn:=⟨3,[],
 (.seq (.jk [0,2] abq ⟨some 17,none,false,.call false (.c (.fn bd [] [])) [(.t 16),(.c (.int .i64 3))]⟩ abr) (.seq (.jk [0,2] abt ⟨some 22,none,false,.call false (.c (.fn bd [] [])) [(.t 21),(.c (.int .i64 1))]⟩ abu) (.seq (.ak [0,6] abv) (.seq (.ak [0,6,9] abw) (.seq (.jk [0,6] abx ⟨some 65,none,false,.call false (.c (.fn bW [] [])) [(.t 64)]⟩ aby) (.ak [] abz))))))⟩
@[simp] theorem aG9:type_of% (show abq=_∧abr=_∧abt=_∧abu=_∧abv=_∧abw=_∧abx=_∧aby=_∧abz=_ from by simp only[zI,abq,abr,abt,abu,abv,abw,abx,aby,abz,qo,qO,qm,qM,qf,qF,ql,qL,qw,qW,qe,qn,qs,qz];exact⟨rfl,rfl,rfl,rfl,rfl,rfl,rfl,rfl,rfl⟩):=⟨rfl,rfl,rfl,rfl,rfl,rfl,rfl,rfl,rfl⟩
theorem xQ:type_of% lL.eq_1:=ah lL.eq_1
def abA :=[qm 9 2,qo 10 (.me (.s2a 3 1) [(.t 9)]),qa 11 3 10,qo 12 (.call false (.c (.fn rh [] [])) [(.c .aH),(.c .aH),(.t 11),(.c zI)]),qm 8 12,qz 13 8 0,qz 14 8 1,qm 6 13,qm 7 14]
def abB :=[qm 15 7]
def abC:List Abs.Op:=[]
def abD :=[qm 17 0,qm 18 2,qo 19 (.me (.s2a 3 1) [(.t 18)]),qa 20 3 19,qo 21 (.nN (.t 17)),qf 22 0 21,qf 23 13 22,qt 3 23 20]
def FN:bP:=⟨[(2,[]),(1,[0,2]),(0,[0,2,7])],[],[],[0],[],[],[],[],[],[],[(1,some 1)]⟩
def lH:Abs.Fn:=⟨3,[],
 (.seq (.ak [0,2,7] abA) (.seq (.jk [0,2] abB ⟨some 16,none,false,.call false (.c (.fn bW [] [])) [(.t 15)]⟩ abC) (.ak [] abD)))⟩
@[simp] theorem aHa:type_of% (show abA=_∧abB=_∧abC=_∧abD=_ from by simp only[zI,abA,abB,abC,abD,qo,qm,qf,qa,qt,qz];exact⟨rfl,rfl,rfl,rfl⟩):=⟨rfl,rfl,rfl,rfl⟩
theorem xO:type_of% lH.eq_1:=ah lH.eq_1
def abE :=[qm 10 0,qo 11 (.nN (.t 10)),qf 12 0 11,qf 13 12 12,ql 14 1 13,qe 15 14,qn 16 .lss 15 200]
def abF:List Abs.Op:=[]
def abG :=[qm 18 0,qo 19 (.nN (.t 18)),qf 20 0 19,qf 21 10 20,ql 22 1 21,qe 23 22,qo 24 (.mJ [zI,.aH] [(0,1,(.t 23))]),qo 6 (.eK [] [zI,.aH]),⟨none,none,false,.LV 6 [(1,4)] 2 6 (.t 24)⟩]
def abH :=[qm 25 2,qe 26 25,qn 27 .gtr 26 0]
def abI :=[qF 30 1 6,qV 31 6 1 30,qM 32 2,qO 33 (.fJ 1 (.t 32) (.c zI)),qL 34 1 33,qM 35 2,qO 36 (.fJ 1 (.t 35) (.c (.int .i64 1))),qL 37 1 36,qM 38 2,qO 39 (.fJ 1 (.t 38) (.c (.int .i64 2))),qL 40 1 39,qO 41 (.mJ [zI,zI,zI] [(0,1,(.t 34)),(1,1,(.t 37)),(2,1,(.t 40))]),qM 42 2,qO 43 (.fJ 1 (.t 42) (.c (.int .i64 3))),qL 44 1 43,qO 45 (.mJ [zI,zI,zI,zI] [(0,3,(.t 41)),(3,1,(.t 44))]),qO 46 (.wc 1 4 [zI,zI,zI,zI] [(0,4,(.t 45))]),qy 47 4 32 31 46,qf 48 1 6,⟨none,none,false,.LV 6 [(0,4)] 1 48 (.t 47)⟩]
def abJ :=[qm 28 2,qo 29 (.UB 1 (.t 28) (some (.c (.int .i64 4))) none none),qm 2 29]
def kX:Abs.cZ :=
 (.seq (.seq (.ak [0,2,6,27] abH) (.ite (.t 27) .cU (.exit 0))) (.seq (.bB 1 (.ak [0,2,6] abI)) (.ak [0,2,6] abJ)))
def abK :=[qw 50 6 2 6,qo 51 (.wc 1 2 [zI,.aH] [(0,2,(.t 50))]),qo 52 (.call false (.c (.fn iW [] [])) [(.c .aH),(.t 51),(.c zI)]),qm 49 52,qz 53 49 0,qz 54 49 1,qz 55 49 2,qm 7 53,qm 8 54,qm 9 55]
def abL :=[qm 56 9]
def abM:List Abs.Op:=[]
def Rb :=[qM 58 0,qM 59 0,qO 60 (.nN (.t 59)),qF 61 0 60,qF 62 12 61,qL 63 1 62,qW 64 6 2 6,qO 65 (.wc 1 2 [zI,.aH] [(0,2,(.t 64))]),qO 66 (.app 2 32 (.t 63) (.t 65)),qo 67 (.nN (.t 58)),qf 68 0 67,qf 69 12 68,⟨none,none,false,.st [(0,2)] 1 (.t 69) (.t 66)⟩]
def D0:bP:=⟨[(7,[]),(6,[0,6]),(5,[0,6,9]),(3,[0,2,6]),(4,[0,2,6]),(2,[0,2,6,27]),(1,[0,2,6]),(0,[0,2])],[(0,[0,2,6])],[],[0,6],[6],[(1008,[(1,4)]),(4019,[(0,4)]),(7012,[(0,2)])],[],[(5,[6,1000006])],[],[],[(0,some 7),(6,some 1)]⟩
def kz:Abs.Fn:=⟨3,[],
 (.seq (.jk [0,2] abE ⟨some 17,none,false,.call false (.c (.fn bd [] [])) [(.t 16),(.c (.int .i64 3))]⟩ abF) (.seq (.ak [0,2,6] abG) (.seq (.bB 0 (.loop [0,2,6] false kX)) (.seq (.seq (.cI [6,1000006]) (.ak [0,6,9] abK)) (.seq (.jk [0,6] abL ⟨some 57,none,false,.call false (.c (.fn bW [] [])) [(.t 56)]⟩ abM) (.ak [] Rb))))))⟩
@[simp] theorem aHb:type_of% (show abE=_∧abF=_∧abG=_∧abH=_∧abI=_∧abJ=_∧abK=_∧abL=_∧abM=_∧Rb=_ from by simp only[zI,abE,abF,abG,abH,abI,abJ,abK,abL,abM,Rb,qo,qO,qm,qM,qf,qF,ql,qL,qV,qw,qW,qe,qn,qz,qy];exact⟨rfl,rfl,rfl,rfl,rfl,rfl,rfl,rfl,rfl,rfl⟩):=⟨rfl,rfl,rfl,rfl,rfl,rfl,rfl,rfl,rfl,rfl⟩
theorem ub:type_of% kX.eq_1:=ah kX.eq_1
theorem wR:type_of% kz.eq_1:=ah kz.eq_1
def abN :=[qm 16 0,qc 17 fX [16],qm 6 17]
def abO :=[qm 18 6,qe 19 18,qn 20 .gtr 19 0]
def abP:List Abs.Op:=[]
def abQ :=[qm 22 0,qo 23 (.nN (.t 22)),qf 24 0 23,qf 25 10 24,ql 26 1 25,qe 27 26,qn 28 .lss 27 200]
def abR:List Abs.Op:=[]
def abS :=[qm 30 2,qe 31 30,qm 32 0,qo 33 (.nN (.t 32)),qf 34 0 33,qf 35 0 34,qf 36 8 35,ql 37 1 36,qe 38 37,qk 39 .eql 31 38]
def abT:List Abs.Op:=[]
def abU :=[qM 41 0,qM 42 0,qC 43 gq [42],qO 44 (.nN (.t 41)),qF 45 0 44,qF 46 13 45,qo 47 (.EE 3 1 (.t 46) (.t 43)),ql 48 1 47,qm 7 48]
def abV :=[qo 8 (.rk 1)]
def abW :=[qm 49 2,qe 50 49,qi 51 0]
def Rc :=[qk 52 .lss 51 50]
def Re :=[qj 53 1 49 51,ql 54 1 53,qm 10 54]
def Rf :=[qm 55 10,qo 56 (.call false (.c (.fn cG [] [])) [(.t 55),(.c (.int .i64 (-100000))),(.c (.int .i64 100000))])]
def Rh:List Abs.Op:=[]
def Ri :=[qm 58 10,qn 59 .lss 58 0]
def Rj :=[qm 60 10,qo 61 (.un .neg (.t 60)),qm 62 7,qk 63 .mul 61 62,qn 64 .quo 63 1000,qo 65 (.un .neg (.t 64)),qm 10 65]
def Rk :=[qm 66 8,qm 67 10,qo 68 (.wc 1 1 [zI] [(0,1,(.t 67))]),qy 69 1 8 66 68,qm 8 69]
def Rl :=[qn 70 .add 51 1,qm 51 70]
def la:Abs.cZ :=
 (.seq (.ak [0,6,7,8,49,50,51,52] Rc) (.seq (.ite (.t 52) .cU (.exit 0)) (.seq (.bB 1 (.seq (.ak [0,6,7,8,10,49,50,51] Re) (.seq (.jk [0,6,7,8,10,49,50,51] Rf ⟨some 57,none,false,.call false (.c (.fn bd [] [])) [(.t 56),(.c (.int .i64 2))]⟩ Rh) (.seq (.seq (.ak [0,6,7,8,10,49,50,51,59] Ri) (.ite (.t 59) (.ak [0,6,7,8,10,49,50,51] Rj) .cU)) (.ak [0,6,7,8,49,50,51] Rk))))) (.ak [0,6,7,8,49,50,51] Rl))))
def Rm :=[qm 71 0,qo 72 (.nN (.t 71)),qf 73 0 72,qf 74 10 73,ql 75 1 74,qo 76 (.call true (.c (.fn ie [] [])) [(.t 75)]),qm 77 8,qo 78 (.wc 1 1 [.aH] [(0,1,(.t 77))]),qy 79 1 24 76 78,qm 11 79]
def Rn :=[qm 80 6,qe 81 80,qi 82 0]
def Ro :=[qk 83 .lss 82 81]
def Rp :=[qj 84 4 80 82,qa 85 4 84,qo 13 (.eK [] [(.str []),.aH,(.bool false),zI]),qs 13 4 13 85]
def Rq :=[qM 87 0,qO 88 (.nN (.t 87)),qF 89 0 88,qF 90 0 89,qA 91 9 90,qF 92 0 13,qW 93 13 2 92,qM 94 11,qC 95 uk [91,93,94],qM 86 95,qZ 96 86 0,qZ 97 86 1,qO 14 (.eK [] [.aH,.aH]),qS 14 2 14 96,qm 15 97]
def Rr :=[qm 98 15]
def Rt:List Abs.Op:=[]
def Ru :=[qn 100 .add 82 1,qm 82 100]
def lf:Abs.cZ :=
 (.seq (.ak [0,11,80,81,82,83] Ro) (.seq (.ite (.t 83) .cU (.exit 2)) (.seq (.bB 3 (.seq (.ak [0,11,13,80,81,82] Rp) (.seq (.ak [0,11,15,80,81,82] Rq) (.jk [0,11,80,81,82] Rr ⟨some 99,none,false,.call false (.c (.fn bW [] [])) [(.t 98)]⟩ Rt)))) (.ak [0,11,80,81,82] Ru))))
def Rx :=[qm 101 0,qm 102 11,qo 103 (.nN (.t 101)),qf 104 0 103,qf 105 10 104,qt 1 105 102]
def FU:bP:=⟨[(21,[]),(20,[0,11,80,81,82]),(19,[0,11,80,81,82]),(18,[0,11,15,80,81,82]),(17,[0,11,13,80,81,82]),(16,[0,11,80,81,82,83]),(15,[0,11,80,81,82]),(14,[0,6,11]),(13,[0,6,7,8,49,50,51]),(12,[0,6,7,8,49,50,51]),(11,[0,6,7,8,10,49,50,51]),(10,[0,6,7,8,10,49,50,51,59]),(9,[0,6,7,8,10,49,50,51]),(8,[0,6,7,8,10,49,50,51]),(7,[0,6,7,8,49,50,51,52]),(6,[0,6,7,8,49,50,51]),(5,[0,2,6,7,8]),(4,[0,2,6,7]),(3,[0,2,6]),(2,[0,2,6]),(1,[0,2,6]),(0,[0,2,6])],[(2,[0,11,80,81,82]),(0,[0,6,7,8,49,50,51])],[],[0,8,13,14],[13,14],[],[14005],[(15,[11])],[],[],[(1,some 3),(2,some 7),(3,some 10),(9,some 2),(19,some 1)]⟩
def lN:Abs.Fn:=⟨3,[],
 (.seq (.ak [0,2,6] abN) (.seq (.jk [0,2,6] abO ⟨some 21,none,false,.call false (.c (.fn bd [] [])) [(.t 20),(.c (.int .i64 8))]⟩ abP) (.seq (.jk [0,2,6] abQ ⟨some 29,none,false,.call false (.c (.fn bd [] [])) [(.t 28),(.c (.int .i64 3))]⟩ abR) (.seq (.jk [0,2,6] abS ⟨some 40,none,false,.call false (.c (.fn bd [] [])) [(.t 39),(.c (.int .i64 1))]⟩ abT) (.seq (.ak [0,2,6,7] abU) (.seq (.ak [0,2,6,7,8] abV) (.seq (.seq (.ak [0,6,7,8,49,50,51] abW) (.bB 0 (.loop [0,6,7,8,49,50,51] false la))) (.seq (.ak [0,6,11] Rm) (.seq (.seq (.seq (.cI [11]) (.ak [0,11,80,81,82] Rn)) (.bB 2 (.loop [0,11,80,81,82] false lf))) (.ak [] Rx))))))))))⟩
@[simp] theorem aHc:type_of% (show abN=_∧abO=_∧abP=_∧abQ=_∧abR=_∧abS=_∧abT=_∧abU=_∧abV=_∧abW=_∧Rc=_∧Re=_∧Rf=_∧Rh=_∧Ri=_∧Rj=_∧Rk=_∧Rl=_∧Rm=_∧Rn=_∧Ro=_∧Rp=_∧Rq=_∧Rr=_∧Rt=_∧Ru=_∧Rx=_ from by simp only[zI,abN,abO,abP,abQ,abR,abS,abT,abU,abV,abW,Rc,Re,Rf,Rh,Ri,Rj,Rk,Rl,Rm,Rn,Ro,Rp,Rq,Rr,Rt,Ru,Rx,qo,qO,qm,qM,qi,qf,qF,ql,qa,qA,qW,qe,qj,qk,qn,qs,qS,qt,qZ,qc,qC,qy,aj,aw];exact⟨rfl,rfl,rfl,rfl,rfl,rfl,rfl,rfl,rfl,rfl,rfl,rfl,rfl,rfl,rfl,rfl,rfl,rfl,rfl,rfl,rfl,rfl,rfl,rfl,rfl,rfl,rfl⟩):=⟨rfl,rfl,rfl,rfl,rfl,rfl,rfl,rfl,rfl,rfl,rfl,rfl,rfl,rfl,rfl,rfl,rfl,rfl,rfl,rfl,rfl,rfl,rfl,rfl,rfl,rfl,rfl⟩
theorem ue:type_of% la.eq_1:=ah la.eq_1
theorem uf:type_of% lf.eq_1:=ah lf.eq_1
theorem xS:type_of% lN.eq_1:=ah lN.eq_1
def tF2:List (Nat×bP×Abs.Fn):=[(jS,G6,mN),(j3,Hu,nq),(kO,D3,wZ),(fC,Hk,mY),(gl,Db,jB),(kK,DU,km),(eH,uA,nR),(kf,Aq,tu),(kN,MP,Ez),(eo,Hq,ng),(ec,D4,kD),(fE,D5,kE),(xh,Th,xa),(fD,Hp,nf),(lj,IG,oi),(jg,FY,lR),(jY,Hm,na),(dT,vZ,jQ),(dI,vE,jm),(ij,J6,wk),(ew,B9,iN),(jV,Hh,mW),(nF,Ht,nj),(cT,sM,cN),(l6,F0,lT),(ck,ID,oe),(oD,IE,og),(mI,J0,pa),(oF,IH,oj),(l7,F1,lU),(fk,vC,oQ),(ln,A4,ui),(eZ,uH,oo),(kc,Ao,tj),(ep,tL,nk),(iS,yF,rW),(jf,FX,lQ),(AI,Og,GB),(re,Ly,qq),(bd,Oe,tg),(mH,JT,o4),(eu,B7,pQ),(fj,vB,oP),(mw,B5,u7),(gC,An,gA),(ej,BX,iD),(fQ,vY,pc),(pq,J1,Bp),(pU,Hv,tR),(ic,A3,ia),(pn,JX,o7),(j2,Hr,nh),(jZ,Hn,nc),(nK,Dk,vQ),(jX,Hl,mZ),(gI,xw,qT),(gi,wL,pF),(fm,vD,oR),(fw,DX,kq),(fB,D1,kA),(gN,Hb,mR),(gg,FW,lP),(fy,DZ,ku),(gO,Hc,mS),(fZ,FR,lL),(fW,FN,lH),(fA,D0,kz),(gb,FU,lN)]
theorem kF2:(tF2.map fun p=>chk p)=tF2.map fun p=>some p.2.2:=by kernel_rfl
end Go.Proofs.YtfgljaglidhjiaaGreatDoor
