import Derived.Test.YtklfdfnoebnciaaGreatDoorIds
set_option linter.all false
set_option maxRecDepth 100000
namespace Go.Proofs.YtklfdfnoebnciaaGreatDoor
open Go Go.Abs
def al6 :=[qi 4 0]
def al7 :=[qm 6 0,qe 7 6,qi 8 0]
def al8 :=[qk 9 .lss 8 7]
def al9 :=[qm 10 8,qm 5 10]
def ama :=[qm 11 1,qm 12 0,qm 13 5,qj 14 1 12 13,ql 15 1 14,qo 16 (.call false (.t 11) [(.t 15)])]
def amb :=[qm 17 5,qm 4 17]
def amc :=[qn 18 .add 8 1,qm 8 18]
def vX:Abs.cA:=sR [0,1,7,8,9] al8 (.seq (.ite (.t 9) .ep (.exit 0)) (.seq (.bL 1 (sR [0,1,5,7,8] al9 (sR [0,1,5,7,8,16] ama (.ite (.t 16) (sR [4] amb .ret) .ep)))) (.cm [0,1,7,8] amc)))
def amd :=[qi 4 (-1)]
def rS:Abs.Fn:=⟨2,[.t 4],sR [0,1] al6 (sL [0,1,7,8] al7 0 [0,1,7,8] false vX (sR [4] amd .ret))⟩
def WH :=[qb 2 false]
def WI :=[qm 3 0,qo 4 (.call false (.c (.fn bY [] [])) [(.t 3),(.c (.int .i64 (-100000))),(.c (.int .i64 100000))]),qm 2 4]
def ov:Abs.Fn:=⟨1,[.t 2],sR [0] WH (sR [2] WI .ret)⟩
attribute [simp] WH WI
def WJ :=[qo 2 (.rq 3)]
def WK :=[qm 3 0,qo 4 (.isn false false (.t 3))]
def WN :=[qo 2 (.rq 3)]
def WQ :=[qo 5 (.K4 0 3 [] []),qm 6 0,qy 7 3 24 5 6,qm 2 7]
def dn:Abs.Fn:=⟨1,[.t 2],sR [0] WJ (sE [0,4] WK 4 [2] WN (sR [2] WQ .ret))⟩
attribute [simp] WJ WK WN WQ
def WS :=[qx 2 0,qx 3 1,qo 4 (.mv (.c .undef))]
def WT :=[qo 11 (.mp (.make) []),qo 5 (.G8 [] [.undef]),qt 1 5 11]
def WU :=[qa 12 11 2,ql 13 1 3,qc 14 gA [12,13],qo 6 (.G8 [] [.aI]),qt 1 6 14]
def WW :=[qf 15 0 2,qa 16 9 15,qc 17 nS [16]]
def WX :=[qo 7 (.dT [] [zI,zI]),qs 7 2 7 18]
def WY :=[qL 19 1 6,qF 20 0 7,qV 21 7 1 20,qJ 22 1 19 21,qL 23 1 22,qA 24 11 2,qF 25 0 7,qV 26 7 1 25,qC 27 fa [24,26],qK 28 .sub 23 27,qL 29 1 6,qF 30 1 7,qV 31 7 1 30,qJ 32 1 29 31,qL 33 1 32,qK 34 .sub 28 33,qA 35 11 2,qF 36 1 7,qV 37 7 1 36,qC 38 fa [35,37],qk 39 .add 34 38,qm 8 39]
def WZ :=[qm 40 8,qn 41 .lss 40 0]
def W0 :=[qf 42 1 7,qv 43 7 1 42,qf 44 0 7,qv 45 7 1 44,qo 46 (.lf [zI,zI] [(0,1,(.t 43)),(1,1,(.t 45))]),qm 47 8,qo 48 (.un .neg (.t 47)),qs 7 2 7 46,qm 8 48]
def W3 :=[qA 49 11 2,qF 50 0 7,qV 51 7 1 50,qC 52 jd [49,51],qA 53 11 2,qF 54 1 7,qV 55 7 1 54,qc 56 jd [53,55],qo 57 (.mn (.t 52) (.t 56)),qm 9 57]
def W4 :=[qm 58 9,qm 59 8,qk 60 .mul 58 59,qn 61 .quo 60 1000,ql 62 1 3,qf 63 0 7,qv 64 7 1 63,qj 65 3 62 64,qf 66 0 65,ql 67 1 66,qn 68 .quo 67 8,qo 69 (.mn (.t 61) (.t 68)),qm 10 69]
def NB :=[qm 70 10,qn 71 .gtr 70 0]
def NC :=[qL 72 1 5,qW 73 7 2 7,qL 74 1 3,qF 75 0 7,qV 76 7 1 75,qJ 77 3 74 76,qA 78 3 77,qM 79 10,qC 80 kY [78,79],⟨none,none,false,.mp (.put (some (true,[some .i64,some .i64]))) [(.t 72),(.t 73),(.t 80)]⟩]
def jQ:Abs.cA:=.cm [2,3,5,6,7] WX
def dr:Abs.cA:=.bL 1 (sR [2,3,5,7,8] WY (sI [2,3,5,7,8,41] WZ 41 (.cm [2,3,5,7,8] W0) .ep (sR [3,5,7,8,9] W3 (sR [3,5,7,10] W4 (sR [3,5,7,10,71] NB (.ite (.t 71) (.cm [] NC) .ep))))))
def ND :=[ql 81 1 5,qm 4 81]
def BP:uc:=an7 [(12,[4]),(11,[]),(10,[3,5,7,10,71]),(9,[3,5,7,10]),(8,[3,5,7,8,9]),(7,[2,3,5,7,8]),(6,[2,3,5,7,8,41]),(5,[2,3,5,7,8]),(4,[2,3,5,6,7]),(3,[2,3,4,5,6,17]),(2,[2,3,4,5,6]),(1,[2,3,4,5]),(0,[2,3,4])] [(0,[2,3,4,5,6])] [] [5,6,7] [7] [] []
def nE:Abs.Fn:=⟨2,[.t 4],sR [2,3,4] WS (sR [2,3,4,5] WT (sR [2,3,4,5,6] WU (.seq (sR [2,3,4,5,6,17] WW (.bL 0 (.Je [2,3,4,5,6] (.t 17) [18] jQ dr))) (sR [4] ND .ret))))⟩
attribute [simp] WS WT WU WW WX WY WZ W0 W3 W4 NB NC ND
def W5 :=[qx 4 1]
def W6 :=[qM 6 0,qO 7 (.ng (.t 6)),qF 8 0 7,qL 9 1 8,qM 10 2,qF 11 0 4,qL 12 1 11,qK 13 .mul 10 12,qk 14 .add 9 13,qo 15 (.ng (.t 6)),qf 16 0 15,qt 1 16 14]
def W7 :=[qM 17 0,qO 18 (.ng (.t 17)),qF 19 1 18,qL 20 1 19,qM 21 2,qF 22 1 4,qL 23 1 22,qK 24 .mul 21 23,qk 25 .add 20 24,qo 26 (.ng (.t 17)),qf 27 1 26,qt 1 27 25]
def W8 :=[qM 28 0,qO 29 (.ng (.t 28)),qF 30 2 29,qL 31 1 30,qM 32 2,qF 33 2 4,qL 34 1 33,qK 35 .mul 32 34,qk 36 .add 31 35,qo 37 (.ng (.t 28)),qf 38 2 37,qt 1 38 36]
def pD:Abs.Fn:=⟨3,[],sR [0,2,4] W5 (sR [0,2,4] W6 (sR [0,2,4] W7 (.cm [] W8)))⟩
attribute [simp] W5 W6 W7 W8
def W9 :=[qx 2 0,qo 4 (.dT [] [zI,zI,zI])]
def Xa :=[qm 5 1,qo 6 (.un .neg (.t 5)),qm 7 1,qo 8 (.un .neg (.t 7)),qf 9 1 2,ql 10 1 9,qk 11 .mul 8 10,qm 12 1,qo 13 (.un .neg (.t 12)),qf 14 2 2,ql 15 1 14,qk 16 .mul 13 15,qo 17 (.lf [zI,zI,zI] [(0,1,(.t 6)),(1,1,(.t 11)),(2,1,(.t 16))]),qs 4 3 4 17]
def pF:Abs.Fn:=⟨2,[.v 4 true 3],sR [1,2,4] W9 (sR [4] Xa .ret)⟩
attribute [simp] W9 Xa
def Xb :=[qx 2 0,qo 4 (.dT [] [zI,zI,zI])]
def Xc :=[qM 5 1,qF 6 1 2,qL 7 1 6,qM 8 1,qK 9 .mul 7 8,qF 10 0 2,qL 11 1 10,qK 12 .quo 9 11,qF 13 2 2,qL 14 1 13,qM 15 1,qK 16 .mul 14 15,qF 17 0 2,qL 18 1 17,qK 19 .quo 16 18,qo 20 (.lf [zI,zI,zI] [(0,1,(.t 5)),(1,1,(.t 12)),(2,1,(.t 19))]),qs 4 3 4 20]
def rj:Abs.Fn:=⟨2,[.v 4 true 3],sR [1,2,4] Xb (sR [4] Xc .ret)⟩
attribute [simp] Xb Xc
def Xd :=[qx 2 0,qo 4 (.dT [] [zI,zI,zI])]
def Xe :=[qA 5 11 2,qM 6 1,qC 7 jb [5,6],qA 8 11 2,qM 9 1,qC 10 jb [8,9],qF 11 0 2,qF 12 7 11,qL 13 1 12,qk 14 .mul 10 13,qo 15 (.lf [zI,zI,zI] [(0,1,(.t 7)),(1,1,(.t 14))]),qs 4 3 4 15]
def pI:Abs.Fn:=⟨2,[.v 4 true 3],sR [1,2,4] Xd (sR [4] Xe .ret)⟩
attribute [simp] Xd Xe
def Xf :=[qx 2 0,qb 4 false]
def Xg :=[qm 5 1,qe 6 5,qf 7 0 2,qa 8 9 7,qc 9 cV [8],qk 10 .eql 6 9,qm 11 10,qg 11 true (qm 12 1),qg 11 true (qo 13 (.call false (.c (.fn lX [] [])) [(.t 12),(.c (.fn iZ [] []))])),qp 14 11 13,qm 4 14]
def nF:Abs.Fn:=⟨2,[.t 4],sR [1,2] Xf (sR [4] Xg .ret)⟩
attribute [simp] Xf Xg
def Xh :=[qi 2 0]
def Xi :=[qa 3 4 0,ql 4 1 1,qc 5 jB [3,4],qm 2 5]
def lI:Abs.Fn:=⟨2,[.t 2],sR [0,1] Xh (sR [2] Xi .ret)⟩
attribute [simp] Xh Xi
def Xj :=[qx 2 0,qi 4 0]
def Xk :=[qm 5 1,qe 6 5,qo 7 (.call false (.c (.fn du [] [])) [(.t 6),(.c (.int .i64 1)),(.c (.int .i64 40))]),qu 8 7]
def Xl :=[qi 4 3]
def Xm :=[qm 9 1,qo 10 (.xf dK [] [(.t 2)]),qc 11 fS [9,10],qm 4 11]
def mq:Abs.Fn:=⟨2,[.t 4],sR [1,2] Xj (sE [1,2,8] Xk 8 [4] Xl (sR [4] Xm .ret))⟩
attribute [simp] Xj Xk Xl Xm
def amk :=[qb 4 false]
def aml :=[qm 5 0,qm 6 1,qc 7 fp [5,6],qn 8 .geq 7 0,qm 4 8]
def l6:Abs.Fn:=⟨2,[.t 4],sR [0,1] amk (sR [4] aml .ret)⟩
def amm :=[qx 2 0,qb 3 false]
def amn :=[ql 4 1 1,qa 5 2 2,qo 6 (.call false (.t 4) [(.t 5)]),qu 7 6,qm 3 7]
def rP:Abs.Fn:=⟨2,[.t 3],sR [1,2] amm (sR [3] amn .ret)⟩
def Xn :=[qx 2 0,qi 4 0]
def Xo :=[qM 5 1,qF 6 0 2,qF 7 0 6,qF 8 0 7,qL 9 1 8,qF 10 0 2,qF 11 0 10,qF 12 1 11,qL 13 1 12,qK 14 .mul 9 13,qK 15 .quo 5 14,qF 16 0 2,qF 17 6 16,qL 18 1 17,qk 19 .mul 15 18,qm 4 19]
def mC:Abs.Fn:=⟨2,[.t 4],sR [1,2] Xn (sR [4] Xo .ret)⟩
attribute [simp] Xn Xo
def Xp :=[qi 4 0]
def Xq :=[qm 6 0,qm 7 1,qk 8 .quo 6 7,qm 5 8]
def Xr :=[qm 9 5,qm 10 1,qk 11 .mul 9 10,qm 12 0,qk 13 .gtr 11 12]
def Xt :=[qm 14 5,qn 15 .sub 14 1,qm 5 15]
def Xu :=[qm 16 5,qm 4 16]
def xw:Abs.Fn:=⟨2,[.t 4],sR [0,1] Xp (sR [0,1,5] Xq (sI [5,13] Xr 13 (.cm [5] Xt) .ep (sR [4] Xu .ret)))⟩
attribute [simp] Xp Xq Xr Xt Xu
def Xv :=[qx 1 0,qi 2 0]
def Xw :=[qf 3 0 1,ql 4 1 3,qm 2 4]
def pH:Abs.Fn:=⟨1,[.t 2],sR [1] Xv (sR [2] Xw .ret)⟩
attribute [simp] Xv Xw
def Xx :=[qx 1 0,qi 2 0]
def Xy :=[qf 3 0 1,ql 4 1 3,qn 5 .eql 4 0]
def Xz :=[qi 2 0]
def XA :=[qf 6 1 1,ql 7 1 6,qf 8 0 1,ql 9 1 8,qk 10 .quo 7 9,qm 2 10]
def nC:Abs.Fn:=⟨1,[.t 2],sR [1] Xx (sE [1,5] Xy 5 [2] Xz (sR [2] XA .ret))⟩
attribute [simp] Xx Xy Xz XA
def XB :=[qx 1 0,qi 2 0]
def XC :=[qf 3 2 1,ql 4 1 3,qm 2 4]
def oE:Abs.Fn:=⟨1,[.t 2],sR [1] XB (sR [2] XC .ret)⟩
attribute [simp] XB XC
def amo :=[qb 4 false]
def amp :=[qm 5 0,qm 6 1,qc 7 fI [5,6],qn 8 .geq 7 0,qm 4 8]
def mD:Abs.Fn:=⟨2,[.t 4],sR [0,1] amo (sR [4] amp .ret)⟩
def amq :=[qx 2 0,qb 3 false]
def amr :=[ql 4 1 1,qa 5 2 2,qo 6 (.call false (.t 4) [(.t 5)]),qu 7 6,qm 3 7]
def rN:Abs.Fn:=⟨2,[.t 3],sR [1,2] amq (sR [3] amr .ret)⟩
def ams :=[qb 4 false]
def amu :=[qm 5 0,qm 6 1,qc 7 eM [5,6],qn 8 .geq 7 0,qm 4 8]
def lj:Abs.Fn:=⟨2,[.t 4],sR [0,1] ams (sR [4] amu .ret)⟩
def amv :=[qx 2 0,qb 3 false]
def amw :=[ql 4 1 1,qa 5 4 2,qo 6 (.call false (.t 4) [(.t 5)]),qu 7 6,qm 3 7]
def pZ:Abs.Fn:=⟨2,[.t 3],sR [1,2] amv (sR [3] amw .ret)⟩
def XD :=[qf 7 1 1,ql 8 1 7,qe 9 8,qi 10 0]
def XE :=[qk 11 .lss 10 9]
def XF :=[qj 12 2 8 10,qa 13 2 12,qo 5 (.dT [] [zI,zI]),qs 5 2 5 13]
def XG :=[ql 14 1 2,qf 15 0 5,qv 16 5 1 15,qo 17 (.mn (.t 14) (.t 16)),qm 6 17]
def XH :=[qm 18 0,qw 19 5 2 5,qm 20 6,qo 21 (.call false (.t 18) [(.t 19),(.t 20)]),qu 22 21]
def XI :=[ql 23 1 2,qm 24 6,qk 25 .sub 23 24,qt 1 2 25]
def XJ :=[qn 26 .add 10 1,qm 10 26]
def kF:Abs.cA:=sR [0,2,8,9,10,11] XE (.seq (.ite (.t 11) .ep (.exit 0)) (.seq (.bL 1 (sR [0,2,5,8,9,10] XF (sR [0,2,5,6,8,9,10] XG (sI [0,2,6,8,9,10,22] XH 22 .ret .ep (.cm [0,2,8,9,10] XI))))) (.cm [0,2,8,9,10] XJ)))
def nA:Abs.Fn:=⟨3,[],sR [0,2,8,9,10] XD (.bL 0 (.loop [0,2,8,9,10] false kF))⟩
attribute [simp] XD XE XF XG XH XI XJ
def amx :=[qi 4 0]
def amy :=[qm 6 0,qe 7 6,qi 8 0]
def amz :=[qk 9 .lss 8 7]
def amA :=[qm 10 8,qm 5 10]
def amB :=[qm 11 1,qm 12 0,qm 13 5,qj 14 5 12 13,qa 15 5 14,qo 16 (.call false (.t 11) [(.t 15)])]
def amC :=[qm 17 5,qm 4 17]
def amD :=[qn 18 .add 8 1,qm 8 18]
def uf:Abs.cA:=sR [0,1,7,8,9] amz (.seq (.ite (.t 9) .ep (.exit 0)) (.seq (.bL 1 (sR [0,1,5,7,8] amA (sR [0,1,5,7,8,16] amB (.ite (.t 16) (sR [4] amC .ret) .ep)))) (.cm [0,1,7,8] amD)))
def amE :=[qi 4 (-1)]
def oY:Abs.Fn:=⟨2,[.t 4],sR [0,1] amx (sL [0,1,7,8] amy 0 [0,1,7,8] false uf (sR [4] amE .ret))⟩
def amF :=[qi 4 0]
def amG :=[qm 6 0,qe 7 6,qi 8 0]
def amH :=[qk 9 .lss 8 7]
def amI :=[qm 10 8,qm 5 10]
def amJ :=[qm 11 1,qm 12 0,qm 13 5,qj 14 3 12 13,qa 15 3 14,qo 16 (.call false (.t 11) [(.t 15)])]
def amK :=[qm 17 5,qm 4 17]
def amL :=[qn 18 .add 8 1,qm 8 18]
def ue:Abs.cA:=sR [0,1,7,8,9] amH (.seq (.ite (.t 9) .ep (.exit 0)) (.seq (.bL 1 (sR [0,1,5,7,8] amI (sR [0,1,5,7,8,16] amJ (.ite (.t 16) (sR [4] amK .ret) .ep)))) (.cm [0,1,7,8] amL)))
def amM :=[qi 4 (-1)]
def oX:Abs.Fn:=⟨2,[.t 4],sR [0,1] amF (sL [0,1,7,8] amG 0 [0,1,7,8] false ue (sR [4] amM .ret))⟩
def amN :=[qb 3 false]
def amO :=[ql 4 1 1,qm 5 0,qo 6 (.call false (.t 4) [(.t 5)]),qu 7 6,qm 3 7]
def yF:Abs.Fn:=⟨2,[.t 3],sR [0,1] amN (sR [3] amO .ret)⟩
def XK :=[qx 2 0,qo 4 (.rq 1)]
def XL :=[qm 6 1,qe 7 6,qi 8 0]
def XM :=[qk 9 .lss 8 7]
def XN :=[qm 10 8,qm 5 10]
def XO :=[qm 11 4,qa 12 11 2,qm 13 1,qm 14 5,qc 15 fm [12,13,14],qo 16 (.uH 1 1 [zI] [(0,1,(.t 15))]),qy 17 1 8 11 16,qm 4 17]
def XP :=[qn 18 .add 8 1,qm 8 18]
def gL:Abs.cA:=sR [1,2,4,7,8,9] XM (.seq (.ite (.t 9) .ep (.exit 0)) (.seq (.bL 1 (sR [1,2,4,5,7,8] XN (.cm [1,2,4,7,8] XO))) (.cm [1,2,4,7,8] XP)))
def XQ :=[qm 19 4,qm 4 19]
def jR:Abs.Fn:=⟨2,[.t 4],sR [1,2,4] XK (sL [1,2,4,7,8] XL 0 [1,2,4,7,8] false gL (sR [4] XQ .ret))⟩
attribute [simp] XK XL XM XN XO XP XQ
def XR :=[qx 1 0,qo 2 (.mv (.c .ir))]
def XS :=[qo 3 (.xf iW [] [(.t 1)]),qm 2 3]
def q7:Abs.Fn:=⟨1,[.t 2],sR [1] XR (sR [2] XS .ret)⟩
attribute [simp] XR XS
def XT :=[qx 2 0,qi 4 0]
def XU :=[qa 5 11 2,qo 6 (.call false (.c (.fn dM [] [])) [(.t 5),(.c (.int .i64 1))]),qm 7 1,qj 8 1 6 7,ql 9 1 8,qm 4 9]
def oJ:Abs.Fn:=⟨2,[.t 4],sR [1,2] XT (sR [4] XU .ret)⟩
attribute [simp] XT XU
def XV :=[qx 2 0,qi 4 0]
def XW :=[qa 5 11 2,qo 6 (.call false (.c (.fn dM [] [])) [(.t 5),(.c (.int .i64 3))]),qm 7 1,qj 8 1 6 7,ql 9 1 8,qm 4 9]
def oF:Abs.Fn:=⟨2,[.t 4],sR [1,2] XV (sR [4] XW .ret)⟩
attribute [simp] XV XW
def amP :=[qx 3 1,qb 4 false]
def amQ :=[qm 5 0,qo 6 (.xf jU [] [(.t 3)]),qc 7 eD [5,6],qu 8 7,qm 4 8]
def uj:Abs.Fn:=⟨2,[.t 4],sR [0,3] amP (sR [4] amQ .ret)⟩
def XX :=[qx 1 0,qb 2 false]
def XY :=[qf 3 0 1,ql 4 1 3,qo 5 (.call false (.c (.fn bY [] [])) [(.t 4),(.c (.int .i64 1)),(.c (.int .i64 1000000))]),qm 6 5,qg 6 true (qf 7 1 1),qg 6 true (ql 8 1 7),qg 6 true (qo 9 (.call false (.c (.fn bY [] [])) [(.t 8),(.c zI),(.c (.int .i64 10000000000))])),qp 10 6 9,qm 11 10,qg 11 true (qf 12 2 1),qg 11 true (ql 13 1 12),qg 11 true (qo 14 (.call false (.c (.fn bY [] [])) [(.t 13),(.c zI),(.c (.int .i64 1000000000000))])),qp 15 11 14,qm 2 15]
def oA:Abs.Fn:=⟨1,[.t 2],sR [1] XX (sR [2] XY .ret)⟩
attribute [simp] XX XY
def XZ :=[qi 4 0]
def X0 :=[qo 10 (.mp (.make) []),qm 5 10]
def X2 :=[qm 11 0,qe 12 11,qi 13 0]
def X3 :=[qk 14 .lss 13 12]
def X4 :=[qj 15 2 11 13,qa 16 2 15,qo 7 (.dT [] [(.str []),.aI]),qs 7 2 7 16]
def X5 :=[qm 18 1,qw 19 7 2 7,qo 20 (.call false (.t 18) [(.t 19)]),qm 17 20,qz 21 17 0,qz 22 17 1,qm 8 21,qm 9 22]
def X6 :=[qm 23 9,qn 24 .neq 23 0]
def X7 :=[qm 25 9,qm 4 25]
def X8 :=[qm 26 5,qm 27 8,qo 28 (.mp (.get none (.bool false) false) [(.t 26),(.t 27)])]
def X9 :=[qi 4 6]
def NF :=[qm 29 5,qm 30 8,⟨none,none,false,.mp (.put none) [(.t 29),(.t 30),(.c (.bool true))]⟩]
def NG :=[qn 31 .add 13 1,qm 13 31]
def fV:Abs.cA:=sR [1,5,11,12,13,14] X3 (.seq (.ite (.t 14) .ep (.exit 0)) (.seq (.bL 1 (sR [1,5,7,11,12,13] X4 (sR [1,5,8,9,11,12,13] X5 (sE [1,5,8,9,11,12,13,24] X6 24 [4] X7 (sE [1,5,8,11,12,13,28] X8 28 [4] X9 (.cm [1,5,11,12,13] NF)))))) (.cm [1,5,11,12,13] NG)))
def NH :=[qi 4 0]
def jn:Abs.Fn:=⟨2,[.t 4],sR [0,1] XZ (sR [0,1,5] X0 (sL [1,5,11,12,13] X2 0 [1,5,11,12,13] false fV (sR [4] NH .ret)))⟩
attribute [simp] XZ X0 X2 X3 X4 X5 X6 X7 X8 X9 NF NG NH
def Ya :=[qx 2 0,qo 3 (.mv (.c (.str []))),qi 4 0]
def Yb :=[qF 5 0 2,qL 6 1 5,qA 7 4 1,qA 8 2 2,qC 9 ic [7,8],qm 3 6,qm 4 9]
def kz:Abs.Fn:=⟨2,[.t 3,.t 4],sR [1,2] Ya (sR [3,4] Yb .ret)⟩
attribute [simp] Ya Yb
def amR :=[qi 4 0]
def amS :=[qm 6 0,qe 7 6,qi 8 0]
def amT :=[qk 9 .lss 8 7]
def amU :=[qm 10 8,qm 5 10]
def amV :=[qm 11 1,qm 12 0,qm 13 5,qj 14 2 12 13,qa 15 2 14,qo 16 (.call false (.t 11) [(.t 15)])]
def amW :=[qm 17 5,qm 4 17]
def amX :=[qn 18 .add 8 1,qm 8 18]
def tc:Abs.cA:=sR [0,1,7,8,9] amT (.seq (.ite (.t 9) .ep (.exit 0)) (.seq (.bL 1 (sR [0,1,5,7,8] amU (sR [0,1,5,7,8,16] amV (.ite (.t 16) (sR [4] amW .ret) .ep)))) (.cm [0,1,7,8] amX)))
def amY :=[qi 4 (-1)]
def nQ:Abs.Fn:=⟨2,[.t 4],sR [0,1] amR (sL [0,1,7,8] amS 0 [0,1,7,8] false tc (sR [4] amY .ret))⟩
def amZ :=[qi 4 0]
def am0 :=[qm 6 0,qe 7 6,qi 8 0]
def am1 :=[qk 9 .lss 8 7]
def am2 :=[qm 10 8,qm 5 10]
def am3 :=[qm 11 1,qm 12 0,qm 13 5,qj 14 2 12 13,qa 15 2 14,qo 16 (.call false (.t 11) [(.t 15)])]
def am4 :=[qm 17 5,qm 4 17]
def am5 :=[qn 18 .add 8 1,qm 8 18]
def tH:Abs.cA:=sR [0,1,7,8,9] am1 (.seq (.ite (.t 9) .ep (.exit 0)) (.seq (.bL 1 (sR [0,1,5,7,8] am2 (sR [0,1,5,7,8,16] am3 (.ite (.t 16) (sR [4] am4 .ret) .ep)))) (.cm [0,1,7,8] am5)))
def am6 :=[qi 4 (-1)]
def oc:Abs.Fn:=⟨2,[.t 4],sR [0,1] amZ (sL [0,1,7,8] am0 0 [0,1,7,8] false tH (sR [4] am6 .ret))⟩
def am7 :=[qi 4 0]
def am8 :=[qm 6 0,qe 7 6,qi 8 0]
def am9 :=[qk 9 .lss 8 7]
def ana :=[qm 10 8,qm 5 10]
def anb :=[qm 11 1,qm 12 0,qm 13 5,qj 14 4 12 13,qa 15 4 14,qo 16 (.call false (.t 11) [(.t 15)])]
def anc :=[qm 17 5,qm 4 17]
def ane :=[qn 18 .add 8 1,qm 8 18]
def sy:Abs.cA:=sR [0,1,7,8,9] am9 (.seq (.ite (.t 9) .ep (.exit 0)) (.seq (.bL 1 (sR [0,1,5,7,8] ana (sR [0,1,5,7,8,16] anb (.ite (.t 16) (sR [4] anc .ret) .ep)))) (.cm [0,1,7,8] ane)))
def anf :=[qi 4 (-1)]
def nf:Abs.Fn:=⟨2,[.t 4],sR [0,1] am7 (sL [0,1,7,8] am8 0 [0,1,7,8] false sy (sR [4] anf .ret))⟩
def Yc :=[qF 6 0 1,qF 7 0 6,qL 8 1 7,qF 9 0 1,qF 10 1 9,qL 11 1 10,qM 3 8,qm 4 11]
def Yd :=[qa 12 9 1,qc 13 cV [12],qi 14 0]
def Ye :=[qk 15 .lss 14 13]
def Yf :=[qm 16 14,qm 5 16]
def Yg :=[qm 17 5,qn 18 .add 17 1,qm 19 3,qk 20 .rem 18 19,qn 21 .neq 20 0,qm 22 21,qg 22 true (qm 23 0),qg 22 true (qm 24 5),qg 22 true (qm 25 5),qg 22 true (qn 26 .add 25 1),qg 22 true (qo 27 (.lf [zI,zI] [(0,1,(.t 24)),(1,1,(.t 26))])),qg 22 true (qo 28 (.call false (.t 23) [(.t 27)])),qg 22 true (qu 29 28),qp 30 22 29]
def Yh :=[qm 31 5,qm 32 3,qk 33 .quo 31 32,qm 34 4,qk 35 .rem 33 34,qm 36 4,qn 37 .sub 36 1,qk 38 .neq 35 37,qm 39 38,qg 39 true (qm 40 0),qg 39 true (qm 41 5),qg 39 true (qm 42 5),qg 39 true (qm 43 3),qg 39 true (qk 44 .add 42 43),qg 39 true (qo 45 (.lf [zI,zI] [(0,1,(.t 41)),(1,1,(.t 44))])),qg 39 true (qo 46 (.call false (.t 40) [(.t 45)])),qg 39 true (qu 47 46),qp 48 39 47]
def Yi :=[qm 49 5,qm 50 3,qm 51 4,qk 52 .mul 50 51,qk 53 .add 49 52,qa 54 9 1,qc 55 cV [54],qk 56 .lss 53 55,qm 57 56,qg 57 true (qm 58 0),qg 57 true (qm 59 5),qg 57 true (qm 60 5),qg 57 true (qm 61 3),qg 57 true (qm 62 4),qg 57 true (qk 63 .mul 61 62),qg 57 true (qk 64 .add 60 63),qg 57 true (qo 65 (.lf [zI,zI] [(0,1,(.t 59)),(1,1,(.t 64))])),qg 57 true (qo 66 (.call false (.t 58) [(.t 65)])),qg 57 true (qu 67 66),qp 68 57 67]
def Yj :=[qn 69 .add 14 1,qm 14 69]
def lT:Abs.cA:=sR [0,1,3,4,13,14,15] Ye (.seq (.ite (.t 15) .ep (.exit 0)) (.seq (.bL 1 (sR [0,1,3,4,5,13,14] Yf (sI [0,1,3,4,5,13,14,30] Yg 30 .ret .ep (sI [0,1,3,4,5,13,14,48] Yh 48 .ret .ep (sR [0,1,3,4,13,14,68] Yi (.ite (.t 68) .ret .ep)))))) (.cm [0,1,3,4,13,14] Yj)))
def ou:Abs.Fn:=⟨2,[],sR [0,1,3,4] Yc (sR [0,1,3,4,13,14] Yd (.bL 0 (.loop [0,1,3,4,13,14] false lT)))⟩
attribute [simp] Yc Yd Ye Yf Yg Yh Yi Yj
def ang :=[qb 4 false]
def anh :=[qm 5 0,qm 6 1,qc 7 fJ [5,6],qn 8 .geq 7 0,qm 4 8]
def mE:Abs.Fn:=⟨2,[.t 4],sR [0,1] ang (sR [4] anh .ret)⟩
def ani :=[qx 2 0,qb 3 false]
def anj :=[ql 4 1 1,qa 5 3 2,qo 6 (.call false (.t 4) [(.t 5)]),qu 7 6,qm 3 7]
def sP:Abs.Fn:=⟨2,[.t 3],sR [1,2] ani (sR [3] anj .ret)⟩
def ank :=[qi 4 0]
def anl :=[qm 6 0,qe 7 6,qi 8 0]
def anm :=[qk 9 .lss 8 7]
def ano :=[qm 10 8,qm 5 10]
def anp :=[qm 11 1,qm 12 0,qm 13 5,qj 14 3 12 13,qa 15 3 14,qo 16 (.call false (.t 11) [(.t 15)])]
def anq :=[qm 17 5,qm 4 17]
def anr :=[qn 18 .add 8 1,qm 8 18]
def tI:Abs.cA:=sR [0,1,7,8,9] anm (.seq (.ite (.t 9) .ep (.exit 0)) (.seq (.bL 1 (sR [0,1,5,7,8] ano (sR [0,1,5,7,8,16] anp (.ite (.t 16) (sR [4] anq .ret) .ep)))) (.cm [0,1,7,8] anr)))
def ans :=[qi 4 (-1)]
def od:Abs.Fn:=⟨2,[.t 4],sR [0,1] ank (sL [0,1,7,8] anl 0 [0,1,7,8] false tI (sR [4] ans .ret))⟩
def tF3:List (Nat×uc×Abs.Fn):=[A0 na rS,A0 iX ov,A2 [] ct dn [] [2,5],(ki,BP,nE),A2 [] bV pD [] [0],A3 [] mN pF [] [4] [4] [] [],A3 [] kY rj [] [4] [4] [] [],A3 [] mP pI [] [4] [4] [] [],A0 kj nF,A0 fM lI,A0 jB mq,A0 dY l6,A0 ju rP,A0 fa mC,A0 vg xw,A0 jT pH,A0 ig nC,A0 ja oE,A0 eC mD,A0 jr rN,A0 dN lj,A0 gQ pZ,A3 [] ie nA [] [2,5] [5] [] [],A0 fX oY,A0 fW oX,A0 nU yF,A2 [] gA jR [] [4],A0 nS q7,A0 jd oJ,A0 jb oF,A0 lX uj,A0 iZ oA,A3 [] fS jn [] [7] [7] [] [],A0 dK kz,A0 fp nQ,A0 fI oc,A0 eM nf,A0 iW ou,A0 eD mE,A0 jU sP,A0 fJ od]
theorem kF3:(tF3.map fun p=>chk p)=tF3.map fun p=>some p.2.2:=by kernel_rfl
end Go.Proofs.YtklfdfnoebnciaaGreatDoor
