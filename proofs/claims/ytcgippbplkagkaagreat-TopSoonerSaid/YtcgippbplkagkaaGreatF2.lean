import Derived.Test.YtcgippbplkagkaaGreatIds
set_option linter.all false
set_option maxRecDepth 100000
namespace Go.Proofs.YtcgippbplkagkaaGreat
open Go Go.Abs
def Hs :=[qx 1 0,qb 2 false]
def Ht :=[qf 3 0 1,ql 4 1 3,qo 5 (.call false (.c (.fn bN [] [])) [(.t 4),(.c (.int .i64 1)),(.c (.int .i64 1000000))]),qm 6 5,qg 6 true (qf 7 1 1),qg 6 true (ql 8 1 7),qg 6 true (qo 9 (.call false (.c (.fn bN [] [])) [(.t 8),(.c zI),(.c (.int .i64 10000000000))])),qp 10 6 9,qm 11 10,qg 11 true (qf 12 2 1),qg 11 true (ql 13 1 12),qg 11 true (qo 14 (.call false (.c (.fn bN [] [])) [(.t 13),(.c zI),(.c (.int .i64 1000000000000))])),qp 15 11 14,qm 2 15]
def jJ:Abs.Fn:=⟨1,[.t 2],sR [1] Hs (sR [2] Ht .ret)⟩
attribute [simp] Hs Ht
def UF :=[qi 4 0]
def UG :=[qm 6 0,qe 7 6,qi 8 0]
def UH :=[qk 9 .lss 8 7]
def UI :=[qm 10 8,qm 5 10]
def UJ :=[qm 11 1,qm 12 0,qm 13 5,qj 14 5 12 13,qa 15 5 14,qo 16 (.call false (.t 11) [(.t 15)])]
def UK :=[qm 17 5,qm 4 17]
def UL :=[qn 18 .add 8 1,qm 8 18]
def nc:Abs.bQ:=sR [0,1,7,8,9] UH (.seq (.ite (.t 9) .ei (.exit 0)) (.seq (.bu 1 (sR [0,1,5,7,8] UI (sR [0,1,5,7,8,16] UJ (.ite (.t 16) (sR [4] UK .ret) .ei)))) (.cL [0,1,7,8] UL)))
def UM :=[qi 4 (-1)]
def jZ:Abs.Fn:=⟨2,[.t 4],sR [0,1] UF (sL [0,1,7,8] UG 0 [0,1,7,8] false nc (sR [4] UM .ret))⟩
def Hu :=[qx 3 0,qi 6 0]
def Hv :=[qA 10 11 3,qM 11 2,qC 12 da [10,11],qF 13 0 3,qF 14 5 13,qL 15 1 14,qM 16 1,qM 17 2,qJ 18 3 16 17,qF 19 0 18,qL 20 1 19,qA 21 11 3,qM 22 2,qC 23 c8 [21,22],qK 24 .sub 20 23,qK 25 .mul 15 24,qA 26 11 3,qM 27 2,qC 28 c8 [26,27],qc 29 n8 [25,28],qk 30 .add 12 29,qo 31 (.mx (.c zI) (.t 30)),qm 7 31]
def Hw :=[qf 32 0 3,qf 33 4 32,ql 34 1 33,qe 35 34,qi 36 0]
def Hx :=[qk 37 .lss 36 35]
def Hy :=[qj 38 5 34 36,qa 39 5 38,qo 9 (.fR [] [zI,zI,zI,zI,zI]),qs 9 5 9 39]
def Hz :=[qF 40 2 9,qV 41 9 1 40,qM 42 1,qM 43 2,qJ 44 3 42 43,qF 45 0 44,qL 46 1 45,qK 47 .mul 41 46,qM 48 1,qM 49 2,qJ 50 3 48 49,qF 51 1 50,qL 52 1 51,qk 53 .leq 47 52]
def HA :=[qm 54 7,qf 55 1 9,qv 56 9 1 55,qo 57 (.mx (.t 54) (.t 56)),qm 7 57]
def HB :=[qn 58 .add 36 1,qm 36 58]
def eA:Abs.bQ:=sR [1,2,7,34,35,36,37] Hx (.seq (.ite (.t 37) .ei (.exit 0)) (.seq (.bu 1 (sR [1,2,7,9,34,35,36] Hy (sR [1,2,7,9,34,35,36,53] Hz (.ite (.t 53) (.cL [1,2,7,34,35,36] HA) .ei)))) (.cL [1,2,7,34,35,36] HB)))
def HC :=[qm 59 7,qm 6 59]
def fY:Abs.Fn:=⟨3,[.t 6],sR [1,2,3] Hu (sR [1,2,3,7] Hv (sL [1,2,7,34,35,36] Hw 0 [1,2,7,34,35,36] false eA (sR [6] HC .ret)))⟩
attribute [simp] Hu Hv Hw Hx Hy Hz HA HB HC
def HD :=[qF 6 0 1,qF 7 0 6,qL 8 1 7,qF 9 0 1,qF 10 1 9,qL 11 1 10,qM 3 8,qm 4 11]
def HE :=[qa 12 9 1,qc 13 cj [12],qi 14 0]
def HF :=[qk 15 .lss 14 13]
def HG :=[qm 16 14,qm 5 16]
def HH :=[qm 17 5,qn 18 .add 17 1,qm 19 3,qk 20 .rem 18 19,qn 21 .neq 20 0,qm 22 21,qg 22 true (qm 23 0),qg 22 true (qm 24 5),qg 22 true (qm 25 5),qg 22 true (qn 26 .add 25 1),qg 22 true (qo 27 (.o7 [zI,zI] [(0,1,(.t 24)),(1,1,(.t 26))])),qg 22 true (qo 28 (.call false (.t 23) [(.t 27)])),qg 22 true (qu 29 28),qp 30 22 29]
def HI :=[qm 31 5,qm 32 3,qk 33 .quo 31 32,qm 34 4,qk 35 .rem 33 34,qm 36 4,qn 37 .sub 36 1,qk 38 .neq 35 37,qm 39 38,qg 39 true (qm 40 0),qg 39 true (qm 41 5),qg 39 true (qm 42 5),qg 39 true (qm 43 3),qg 39 true (qk 44 .add 42 43),qg 39 true (qo 45 (.o7 [zI,zI] [(0,1,(.t 41)),(1,1,(.t 44))])),qg 39 true (qo 46 (.call false (.t 40) [(.t 45)])),qg 39 true (qu 47 46),qp 48 39 47]
def HJ :=[qm 49 5,qm 50 3,qm 51 4,qk 52 .mul 50 51,qk 53 .add 49 52,qa 54 9 1,qc 55 cj [54],qk 56 .lss 53 55,qm 57 56,qg 57 true (qm 58 0),qg 57 true (qm 59 5),qg 57 true (qm 60 5),qg 57 true (qm 61 3),qg 57 true (qm 62 4),qg 57 true (qk 63 .mul 61 62),qg 57 true (qk 64 .add 60 63),qg 57 true (qo 65 (.o7 [zI,zI] [(0,1,(.t 59)),(1,1,(.t 64))])),qg 57 true (qo 66 (.call false (.t 58) [(.t 65)])),qg 57 true (qu 67 66),qp 68 57 67]
def HK :=[qn 69 .add 14 1,qm 14 69]
def gL:Abs.bQ:=sR [0,1,3,4,13,14,15] HF (.seq (.ite (.t 15) .ei (.exit 0)) (.seq (.bu 1 (sR [0,1,3,4,5,13,14] HG (sI [0,1,3,4,5,13,14,30] HH 30 .ret .ei (sI [0,1,3,4,5,13,14,48] HI 48 .ret .ei (sR [0,1,3,4,13,14,68] HJ (.ite (.t 68) .ret .ei)))))) (.cL [0,1,3,4,13,14] HK)))
def jG:Abs.Fn:=⟨2,[],sR [0,1,3,4] HD (sR [0,1,3,4,13,14] HE (.bu 0 (.loop [0,1,3,4,13,14] false gL)))⟩
attribute [simp] HD HE HF HG HH HI HJ HK
def UN :=[qb 4 false]
def UO :=[qm 5 0,qm 6 1,qc 7 dq [5,6],qn 8 .geq 7 0,qm 4 8]
def iC:Abs.Fn:=⟨2,[.t 4],sR [0,1] UN (sR [4] UO .ret)⟩
def UP :=[qx 2 0,qb 3 false]
def UQ :=[ql 4 1 1,qa 5 3 2,qo 6 (.call false (.t 4) [(.t 5)]),qu 7 6,qm 3 7]
def mh:Abs.Fn:=⟨2,[.t 3],sR [1,2] UP (sR [3] UQ .ret)⟩
def HL :=[qi 4 0]
def HM :=[qm 6 0,qm 7 1,qk 8 .quo 6 7,qm 5 8]
def HN :=[qm 9 5,qm 10 1,qk 11 .mul 9 10,qm 12 0,qk 13 .gtr 11 12]
def HO :=[qm 14 5,qn 15 .sub 14 1,qm 5 15]
def HP :=[qm 16 5,qm 4 16]
def po:Abs.Fn:=⟨2,[.t 4],sR [0,1] HL (sR [0,1,5] HM (sI [5,13] HN 13 (.cL [5] HO) .ei (sR [4] HP .ret)))⟩
attribute [simp] HL HM HN HO HP
def UR :=[qi 4 0]
def US :=[qm 6 0,qe 7 6,qi 8 0]
def UT :=[qk 9 .lss 8 7]
def UU :=[qm 10 8,qm 5 10]
def UW :=[qm 11 1,qm 12 0,qm 13 5,qj 14 3 12 13,qa 15 3 14,qo 16 (.call false (.t 11) [(.t 15)])]
def UX :=[qm 17 5,qm 4 17]
def UY :=[qn 18 .add 8 1,qm 8 18]
def mM:Abs.bQ:=sR [0,1,7,8,9] UT (.seq (.ite (.t 9) .ei (.exit 0)) (.seq (.bu 1 (sR [0,1,5,7,8] UU (sR [0,1,5,7,8,16] UW (.ite (.t 16) (sR [4] UX .ret) .ei)))) (.cL [0,1,7,8] UY)))
def UZ :=[qi 4 (-1)]
def jy:Abs.Fn:=⟨2,[.t 4],sR [0,1] UR (sL [0,1,7,8] US 0 [0,1,7,8] false mM (sR [4] UZ .ret))⟩
def tF2:List (Nat×nv×Abs.Fn):=[A0 eL jJ,A0 dD jZ,A3 [] dZ fY [] [9] [9] [] [],A0 eJ jG,A0 cQ iC,A0 fB mh,A0 n8 po,A0 dq jy]
theorem kF2:(tF2.map fun p=>XF p)=tF2.map fun p=>some p.2.2:=by kernel_rfl
end Go.Proofs.YtcgippbplkagkaaGreat
