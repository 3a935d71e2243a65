import Derived.Test.YtfgljaglidhjiaaGreatDoorIds
set_option linter.all false
set_option maxRecDepth 100000
namespace Go.Proofs.YtfgljaglidhjiaaGreatDoor
open Go Go.Abs
def alJ :=[qx 2 0,qi 4 0]
def alK :=[qm 8 1,qe 9 8,qn 10 .gtr 9 200]
def alL :=[qi 4 3]
def alM :=[qm 11 1,qe 12 11,qi 13 0]
def alN :=[qk 14 .lss 13 12]
def alO :=[qj 15 1 11 13,ql 16 1 15,qm 6 16]
def alP :=[qa 17 9 2,qm 18 6,qc 19 oN [17,18],qm 7 19]
def alQ :=[qm 20 7,qn 21 .neq 20 0]
def alR :=[qm 22 7,qm 4 22]
def alS :=[qn 23 .add 13 1,qm 13 23]
def oq:Abs.cF:=sR [2,11,12,13,14] alN (.seq (.ite (.t 14) .eo (.exit 0)) (.seq (.bO 1 (sR [2,6,11,12,13] alO (sR [2,7,11,12,13] alP (sR [2,7,11,12,13,21] alQ (.ite (.t 21) (sR [4] alR .ret) .eo))))) (.cr [2,11,12,13] alS)))
def aeg :=[qi 4 0]
def tp:Abs.Fn:=⟨2,[.t 4],sR [1,2] alJ (sE [1,2,10] alK 10 [4] alL (sL [2,11,12,13] alM 0 [2,11,12,13] false oq (sR [4] aeg .ret)))⟩
attribute [simp] alJ alK alL alM alN alO alP alQ alR alS aeg
def alT :=[qx 2 0,qo 4 (.fm [(0,1),(1,1)] [.aK,.aK])]
def alU :=[qa 10 11 2,qc 11 je [10],qo 12 (.MX 1 1 [.aK] [(0,1,(.t 11))]),qf 13 0 4,⟨none,none,false,.Gt 4 [(0,1),(1,1)] 1 13 (.t 12)⟩]
def alV :=[qm 14 1,qe 15 14,qi 16 0]
def alW :=[qk 17 .lss 16 15]
def alX :=[qm 18 16,qj 19 1 14 16,ql 20 1 19,qm 5 18,qm 6 20]
def alY :=[qA 22 11 2,qF 23 0 4,qV 24 4 1 23,qM 25 5,qJ 26 1 24 25,qL 27 1 26,qM 28 6,qC 29 my [22,27,28],qM 21 29,qZ 30 21 0,qZ 31 21 1,qZ 32 21 2,qM 7 30,qM 8 31,qm 9 32]
def alZ :=[qm 33 9,qn 34 .neq 33 0]
def al0 :=[qo 35 (.l9 [] []),qo 36 (.mki 262 (.t 35))]
def al1:List Abs.Op:=[]
def al2 :=[qF 37 0 4,qV 38 4 1 37,qM 39 7,qO 40 (.uU 1 1 [.aK] [(0,1,(.t 39))]),qO 41 (.app 1 24 (.t 38) (.t 40)),qF 42 1 4,qV 43 4 1 42,qM 44 8,qO 45 (.uU 1 1 [.aK] [(0,1,(.t 44))]),qO 46 (.app 1 24 (.t 43) (.t 45)),qF 47 0 4,⟨none,none,false,.Gt 4 [(0,1),(1,1)] 1 47 (.t 41)⟩,qf 48 1 4,⟨none,none,false,.Gt 4 [(0,1)] 1 48 (.t 46)⟩]
def aeh :=[qn 49 .add 16 1,qm 16 49]
def mO:Abs.cF:=sR [2,4,14,15,16,17] alW (.seq (.ite (.t 17) .eo (.exit 0)) (.seq (.bO 1 (sR [2,4,5,6,14,15,16] alX (sR [2,4,7,8,9,14,15,16] alY (sI [2,4,7,8,14,15,16,34] alZ 34 (.iY [2,4,7,8,14,15,16] al0 ⟨none,none,false,.MZ (.t 36)⟩ al1) .eo (.cr [2,4,14,15,16] al2))))) (.cr [2,4,14,15,16] aeh)))
def aei :=[qw 50 4 2 4,⟨none,none,false,.Gt 4 [(0,1),(1,1)] 2 4 (.t 50)⟩]
def nD:Abs.Fn:=⟨2,[.v 4 true 2],sR [1,2,4] alT (sR [1,2,4] alU (sL [2,4,14,15,16] alV 0 [2,4,14,15,16] false mO (sR [4] aei .ret)))⟩
attribute [simp] alT alU alV alW alX alY alZ al0 al1 al2 aeh aei
def al3 :=[qb 2 false]
def al4 :=[qm 6 0,qe 7 6,qo 8 (.call false (.c (.fn dA [] [])) [(.t 7),(.c (.int .i64 2)),(.c (.int .i64 20))]),qu 9 8,qm 10 9,qg 10 false (qm 11 0),qg 10 false (qo 12 (.call false (.c (.fn jA [] [])) [(.t 11),(.c (.fn kM [] []))])),qg 10 false (qu 13 12),qP 14 10 13]
def al5 :=[qb 2 false]
def al6 :=[qm 15 0,qo 16 (.IF 5 (.t 15) (some (.c (.int .i64 1))) none none),qe 17 16,qi 18 0]
def al7 :=[qk 19 .lss 18 17]
def al8 :=[qm 20 18,qj 21 5 16 18,qa 22 5 21,qo 4 (.fm [] [zI,zI,zI,zI,zI]),qm 3 20,qs 4 5 4 22]
def al9 :=[qm 23 0,qm 24 3,qj 25 5 23 24,qa 26 5 25,qo 5 (.fm [] [zI,zI,zI,zI,zI]),qs 5 5 5 26]
def ama :=[qf 27 0 4,qv 28 4 1 27,qf 29 0 5,qv 30 5 1 29,qk 31 .leq 28 30,qm 32 31,qg 32 false (qf 33 1 4),qg 32 false (qv 34 4 1 33),qg 32 false (qf 35 1 5),qg 32 false (qv 36 5 1 35),qg 32 false (qk 37 .leq 34 36),qP 38 32 37,qm 39 38,qg 39 false (qf 40 2 4),qg 39 false (qv 41 4 1 40),qg 39 false (qf 42 2 5),qg 39 false (qv 43 5 1 42),qg 39 false (qk 44 .leq 41 43),qP 45 39 44,qm 46 45,qg 46 false (qf 47 4 4),qg 46 false (qv 48 4 1 47),qg 46 false (qf 49 4 5),qg 46 false (qv 50 5 1 49),qg 46 false (qk 51 .lss 48 50),qP 52 46 51]
def amb :=[qb 2 false]
def amc :=[qn 53 .add 18 1,qm 18 53]
def kH:Abs.cF:=sR [0,16,17,18,19] al7 (.seq (.ite (.t 19) .eo (.exit 0)) (.seq (.bO 1 (sR [0,3,4,16,17,18] al8 (sR [0,4,5,16,17,18] al9 (sR [0,16,17,18,52] ama (.ite (.t 52) (sR [2] amb .ret) .eo))))) (.cr [0,16,17,18] amc)))
def aej :=[qb 2 true]
def oE:Abs.Fn:=⟨1,[.t 2],sR [0] al3 (sE [0,14] al4 14 [2] al5 (sL [0,16,17,18] al6 0 [0,16,17,18] false kH (sR [2] aej .ret)))⟩
attribute [simp] al3 al4 al5 al6 al7 al8 al9 ama amb amc aej
def amd :=[qb 4 false]
def ame :=[qm 5 1,qm 6 0,qe 7 6,qn 8 .sub 7 1,qo 9 (.call false (.c (.fn dA [] [])) [(.t 5),(.c zI),(.t 8)]),qm 4 9]
def rD:Abs.Fn:=⟨2,[.t 4],sR [0,1] amd (sR [4] ame .ret)⟩
attribute [simp] amd ame
def amf :=[qx 1 0,qb 2 false]
def amg :=[qf 3 0 1,ql 4 1 3,qo 5 (.call false (.c (.fn dA [] [])) [(.t 4),(.c zI),(.c (.int .i64 1000000))]),qm 6 5,qg 6 true (qf 7 1 1),qg 6 true (ql 8 1 7),qg 6 true (qf 9 0 1),qg 6 true (ql 10 1 9),qg 6 true (qo 11 (.bin .mul (.c (.int .i64 4000)) (.t 10))),qg 6 true (qo 12 (.call false (.c (.fn dA [] [])) [(.t 8),(.c zI),(.t 11)])),qp 13 6 12,qm 14 13,qg 14 true (qf 15 2 1),qg 14 true (ql 16 1 15),qg 14 true (qf 17 0 1),qg 14 true (ql 18 1 17),qg 14 true (qo 19 (.bin .mul (.c (.int .i64 10000)) (.t 18))),qg 14 true (qo 20 (.call false (.c (.fn dA [] [])) [(.t 16),(.c zI),(.t 19)])),qp 21 14 20,qm 22 21,qg 22 true (qf 23 3 1),qg 22 true (ql 24 1 23),qg 22 true (qo 25 (.call false (.c (.fn dA [] [])) [(.t 24),(.c zI),(.c (.int .i64 1000000000))])),qp 26 22 25,qm 2 26]
def nI:Abs.Fn:=⟨1,[.t 2],sR [1] amf (sR [2] amg .ret)⟩
attribute [simp] amf amg
def amh :=[qo 4 (.fm [] [zI,zI,zI,zI,zI])]
def ami :=[qm 5 0,qm 6 1,qj 7 5 5 6,qa 8 5 7,qo 9 (.l9 [zI,zI,zI,zI,zI] [(0,5,(.t 8))]),qs 4 5 4 9]
def sn:Abs.Fn:=⟨2,[.v 4 true 5],sR [0,1,4] amh (sR [4] ami .ret)⟩
attribute [simp] amh ami
def amj :=[qx 2 0,qx 3 1,qo 4 (.fm [] [zI,zI,zI,zI,zI,zI,zI,zI,zI,zI])]
def amk :=[qa 7 5 2,qa 8 4 3,qc 9 ln [7,8],qm 5 9]
def aml :=[qm 35 5,qn 36 .eql 35 0,qm 34 36]
def amm :=[qa 37 4 3,qf 38 4 4,qs 4 4 38 37]
def amn :=[qm 40 5,qf 41 0 3,ql 42 1 41,qk 43 .eql 40 42,qm 39 43]
def amo :=[qm 44 5,qf 45 1 3,ql 46 1 45,qf 47 3 3,ql 48 1 47,qo 49 (.l9 [zI,zI,zI,zI] [(0,1,(.t 44)),(1,1,(.t 46)),(3,1,(.t 48))]),qf 50 0 4,qs 4 4 50 49]
def amp :=[qm 10 5,qm 11 5,qf 12 0 2,qf 13 3 12,ql 14 1 13,qk 15 .mul 11 14,qf 16 3 3,ql 17 1 16,qo 18 (.l9 [zI,zI,zI,zI] [(0,1,(.t 10)),(1,1,(.t 15)),(3,1,(.t 17))]),qf 19 0 4,qs 4 4 19 18]
def amq :=[qf 20 0 3,ql 21 1 20,qm 22 5,qk 23 .sub 21 22,qf 24 1 3,ql 25 1 24,qm 26 5,qf 27 0 2,qf 28 3 27,ql 29 1 28,qk 30 .mul 26 29,qk 31 .sub 25 30,qo 32 (.l9 [zI,zI,zI,zI] [(0,1,(.t 23)),(1,1,(.t 31))]),qf 33 4 4,qs 4 4 33 32]
def amr :=[qf 51 2 3,ql 52 1 51,qf 53 4 4,qf 54 0 53,qv 55 4 1 54,qf 56 0 2,qf 57 4 56,ql 58 1 57,qk 59 .mul 55 58,qo 60 (.mn (.t 52) (.t 59)),qm 6 60]
def ams :=[qM 61 6,qF 62 2 3,qL 63 1 62,qM 64 6,qK 65 .sub 63 64,qF 66 4 4,qF 67 2 66,qS 4 1 67 61,qf 68 9 4,qs 4 1 68 65]
def aek :=[qf 69 4 4,qf 70 0 69,qv 71 4 1 70,qn 72 .gtr 71 0]
def ael :=[qf 73 4 4,qf 74 1 73,qv 75 4 1 74,qf 76 4 4,qf 77 0 76,qv 78 4 1 77,qf 79 0 2,qf 80 2 79,ql 81 1 80,qk 82 .mul 78 81,qk 83 .sub 75 82,qo 84 (.mx (.c zI) (.t 83)),qf 85 8 4,qs 4 1 85 84]
def aem :=[qw 86 4 10 4,qs 4 10 4 86]
def so:Abs.Fn:=⟨2,[.v 4 true 10],sR [2,3,4] amj (sR [2,3,4,5] amk (.seq (.bO 0 (sR [2,3,4,5,34] aml (.ite (.t 34) (.cr [2,3,4] amm) (sR [2,3,4,5,39] amn (.ite (.t 39) (.cr [2,3,4] amo) (sR [2,3,4,5] amp (.cr [2,3,4] amq))))))) (sR [2,3,4,6] amr (sR [2,4] ams (sI [2,4,72] aek 72 (.cr [4] ael) .eo (sR [4] aem .ret))))))⟩
attribute [simp] amj amk aml amm amn amo amp amq amr ams aek ael aem
def amu :=[qx 1 0,qb 2 false]
def amv :=[qo 3 (.Hg [] [zI]),⟨none,none,false,.st [] 1 (.t 3) (.c (.int .i64 1000))⟩]
def amw :=[qf 4 0 1,ql 5 1 4,qo 6 (.call false (.c (.fn kh [] [])) [(.t 5),(.c zI),(.c (.int .i64 5))]),qm 7 6,qg 7 true (qf 8 1 1),qg 7 true (ql 9 1 8),qg 7 true (qe 10 9),qg 7 true (qo 11 (.call false (.c (.fn kh [] [])) [(.t 10),(.c (.int .i64 1)),(.c (.int .i64 8))])),qp 12 7 11,qm 13 12,qg 13 true (qf 14 1 1),qg 13 true (ql 15 1 14),qg 13 true (qo 16 (.xW eg [] [(.t 3)])),qg 13 true (qc 17 iN [15,16]),qp 18 13 17,qm 2 18]
def pj:Abs.Fn:=⟨1,[.t 2],sR [1] amu (sR [1,3] amv (sR [2] amw .ret))⟩
attribute [simp] amu amv amw
def amx :=[qb 2 false]
def amy :=[qm 3 0,qo 4 (.call false (.c (.fn j4 [] [])) [(.t 3),(.c (.fn nf [] []))]),qm 2 4]
def vA:Abs.Fn:=⟨1,[.t 2],sR [0] amx (sR [2] amy .ret)⟩
attribute [simp] amx amy
def Ud :=[qx 1 0,qi 2 0]
def Ue :=[qf 5 1 1,ql 6 1 5,qe 7 6,qi 8 0]
def Uf :=[qk 9 .lss 8 7]
def Ug :=[qj 10 2 6 8,qa 11 2 10,qo 4 (.fm [] [zI,zI]),qs 4 2 4 11]
def Uh :=[qm 12 2,qf 13 0 4,qv 14 4 1 13,qk 15 .add 12 14,qm 2 15]
def Ui :=[qn 16 .add 8 1,qm 8 16]
def jY:Abs.cF:=sR [2,6,7,8,9] Uf (.seq (.ite (.t 9) .eo (.exit 0)) (.seq (.bO 1 (sR [2,4,6,7,8] Ug (.cr [2,6,7,8] Uh))) (.cr [2,6,7,8] Ui)))
def Uj :=[qm 17 2,qm 2 17]
def mJ:Abs.Fn:=⟨1,[.t 2],sR [1,2] Ud (sL [2,6,7,8] Ue 0 [2,6,7,8] false jY (sR [2] Uj .ret))⟩
attribute [simp] Ud Ue Uf Ug Uh Ui Uj
def Uk :=[qx 2 0,qo 4 (.Hg [] [zI])]
def Ul :=[qa 7 2 2,qm 8 1,qo 9 (.call true (.c (.fn nP [] [])) [(.t 7),(.t 8)])]
def Um :=[qo 5 (.fm [] [zI,zI]),qs 5 2 5 10]
def Un :=[qm 6 11]
def Uo :=[ql 12 1 4,qf 13 1 5,qv 14 5 1 13,qm 15 6,qk 16 .mul 14 15,qk 17 .add 12 16,qt 1 4 17]
def mK:Abs.cF:=sR [4,5,11] Um (.cr [4,5,6] Un)
def mL:Abs.cF:=.bO 1 (.cr [] Uo)
def Up :=[ql 18 1 4,qt 1 4 18]
def Df:ub:=an7 [(5,[4]),(4,[]),(3,[4,5,6]),(2,[4,5,11]),(1,[4,9]),(0,[1,2,4])] [(0,[4])] [] [4,5] [5] [] [1002]
def pg:Abs.Fn:=⟨2,[.c 4 false 1],sR [1,2,4] Uk (.seq (sR [4,9] Ul (.bO 0 (.IC [4] (.t 9) [10,11] mK mL))) (sR [4] Up .ret))⟩
attribute [simp] Uk Ul Um Un Uo Up
def Uq :=[qo 2 (.qh 1)]
def Ur :=[qm 5 0,qe 6 5,qi 7 0]
def Us :=[qk 8 .lss 7 6]
def Ut :=[qj 9 1 5 7,ql 10 1 9,qm 4 10]
def Uu :=[qm 11 2,qm 12 4,qc 13 lZ [12],qy 14 1 1 11 13,qm 2 14]
def Uv :=[qn 15 .add 7 1,qm 7 15]
def nA:Abs.cF:=sR [2,5,6,7,8] Us (.seq (.ite (.t 8) .eo (.exit 0)) (.seq (.bO 1 (sR [2,4,5,6,7] Ut (.cr [2,5,6,7] Uu))) (.cr [2,5,6,7] Uv)))
def Uw :=[qm 16 2,qm 2 16]
def rl:Abs.Fn:=⟨1,[.t 2],sR [0,2] Uq (sL [2,5,6,7] Ur 0 [2,5,6,7] false nA (sR [2] Uw .ret))⟩
attribute [simp] Uq Ur Us Ut Uu Uv Uw
def Ux :=[qx 1 0,qo 2 (.mv (.c .iW))]
def Uy :=[qo 3 (.xW eQ [] [(.t 1)]),qm 2 3]
def nz:Abs.Fn:=⟨1,[.t 2],sR [1] Ux (sR [2] Uy .ret)⟩
attribute [simp] Ux Uy
def Uz :=[qo 6 (.Hg [] [zI])]
def UA :=[qo 10 (.xW da [] [(.t 6)])]
def UB :=[qm 12 2]
def UC :=[qm 11 13,qz 14 11 0,qz 15 11 1,qz 16 11 2,qo 7 (.fm [] [(.bool false),zI,zI,.iW]),qs 7 4 7 14,qm 8 15,qm 9 16]
def UD :=[qm 17 0,qm 18 1,qo 19 (.mW (.t 17)),qf 20 20 19,qt 1 20 18]
def UE :=[qf 21 3 7,qv 22 7 1 21,qm 23 0,qm 24 8,qm 25 9]
def UF:List Abs.Op:=[]
def UG:List Abs.Op:=[⟨none,none,false,.st [] 1 (.t 6) (.c zI)⟩]
def lD:Abs.cF:=.seq (.iY [0,1,6,7,8,9] UB ⟨some 13,none,false,.call false (.c (.fn dk [] [])) [(.t 12)]⟩ UC) (sR [0,6,7,8,9] UD (.seq (.iY [6] UE ⟨some 26,none,false,.call false (.t 22) [(.t 23),(.t 24),(.t 25)]⟩ UF) (sR [6] UG .ret)))
def Cy:ub:=⟨[(5,[6]),(4,[6]),(3,[0,6,7,8,9]),(2,[0,1,6,7,8,9]),(1,[0,1,2,6]),(0,[0,1,2,6])],[],[],[0,6,7],[7],[],[],[],[],[],[(2,some 1),(4,some 5)]⟩
def om:Abs.Fn:=⟨3,[.c 6 false 1],sR [0,1,2,6] Uz (sR [10,0,1,2,6] UA (.RZ (.t 10) [] lD))⟩
attribute [simp] Uz UA UB UC UD UE UF UG
def an9 :=[qb 4 false]
def aoa :=[qm 5 0,qm 6 1,qc 7 jr [5,6],qn 8 .geq 7 0,qm 4 8]
def pR:Abs.Fn:=⟨2,[.t 4],sR [0,1] an9 (sR [4] aoa .ret)⟩
def UH :=[qb 2 false]
def UI :=[qm 3 0,qo 4 (.zf (.Ey) [(.t 3)]),qn 5 .gtr 4 4000,qm 2 5]
def rk:Abs.Fn:=⟨1,[.t 2],sR [0] UH (sR [2] UI .ret)⟩
attribute [simp] UH UI
def UJ :=[qx 1 0,qb 2 false]
def UK :=[qf 3 0 1,ql 4 1 3,qo 5 (.call false (.c (.fn dS [] [])) [(.t 4),(.c (.int .i64 1)),(.c (.int .i64 8))]),qm 6 5,qg 6 true (qf 7 1 1),qg 6 true (ql 8 1 7),qg 6 true (qo 9 (.call false (.c (.fn dS [] [])) [(.t 8),(.c (.int .i64 1)),(.c (.int .i64 8))])),qp 10 6 9,qm 11 10,qg 11 true (qf 12 2 1),qg 11 true (ql 13 1 12),qg 11 true (qo 14 (.call false (.c (.fn dS [] [])) [(.t 13),(.c (.int .i64 1)),(.c (.int .i64 8))])),qp 15 11 14,qm 16 15,qg 16 true (qa 17 4 1),qg 16 true (qc 18 dw [17]),qg 16 true (qn 19 .leq 18 64),qp 20 16 19,qm 21 20,qg 21 true (qf 22 3 1),qg 21 true (ql 23 1 22),qg 21 true (qo 24 (.call false (.c (.fn dS [] [])) [(.t 23),(.c (.int .i64 1)),(.c (.int .i64 6))])),qp 25 21 24,qm 2 25]
def oh:Abs.Fn:=⟨1,[.t 2],sR [1] UJ (sR [2] UK .ret)⟩
attribute [simp] UJ UK
def UL :=[qb 2 false]
def UM :=[qm 5 0,qo 6 (.zf (.Ey) [(.t 5)]),qi 7 0]
def UN :=[qk 8 .lss 7 6]
def UO :=[qm 9 7,qm 3 9]
def UP :=[qm 10 0,qm 11 3,qo 12 (.zf (.IE) [(.t 10),(.t 11)]),qo 13 (.bin .geq (.t 12) (.c (.int .u8 97))),qm 14 13,qg 14 true (qm 15 0),qg 14 true (qm 16 3),qg 14 true (qo 17 (.zf (.IE) [(.t 15),(.t 16)])),qg 14 true (qo 18 (.bin .leq (.t 17) (.c (.int .u8 122)))),qp 19 14 18,qm 4 19]
def UQ :=[qm 20 4,qu 21 20,qm 22 21,qg 22 true (qm 23 3),qg 22 true (qn 24 .eql 23 0),qg 22 true (qm 25 24),qg 25 false (qm 26 0),qg 25 false (qm 27 3),qg 25 false (qo 28 (.zf (.IE) [(.t 26),(.t 27)])),qg 25 false (qo 29 (.bin .lss (.t 28) (.c (.int .u8 48)))),qg 22 true (qP 30 25 29),qg 22 true (qm 31 30),qg 31 false (qm 32 0),qg 31 false (qm 33 3),qg 31 false (qo 34 (.zf (.IE) [(.t 32),(.t 33)])),qg 31 false (qo 35 (.bin .gtr (.t 34) (.c (.int .u8 57)))),qg 22 true (qP 36 31 35),qp 37 22 36]
def UR :=[qb 2 false]
def US :=[qn 38 .add 7 1,qm 7 38]
def rW:Abs.cF:=sR [0,6,7,8] UN (.seq (.ite (.t 8) .eo (.exit 0)) (.seq (.bO 1 (sR [0,3,6,7] UO (sR [0,3,4,6,7] UP (sR [0,6,7,37] UQ (.ite (.t 37) (sR [2] UR .ret) .eo))))) (.cr [0,6,7] US)))
def UT :=[qm 39 0,qo 40 (.zf (.Ey) [(.t 39)]),qo 41 (.call false (.c (.fn dS [] [])) [(.t 40),(.c (.int .i64 1)),(.c (.int .i64 16))]),qm 2 41]
def vx:Abs.Fn:=⟨1,[.t 2],sR [0] UL (sL [0,6,7] UM 0 [0,6,7] false rW (sR [2] UT .ret))⟩
attribute [simp] UL UM UN UO UP UQ UR US UT
def UU :=[qx 1 0,qi 2 0]
def UW :=[qf 3 0 1,ql 4 1 3,qf 5 1 1,ql 6 1 5,qk 7 .mul 4 6,qf 8 2 1,ql 9 1 8,qk 10 .mul 7 9,qm 2 10]
def nk:Abs.Fn:=⟨1,[.t 2],sR [1] UU (sR [2] UW .ret)⟩
attribute [simp] UU UW
def aob :=[qx 3 1,qb 4 false]
def aoc :=[qm 5 0,qo 6 (.xW rF [] [(.t 3)]),qc 7 bZ [5,6],qu 8 7,qm 4 8]
def AG:Abs.Fn:=⟨2,[.t 4],sR [0,3] aob (sR [4] aoc .ret)⟩
def UX :=[qb 2 false]
def UY :=[qm 3 0,qo 4 (.call false (.c (.fn dS [] [])) [(.t 3),(.c (.int .i64 (-100000))),(.c (.int .i64 100000))]),qm 2 4]
def mD:Abs.Fn:=⟨1,[.t 2],sR [0] UX (sR [2] UY .ret)⟩
attribute [simp] UX UY
def UZ :=[qb 6 false]
def U0 :=[qm 7 1,qm 8 0,qk 9 .leq 7 8,qm 10 9,qg 10 true (qm 11 0),qg 10 true (qm 12 2),qg 10 true (qk 13 .leq 11 12),qp 14 10 13,qm 6 14]
def uh:Abs.Fn:=⟨3,[.t 6],sR [0,1,2] UZ (sR [6] U0 .ret)⟩
attribute [simp] UZ U0
def U1 :=[qx 4 0,qb 8 false]
def U2 :=[qm 12 1,qf 13 3 4,ql 14 1 13,qn 15 .sub 14 1,qo 16 (.call false (.c (.fn dS [] [])) [(.t 12),(.c zI),(.t 15)]),qu 17 16,qm 18 17,qg 18 false (qm 19 2),qg 18 false (qe 20 19),qg 18 false (qn 21 .lss 20 1),qP 22 18 21,qm 23 22,qg 23 false (qm 24 2),qg 23 false (qe 25 24),qg 23 false (qm 26 3),qg 23 false (qe 27 26),qg 23 false (qk 28 .neq 25 27),qP 29 23 28]
def U3 :=[qb 8 false]
def U4 :=[qi 9 (-1)]
def U5 :=[qm 30 2,qe 31 30,qi 32 0]
def U6 :=[qk 33 .lss 32 31]
def U7 :=[qm 34 32,qj 35 1 30 32,ql 36 1 35,qm 10 34,qm 11 36]
def U8 :=[qm 37 11,qm 38 9,qk 39 .leq 37 38,qm 40 39,qg 40 false (qm 41 11),qg 40 false (qa 42 4 4),qg 40 false (qc 43 dw [42]),qg 40 false (qk 44 .geq 41 43),qP 45 40 44,qm 46 45,qg 46 false (qm 47 3),qg 46 false (qm 48 10),qg 46 false (qj 49 1 47 48),qg 46 false (ql 50 1 49),qg 46 false (qo 51 (.call false (.c (.fn dS [] [])) [(.t 50),(.c (.int .i64 (-1000))),(.c (.int .i64 1000))])),qg 46 false (qu 52 51),qP 53 46 52]
def U9 :=[qb 8 false]
def Va :=[qm 54 11,qm 9 54]
def OZ :=[qn 55 .add 32 1,qm 32 55]
def lB:Abs.cF:=sR [3,4,9,30,31,32,33] U6 (.seq (.ite (.t 33) .eo (.exit 0)) (.seq (.bO 1 (sR [3,4,9,10,11,30,31,32] U7 (sE [3,4,11,30,31,32,53] U8 53 [8] U9 (.cr [3,4,9,30,31,32] Va)))) (.cr [3,4,9,30,31,32] OZ)))
def O0 :=[qb 8 true]
def pa:Abs.Fn:=⟨4,[.t 8],sR [1,2,3,4] U1 (sE [2,3,4,29] U2 29 [8] U3 (sR [2,3,4,9] U4 (sL [3,4,9,30,31,32] U5 0 [3,4,9,30,31,32] false lB (sR [8] O0 .ret))))⟩
attribute [simp] U1 U2 U3 U4 U5 U6 U7 U8 U9 Va OZ O0
def Vb :=[qx 1 0,qb 2 false]
def Vc :=[qf 3 0 1,ql 4 1 3,qo 5 (.bin .leq (.c (.int .i64 (-10000000000))) (.t 4)),qm 6 5,qg 6 true (qf 7 0 1),qg 6 true (ql 8 1 7),qg 6 true (qf 9 1 1),qg 6 true (ql 10 1 9),qg 6 true (qk 11 .leq 8 10),qp 12 6 11,qm 13 12,qg 13 true (qf 14 1 1),qg 13 true (ql 15 1 14),qg 13 true (qn 16 .leq 15 10000000000),qp 17 13 16,qm 2 17]
def pc:Abs.Fn:=⟨1,[.t 2],sR [1] Vb (sR [2] Vc .ret)⟩
attribute [simp] Vb Vc
def Vd :=[qx 2 0,qx 3 1,qi 4 0]
def Ve :=[qf 7 5 2,ql 8 1 7,qe 9 8,qi 10 0]
def Vf :=[qk 11 .lss 10 9]
def Vg :=[qm 12 10,qj 13 1 8 10,ql 14 1 13,qm 5 12,qm 6 14]
def Vh :=[qM 15 4,qF 16 6 2,qL 17 1 16,qM 18 5,qJ 19 1 17 18,qL 20 1 19,qF 21 1 3,qL 22 1 21,qF 23 4 2,qL 24 1 23,qF 25 0 2,qA 26 4 25,qC 27 dw [26],qK 28 .mul 24 27,qM 29 6,qK 30 .add 28 29,qJ 31 1 22 30,qL 32 1 31,qK 33 .mul 20 32,qk 34 .add 15 33,qm 4 34]
def Vi :=[qn 35 .add 10 1,qm 10 35]
def oi:Abs.cF:=sR [2,3,4,8,9,10,11] Vf (.seq (.ite (.t 11) .eo (.exit 0)) (.seq (.bO 1 (sR [2,3,4,5,6,8,9,10] Vg (.cr [2,3,4,8,9,10] Vh))) (.cr [2,3,4,8,9,10] Vi)))
def Vj :=[qm 36 4,qm 4 36]
def rX:Abs.Fn:=⟨2,[.t 4],sR [2,3,4] Vd (sL [2,3,4,8,9,10] Ve 0 [2,3,4,8,9,10] false oi (sR [4] Vj .ret))⟩
attribute [simp] Vd Ve Vf Vg Vh Vi Vj
def Vk :=[qx 1 0,qb 2 false]
def Vl :=[qf 4 0 1,qa 5 4 4,qc 6 jH [5],qn 7 .neq 6 0,qm 8 7,qg 8 false (qf 9 0 1),qg 8 false (qf 10 3 9),qg 8 false (ql 11 1 10),qg 8 false (qn 12 .lss 11 4),qP 13 8 12,qm 14 13,qg 14 false (qf 15 4 1),qg 14 false (ql 16 1 15),qg 14 false (qc 17 jR [16]),qg 14 false (qn 18 .neq 17 0),qP 19 14 18,qm 20 19,qg 20 false (qf 21 5 1),qg 20 false (ql 22 1 21),qg 20 false (qo 23 (.call false (.c (.fn cn [] [])) [(.t 22),(.c (.int .i64 1)),(.c (.int .i64 100000))])),qg 20 false (qu 24 23),qP 25 20 24,qm 26 25,qg 26 false (qf 27 6 1),qg 26 false (ql 28 1 27),qg 26 false (qo 29 (.call false (.c (.fn cn [] [])) [(.t 28),(.c zI),(.c (.int .i64 1000))])),qg 26 false (qu 30 29),qP 31 26 30,qm 32 31,qg 32 false (qf 33 7 1),qg 32 false (ql 34 1 33),qg 32 false (qo 35 (.call false (.c (.fn cn [] [])) [(.t 34),(.c zI),(.c (.int .i64 3000))])),qg 32 false (qu 36 35),qP 37 32 36,qm 38 37,qg 38 false (qf 39 8 1),qg 38 false (ql 40 1 39),qg 38 false (qe 41 40),qg 38 false (qn 42 .gtr 41 8),qP 43 38 42]
def Vm :=[qb 2 false]
def Vn :=[qa 44 9 1,qc 45 dn [44],qo 46 (.mks 1 1 [(.bool false)] (.t 45) (.t 45)),qo 3 (.Hg [] [.aK]),qt 1 3 46]
def Vo :=[qf 47 8 1,ql 48 1 47,qo 49 (.xW fF [] [(.t 3)]),qc 50 kj [48,49],qm 2 50]
def sh:Abs.Fn:=⟨1,[.t 2],sR [1] Vk (sE [1,43] Vl 43 [2] Vm (sR [1,3] Vn (sR [2] Vo .ret)))⟩
attribute [simp] Vk Vl Vm Vn Vo
def Vp :=[qb 6 false]
def Vq :=[qm 7 1,qm 8 0,qk 9 .leq 7 8,qm 10 9,qg 10 true (qm 11 0),qg 10 true (qm 12 2),qg 10 true (qk 13 .leq 11 12),qp 14 10 13,qm 6 14]
def vC:Abs.Fn:=⟨3,[.t 6],sR [0,1,2] Vp (sR [6] Vq .ret)⟩
attribute [simp] Vp Vq
def Vr :=[qx 2 0,qx 3 1,qi 4 0]
def Vs :=[qa 5 4 2,qo 6 (.xW cQ [(.t 5)] []),qo 7 (.xW gC [] [(.t 2),(.t 3)]),qo 8 (.uU 2 1 [.iW,.iW] [(0,1,(.t 6)),(1,1,(.t 7))]),qc 9 nY [8],qm 4 9]
def od:Abs.Fn:=⟨2,[.t 4],sR [2,3] Vr (sR [4] Vs .ret)⟩
attribute [simp] Vr Vs
def aod :=[qx 3 1,qb 4 false]
def aoe :=[qm 5 0,qo 6 (.xW j5 [] [(.t 3)]),qc 7 eK [5,6],qu 8 7,qm 4 8]
def ur:Abs.Fn:=⟨2,[.t 4],sR [0,3] aod (sR [4] aoe .ret)⟩
def Vt :=[qx 2 0,qb 3 false]
def Vu :=[qa 4 9 1,qa 5 2 2,qo 6 (.l9 [zI,zI,zI,zI,.aK,zI,zI,zI,.aK,(.str []),.aK] [(0,9,(.t 4)),(9,2,(.t 5))]),qc 7 jP [6],qm 3 7]
def ux:Abs.Fn:=⟨2,[.t 3],sR [1,2] Vt (sR [3] Vu .ret)⟩
attribute [simp] Vt Vu
def Vv :=[qx 1 0,qb 2 false]
def Vw :=[qf 5 0 1,qf 6 0 5,qa 7 4 6,qf 8 9 1,qa 9 2 8,qo 10 (.uU 1 2 [(.str []),.aK] [(0,2,(.t 9))]),qc 11 ja [7,10],qn 12 .neq 11 0]
def Vx :=[qb 2 false]
def Vy :=[qo 13 (.l9 [zI,zI] [(0,1,(.c (.int .i64 1000))),(1,1,(.c (.int .i64 100000)))]),qo 14 (.l9 [zI,zI] [(0,1,(.c zI)),(1,1,(.c (.int .i64 1000)))]),qo 15 (.l9 [zI,zI] [(0,1,(.c zI)),(1,1,(.c (.int .i64 3000)))]),qo 16 (.l9 [zI,zI] [(0,1,(.c zI)),(1,1,(.c (.int .i64 1000)))]),qo 17 (.l9 [zI,zI,zI,zI,zI,zI,zI,zI] [(0,2,(.t 13)),(2,2,(.t 14)),(4,2,(.t 15)),(6,2,(.t 16))]),qi 18 0]
def Vz :=[qn 19 .lss 18 4]
def VA :=[qm 20 18,qo 21 (.Kf true 4 2 (.t 17) (.t 18)),qo 4 (.Hg [] [zI,zI]),qm 3 20,qt 2 4 21]
def VB :=[qa 22 11 1,qm 23 3,qc 24 eA [22,23],qo 25 (.xW eh [] [(.t 4)]),qc 26 ki [24,25],qu 27 26]
def VC :=[qb 2 false]
def VD :=[qn 28 .add 18 1,qm 18 28]
def mN:Abs.cF:=sR [1,17,18,19] Vz (.seq (.ite (.t 19) .eo (.exit 0)) (.seq (.bO 1 (sR [1,3,4,17,18] VA (sR [1,17,18,27] VB (.ite (.t 27) (sR [2] VC .ret) .eo)))) (.cr [1,17,18] VD)))
def O1 :=[qb 2 true]
def pC:Abs.Fn:=⟨1,[.t 2],sR [1] Vv (sE [1,12] Vw 12 [2] Vx (sL [1,17,18] Vy 0 [1,17,18] true mN (sR [2] O1 .ret)))⟩
attribute [simp] Vv Vw Vx Vy Vz VA VB VC VD O1
def VE :=[qx 1 0,qi 2 0]
def VF :=[qf 3 0 1,qf 4 0 3,ql 5 1 4,qf 6 0 1,qf 7 1 6,ql 8 1 7,qk 9 .mul 5 8,qf 10 0 1,qf 11 2 10,ql 12 1 11,qk 13 .mul 9 12,qm 2 13]
def tt:Abs.Fn:=⟨1,[.t 2],sR [1] VE (sR [2] VF .ret)⟩
attribute [simp] VE VF
def VG :=[qx 3 0,qi 6 0]
def VH :=[qA 10 11 3,qM 11 2,qC 12 fH [10,11],qF 13 0 3,qF 14 5 13,qL 15 1 14,qM 16 1,qM 17 2,qJ 18 3 16 17,qF 19 0 18,qL 20 1 19,qA 21 11 3,qM 22 2,qC 23 fG [21,22],qK 24 .sub 20 23,qK 25 .mul 15 24,qA 26 11 3,qM 27 2,qC 28 fG [26,27],qc 29 vV [25,28],qk 30 .add 12 29,qo 31 (.mx (.c zI) (.t 30)),qm 7 31]
def VI :=[qf 32 0 3,qf 33 4 32,ql 34 1 33,qe 35 34,qi 36 0]
def VJ :=[qk 37 .lss 36 35]
def VK :=[qj 38 5 34 36,qa 39 5 38,qo 9 (.fm [] [zI,zI,zI,zI,zI]),qs 9 5 9 39]
def VL :=[qF 40 2 9,qV 41 9 1 40,qM 42 1,qM 43 2,qJ 44 3 42 43,qF 45 0 44,qL 46 1 45,qK 47 .mul 41 46,qM 48 1,qM 49 2,qJ 50 3 48 49,qF 51 1 50,qL 52 1 51,qk 53 .leq 47 52]
def VM :=[qm 54 7,qf 55 1 9,qv 56 9 1 55,qo 57 (.mx (.t 54) (.t 56)),qm 7 57]
def VN :=[qn 58 .add 36 1,qm 36 58]
def jq:Abs.cF:=sR [1,2,7,34,35,36,37] VJ (.seq (.ite (.t 37) .eo (.exit 0)) (.seq (.bO 1 (sR [1,2,7,9,34,35,36] VK (sR [1,2,7,9,34,35,36,53] VL (.ite (.t 53) (.cr [1,2,7,34,35,36] VM) .eo)))) (.cr [1,2,7,34,35,36] VN)))
def VO :=[qm 59 7,qm 6 59]
def lI:Abs.Fn:=⟨3,[.t 6],sR [1,2,3] VG (sR [1,2,3,7] VH (sL [1,2,7,34,35,36] VI 0 [1,2,7,34,35,36] false jq (sR [6] VO .ret)))⟩
attribute [simp] VG VH VI VJ VK VL VM VN VO
def VP :=[qo 0 (.fm [] [.iW,.iW,.iW,.iW,.iW])]
def VQ :=[qo 1 (.l9 [.iW,.iW,.iW,.iW,.iW] [(2,1,(.c (.fn kK [] []))),(3,1,(.c (.fn jd [] []))),(4,1,(.c (.fn jN [] [])))]),qs 0 5 0 1]
def wU:Abs.Fn:=⟨0,[.v 0 true 5],sR [0] VP (sR [0] VQ .ret)⟩
attribute [simp] VP VQ
def aof :=[qb 4 false]
def aog :=[qm 5 0,qm 6 1,qc 7 dU [5,6],qn 8 .geq 7 0,qm 4 8]
def iA:Abs.Fn:=⟨2,[.t 4],sR [0,1] aof (sR [4] aog .ret)⟩
def aoh :=[qx 2 0,qb 3 false]
def aoi :=[ql 4 1 1,qa 5 10 2,qo 6 (.call false (.t 4) [(.t 5)]),qu 7 6,qm 3 7]
def mh:Abs.Fn:=⟨2,[.t 3],sR [1,2] aoh (sR [3] aoi .ret)⟩
def VR :=[qx 2 0,qx 3 1,qb 4 false]
def VS :=[qa 5 3 2,qc 6 fI [5],qm 7 6,qg 7 true (qa 8 3 3),qg 7 true (qc 9 fI [8]),qp 10 7 9,qm 11 10,qg 11 true (qf 12 0 2),qg 11 true (ql 13 1 12),qg 11 true (qf 14 0 3),qg 11 true (ql 15 1 14),qg 11 true (qk 16 .leq 13 15),qp 17 11 16,qm 18 17,qg 18 true (qf 19 1 2),qg 18 true (ql 20 1 19),qg 18 true (qf 21 1 3),qg 18 true (ql 22 1 21),qg 18 true (qk 23 .leq 20 22),qp 24 18 23,qm 25 24,qg 25 true (qf 26 2 2),qg 25 true (ql 27 1 26),qg 25 true (qf 28 2 3),qg 25 true (ql 29 1 28),qg 25 true (qk 30 .leq 27 29),qp 31 25 30,qm 4 31]
def wW:Abs.Fn:=⟨2,[.t 4],sR [2,3] VR (sR [4] VS .ret)⟩
attribute [simp] VR VS
def aoj :=[qb 4 false]
def aok :=[qm 5 0,qm 6 1,qc 7 dJ [5,6],qn 8 .geq 7 0,qm 4 8]
def gU:Abs.Fn:=⟨2,[.t 4],sR [0,1] aoj (sR [4] aok .ret)⟩
def aol :=[qx 2 0,qb 3 false]
def aom :=[ql 4 1 1,qa 5 2 2,qo 6 (.call false (.t 4) [(.t 5)]),qu 7 6,qm 3 7]
def lO:Abs.Fn:=⟨2,[.t 3],sR [1,2] aol (sR [3] aom .ret)⟩
def VT :=[qx 1 0,qb 2 false]
def VU :=[qf 3 0 1,qa 4 3 3,qc 5 fI [4],qm 6 5,qg 6 true (qf 7 3 1),qg 6 true (ql 8 1 7),qg 6 true (qo 9 (.call false (.c (.fn cm [] [])) [(.t 8),(.c zI),(.c (.int .i64 160))])),qp 10 6 9,qm 2 10]
def lM:Abs.Fn:=⟨1,[.t 2],sR [1] VT (sR [2] VU .ret)⟩
attribute [simp] VT VU
def VV :=[qx 1 0,qb 2 false]
def VW :=[qf 3 0 1,ql 4 1 3,qf 5 1 1,ql 6 1 5,qf 7 2 1,ql 8 1 7,qo 9 (.uU 3 1 [zI,zI,zI] [(0,1,(.t 4)),(1,1,(.t 6)),(2,1,(.t 8))]),qo 10 (.call false (.c (.fn ix [] [])) [(.t 9),(.c (.fn eD [] []))]),qm 2 10]
def nK:Abs.Fn:=⟨1,[.t 2],sR [1] VV (sR [2] VW .ret)⟩
attribute [simp] VV VW
def aon :=[qi 4 0]
def aoo :=[qm 6 0,qe 7 6,qi 8 0]
def aoq :=[qk 9 .lss 8 7]
def aor :=[qm 10 8,qm 5 10]
def aos :=[qm 11 1,qm 12 0,qm 13 5,qj 14 4 12 13,qa 15 4 14,qo 16 (.call false (.t 11) [(.t 15)])]
def aot :=[qm 17 5,qm 4 17]
def aou :=[qn 18 .add 8 1,qm 8 18]
def ua:Abs.cF:=sR [0,1,7,8,9] aoq (.seq (.ite (.t 9) .eo (.exit 0)) (.seq (.bO 1 (sR [0,1,5,7,8] aor (sR [0,1,5,7,8,16] aos (.ite (.t 16) (sR [4] aot .ret) .eo)))) (.cr [0,1,7,8] aou)))
def aov :=[qi 4 (-1)]
def jG:Abs.Fn:=⟨2,[.t 4],sR [0,1] aon (sL [0,1,7,8] aoo 0 [0,1,7,8] false ua (sR [4] aov .ret))⟩
def aow :=[qx 2 0,qb 3 false]
def aox :=[ql 4 1 1,qa 5 4 2,qo 6 (.call false (.t 4) [(.t 5)]),qu 7 6,qm 3 7]
def mi:Abs.Fn:=⟨2,[.t 3],sR [1,2] aow (sR [3] aox .ret)⟩
def VX :=[qx 2 0,qi 4 0]
def VY :=[qm 6 1,qe 7 6,qf 8 8 2,ql 9 1 8,qe 10 9,qk 11 .neq 7 10,qm 5 11]
def VZ :=[qi 4 1]
def V0 :=[qm 13 1,qo 14 (.call false (.c (.fn ki [] [])) [(.t 13),(.c (.fn jK [] []))]),qu 15 14,qm 12 15]
def V1 :=[qi 4 2]
def V2 :=[qi 4 0]
def sf:Abs.Fn:=⟨2,[.t 4],sR [1,2] VX (.seq (.bO 0 (sR [1,5] VY (.ite (.t 5) (sR [4] VZ .ret) (sR [12] V0 (.ite (.t 12) (sR [4] V1 .ret) .eo))))) (sR [4] V2 .ret))⟩
attribute [simp] VX VY VZ V0 V1 V2
def V3 :=[qx 1 0,qo 2 (.qh 3)]
def V4 :=[qf 4 0 1,qa 5 9 4,qc 6 dn [5],qi 7 0]
def V5 :=[qk 8 .lss 7 6]
def V6 :=[qm 9 7,qm 3 9]
def V7 :=[qM 10 2,qA 11 11 1,qM 12 3,qC 13 fG [11,12],qA 14 11 1,qM 15 3,qC 16 fG [14,15],qA 17 11 1,qM 18 3,qC 19 mz [17,18],qK 20 .mul 16 19,qO 21 (.l9 [zI,zI,zI] [(0,1,(.t 13)),(1,1,(.t 20))]),qO 22 (.uU 1 3 [zI,zI,zI] [(0,3,(.t 21))]),qy 23 3 24 10 22,qm 2 23]
def V8 :=[qn 24 .add 7 1,qm 7 24]
def lH:Abs.cF:=sR [1,2,6,7,8] V5 (.seq (.ite (.t 8) .eo (.exit 0)) (.seq (.bO 1 (sR [1,2,3,6,7] V6 (.cr [1,2,6,7] V7))) (.cr [1,2,6,7] V8)))
def V9 :=[qm 25 2,qm 2 25]
def ou:Abs.Fn:=⟨1,[.t 2],sR [1,2] V3 (sL [1,2,6,7] V4 0 [1,2,6,7] false lH (sR [2] V9 .ret))⟩
attribute [simp] V3 V4 V5 V6 V7 V8 V9
def Wa :=[qx 3 0,qo 6 (.mv (.c .aK)),qo 7 (.mv (.c .aK)),qi 8 0]
def Wb :=[qm 18 1,qo 19 (.call true (.c (.fn cS [] [])) [(.t 18)]),qm 9 19]
def Wc :=[qa 20 11 3,qm 21 1,qo 22 (.call true (.c (.fn lg [] [])) [(.t 20),(.t 21)]),qo 23 (.mp (.rng) [(.t 22)])]
def We :=[qo 26 (.mp (.ent) [(.t 23)]),qz 27 26 0,qz 28 26 1,qo 10 (.fm [] [zI,zI]),qo 11 (.fm [] [zI,zI,zI]),qs 10 2 10 27,qs 11 3 11 28]
def Wf :=[qM 29 9,qF 30 0 10,qV 31 10 1 30,qJ 32 3 29 31,qW 33 11 3 11,qo 34 (.call false (.c (.fn cj [] [])) [(.t 32),(.t 33),(.c (.int .i64 (-1)))])]
def Wg :=[qM 35 9,qF 36 1 10,qV 37 10 1 36,qJ 38 3 35 37,qW 39 11 3 11,qo 40 (.call false (.c (.fn cj [] [])) [(.t 38),(.t 39),(.c (.int .i64 1))])]
def mP:Abs.cF:=.seq (.ite (.t 25) .eo (.exit 0)) (.bO 1 (sR [1,2,3,9,10,11,23] We (sR [1,2,3,9,10,11,23] Wf (.cr [1,2,3,9,23] Wg))))
def Wh :=[qo 12 (.qh 3)]
def Wi :=[qm 41 2,qe 42 41,qi 43 0]
def Wj :=[qk 44 .lss 43 42]
def O2 :=[qm 45 43,qj 46 1 41 43,ql 47 1 46,qm 13 45,qm 14 47]
def O3 :=[qf 48 0 3,qf 49 8 48,ql 50 1 49,qm 51 13,qj 52 3 50 51,qf 53 0 52,ql 54 1 53,qm 15 54]
def O4 :=[qo 16 (.fm [] [zI,zI,zI])]
def O5 :=[qm 55 14,qn 56 .lss 55 0]
def O6 :=[qM 57 9,qM 58 15,qJ 59 3 57 58,qF 60 0 3,qF 61 8 60,qL 62 1 61,qM 63 13,qJ 64 3 62 63,qA 65 3 64,qM 66 14,qC 67 nQ [65,66],qo 68 (.call false (.c (.fn cj [] [])) [(.t 59),(.t 67),(.c (.int .i64 1))])]
def O7 :=[qM 69 1,qM 70 15,qJ 71 3 69 70,qA 72 3 71,qM 73 14,qM 74 1,qM 75 15,qJ 76 3 74 75,qF 77 0 76,qL 78 1 77,qN 79 .quo 78 8,qO 80 (.mn (.t 73) (.t 79)),qc 81 l4 [72,80],qs 16 3 16 81]
def O8 :=[qM 82 9,qM 83 15,qJ 84 3 82 83,qW 85 16 3 16,qo 86 (.call false (.c (.fn cj [] [])) [(.t 84),(.t 85),(.c (.int .i64 (-1)))])]
def O9 :=[qm 87 12,qw 88 16 3 16,qo 89 (.uU 1 3 [zI,zI,zI] [(0,3,(.t 88))]),qy 90 3 24 87 89,qm 12 90]
def Pa :=[qn 91 .add 43 1,qm 43 91]
def lJ:Abs.cF:=sR [1,3,9,12,41,42,43,44] Wj (.seq (.ite (.t 44) .eo (.exit 2)) (.seq (.bO 3 (sR [1,3,9,12,13,14,41,42,43] O2 (sR [1,3,9,12,13,14,15,41,42,43] O3 (sR [1,3,9,12,13,14,15,16,41,42,43] O4 (sI [1,3,9,12,13,14,15,16,41,42,43,56] O5 56 (.cr [1,3,9,12,16,41,42,43] O6) (sR [1,3,9,12,15,16,41,42,43] O7 (.cr [1,3,9,12,16,41,42,43] O8)) (.cr [1,3,9,12,41,42,43] O9)))))) (.cr [1,3,9,12,41,42,43] Pa)))
def Pb :=[qm 92 9,qe 93 92,qi 94 0]
def Pc :=[qk 95 .lss 94 93]
def Pd :=[qm 96 94,qm 17 96]
def Pe :=[qM 97 9,qM 98 17,qJ 99 3 97 98,qA 100 11 3,qM 101 17,qC 102 nS [100,101],qo 103 (.call false (.c (.fn cj [] [])) [(.t 99),(.t 102),(.c (.int .i64 1))])]
def Pf :=[qn 104 .add 94 1,qm 94 104]
def lK:Abs.cF:=sR [3,9,12,93,94,95] Pc (.seq (.ite (.t 95) .eo (.exit 4)) (.seq (.bO 5 (sR [3,9,12,17,93,94] Pd (.cr [3,9,12,93,94] Pe))) (.cr [3,9,12,93,94] Pf)))
def Pg :=[qa 105 11 3,qm 106 9,qc 107 lh [105,106],qu 108 107]
def Ph :=[qo 6 (.mv (.c .aK)),qo 7 (.mv (.c .aK)),qi 8 9]
def Pj :=[qm 109 9,qm 110 12,qm 6 109,qm 7 110,qi 8 0]
def iJ:Abs.cF:=sR [1,2,3,9,12] Wh (sL [1,3,9,12,41,42,43] Wi 2 [1,3,9,12,41,42,43] false lJ (sL [3,9,12,93,94] Pb 4 [3,9,12,93,94] false lK (sE [9,12,108] Pg 108 [6,7,8] Ph (sR [6,7,8] Pj .ret))))
def Dg:ub:=an7 [(26,[6,7,8]),(25,[6,7,8]),(24,[9,12,108]),(23,[3,9,12,93,94]),(22,[3,9,12,93,94]),(21,[3,9,12,17,93,94]),(20,[3,9,12,93,94,95]),(19,[3,9,12,93,94]),(18,[1,3,9,12,41,42,43]),(17,[1,3,9,12,41,42,43]),(14,[1,3,9,12,16,41,42,43]),(16,[1,3,9,12,16,41,42,43]),(15,[1,3,9,12,15,16,41,42,43]),(13,[1,3,9,12,13,14,15,16,41,42,43,56]),(12,[1,3,9,12,13,14,15,16,41,42,43]),(11,[1,3,9,12,13,14,15,41,42,43]),(10,[1,3,9,12,13,14,41,42,43]),(9,[1,3,9,12,41,42,43,44]),(8,[1,3,9,12,41,42,43]),(7,[1,2,3,9,12]),(6,[1,2,3,9,23]),(5,[1,2,3,9,10,11,23]),(4,[1,2,3,9,10,11,23]),(3,[1,2,3,9,23,25]),(2,[1,2,3,9,23]),(1,[1,2,3,9]),(0,[1,2,3])] [(4,[3,9,12,93,94]),(2,[1,3,9,12,41,42,43]),(0,[1,2,3,9,23])] [] [10,11,12,16] [10,11,16] [] [2002,1001]
def pH:Abs.Fn:=⟨3,[.t 6,.t 7,.t 8],sR [1,2,3] Wa (sR [1,2,3,9] Wb (sR [1,2,3,9,23] Wc (.ji [1,2,3,9,23] (.t 23) 24 25 0 mP iJ)))⟩
attribute [simp] Wa Wb Wc We Wf Wg Wh Wi Wj O2 O3 O4 O5 O6 O7 O8 O9 Pa Pb Pc Pd Pe Pf Pg Ph Pj
def Wk :=[qb 6 false]
def Wl :=[qm 7 1,qm 8 0,qk 9 .leq 7 8,qm 10 9,qg 10 true (qm 11 0),qg 10 true (qm 12 2),qg 10 true (qk 13 .leq 11 12),qp 14 10 13,qm 6 14]
def uB:Abs.Fn:=⟨3,[.t 6],sR [0,1,2] Wk (sR [6] Wl .ret)⟩
attribute [simp] Wk Wl
def aoy :=[qx 3 1,qb 4 false]
def aoz :=[qm 5 0,qo 6 (.xW kN [] [(.t 3)]),qc 7 fq [5,6],qu 8 7,qm 4 8]
def va:Abs.Fn:=⟨2,[.t 4],sR [0,3] aoy (sR [4] aoz .ret)⟩
def Wq :=[qx 1 0,qb 2 false]
def Wr :=[qf 3 0 1,ql 4 1 3,qo 5 (.call false (.c (.fn dA [] [])) [(.t 4),(.c zI),(.c (.int .i64 400))]),qm 6 5,qg 6 true (qf 7 1 1),qg 6 true (ql 8 1 7),qg 6 true (qo 9 (.call false (.c (.fn dA [] [])) [(.t 8),(.c (.int .i64 1)),(.c (.int .i64 10000))])),qp 10 6 9,qm 11 10,qg 11 true (qf 12 2 1),qg 11 true (ql 13 1 12),qg 11 true (qo 14 (.call false (.c (.fn dA [] [])) [(.t 13),(.c zI),(.c (.int .i64 4000))])),qp 15 11 14,qm 16 15,qg 16 true (qf 17 4 1),qg 16 true (ql 18 1 17),qg 16 true (qo 19 (.call false (.c (.fn dA [] [])) [(.t 18),(.c zI),(.c (.int .i64 2000))])),qp 20 16 19,qm 21 20,qg 21 true (qf 22 2 1),qg 21 true (ql 23 1 22),qg 21 true (qf 24 3 1),qg 21 true (ql 25 1 24),qg 21 true (qk 26 .lss 23 25),qp 27 21 26,qm 28 27,qg 28 true (qf 29 3 1),qg 28 true (ql 30 1 29),qg 28 true (qn 31 .leq 30 4000),qp 32 28 31,qm 2 32]
def rC:Abs.Fn:=⟨1,[.t 2],sR [1] Wq (sR [2] Wr .ret)⟩
attribute [simp] Wq Wr
def Ws :=[qx 2 0,qx 3 1,qi 4 0]
def Wt :=[qf 6 1 3,ql 7 1 6,qf 8 0 3,ql 9 1 8,qf 10 0 2,qf 11 2 10,ql 12 1 11,qk 13 .mul 9 12,qk 14 .sub 7 13,qm 5 14]
def Wu :=[qm 16 5,qn 17 .leq 16 0,qm 15 17]
def Wv :=[qi 4 0]
def Ww :=[qf 19 1 3,ql 20 1 19,qf 21 0 3,ql 22 1 21,qf 23 0 2,qf 24 3 23,ql 25 1 24,qk 26 .mul 22 25,qk 27 .geq 20 26,qm 18 27]
def Wx :=[qf 28 0 3,ql 29 1 28,qm 4 29]
def Wy :=[qm 30 5,qf 31 0 2,qf 32 3 31,ql 33 1 32,qf 34 0 2,qf 35 2 34,ql 36 1 35,qk 37 .sub 33 36,qk 38 .quo 30 37,qm 4 38]
def oF:Abs.Fn:=⟨2,[.t 4],sR [2,3] Ws (sR [2,3,5] Wt (.seq (.bO 0 (sR [2,3,5,15] Wu (.ite (.t 15) (sR [4] Wv .ret) (sR [2,3,5,18] Ww (.ite (.t 18) (sR [4] Wx .ret) .eo))))) (sR [4] Wy .ret)))⟩
attribute [simp] Ws Wt Wu Wv Ww Wx Wy
def Wz :=[qb 6 false]
def WA :=[qm 7 1,qm 8 0,qk 9 .leq 7 8,qm 10 9,qg 10 true (qm 11 0),qg 10 true (qm 12 2),qg 10 true (qk 13 .leq 11 12),qp 14 10 13,qm 6 14]
def uo:Abs.Fn:=⟨3,[.t 6],sR [0,1,2] Wz (sR [6] WA .ret)⟩
attribute [simp] Wz WA
def aoA :=[qx 3 1,qb 4 false]
def aoB :=[qm 5 0,qo 6 (.xW jZ [] [(.t 3)]),qc 7 ff [5,6],qu 8 7,qm 4 8]
def um:Abs.Fn:=⟨2,[.t 4],sR [0,3] aoA (sR [4] aoB .ret)⟩
def WB :=[qx 2 0,qb 3 false]
def WE :=[qf 5 1 2,ql 6 1 5,ql 7 1 1,qo 8 (.call false (.c (.fn kh [] [])) [(.t 6),(.c zI),(.t 7)]),qm 4 8]
def WG :=[qf 9 1 2,ql 10 1 9,qt 1 1 10]
def WH :=[qm 11 4,qm 12 11,qg 12 true (qf 13 0 2),qg 12 true (ql 14 1 13),qg 12 true (qo 15 (.call false (.c (.fn kh [] [])) [(.t 14),(.c (.int .i64 1)),(.c (.int .i64 100000))])),qp 16 12 15,qm 3 16]
def nB:Abs.Fn:=⟨2,[.t 3],sR [1,2] WB (sR [1,2,4] WE (sR [2,4] WG (sR [3] WH .ret)))⟩
attribute [simp] WB WE WG WH
def aoC :=[qx 3 1,qb 4 false]
def aoD :=[qm 5 0,qo 6 (.xW iO [] [(.t 3)]),qc 7 eB [5,6],qu 8 7,qm 4 8]
def sP:Abs.Fn:=⟨2,[.t 4],sR [0,3] aoC (sR [4] aoD .ret)⟩
def WI :=[qx 1 0,qb 2 false]
def WJ :=[qa 3 4 1,qc 4 ll [3],qn 5 .eql 4 0,qm 2 5]
def tn:Abs.Fn:=⟨1,[.t 2],sR [1] WI (sR [2] WJ .ret)⟩
attribute [simp] WI WJ
def WK :=[qx 1 0,qi 2 0]
def WN :=[qa 3 4 1,qc 4 iw [3],qu 5 4]
def WQ :=[qi 2 1]
def WS :=[qi 2 0]
def oD:Abs.Fn:=⟨1,[.t 2],sR [1] WK (sE [5] WN 5 [2] WQ (sR [2] WS .ret))⟩
attribute [simp] WK WN WQ WS
def WT :=[qx 2 0,qo 3 (.Is (.t 1)),qo 4 (.mv (.c .iW))]
def WU :=[qo 5 (.xW jc [] [(.t 2),(.t 3)]),qm 4 5]
def rn:Abs.Fn:=⟨2,[.t 4],sR [2,3] WT (sR [4] WU .ret)⟩
attribute [simp] WT WU
def WX :=[qo 2 (.mv (.c .aK))]
def WY :=[qm 7 0,qo 8 (.zf (.Ey) [(.t 7)]),qo 9 (.bin .shr (.t 8) (.c (.int .u64 8))),qo 10 (.J6 .u8 (.t 9)),qm 11 0,qo 12 (.zf (.Ey) [(.t 11)]),qo 13 (.J6 .u8 (.t 12)),qm 14 0,qc 15 sV [14],qm 3 10,qm 4 13,qm 5 15]
def WZ :=[qm 16 3,qm 17 4,qm 18 3,qo 19 (.un .xor (.t 18)),qm 20 4,qo 21 (.un .xor (.t 20)),qo 22 (.MX 4 1 [(.int .u8 0),(.int .u8 0),(.int .u8 0),(.int .u8 0)] [(0,1,(.t 16)),(1,1,(.t 17)),(2,1,(.t 19)),(3,1,(.t 21))]),qm 23 0,qy 24 1 1 22 23,qm 6 24]
def W0 :=[qm 25 6,qm 26 5,qo 27 (.bin .shr (.t 26) (.c (.int .u64 8))),qo 28 (.J6 .u8 (.t 27)),qm 29 5,qo 30 (.J6 .u8 (.t 29)),qo 31 (.uU 2 1 [(.int .u8 0),(.int .u8 0)] [(0,1,(.t 28)),(1,1,(.t 30))]),qy 32 1 1 25 31,qm 2 32]
def rZ:Abs.Fn:=⟨1,[.t 2],sR [0] WX (sR [0,3,4,5] WY (sR [5,6] WZ (sR [2] W0 .ret)))⟩
attribute [simp] WX WY WZ W0
def W3 :=[qi 3 0]
def W4 :=[ql 7 1 1,qe 8 7,qm 9 3,qk 10 .sub 8 9,qn 11 .geq 10 6]
def W5 :=[qL 12 1 1,qM 13 3,qJ 14 1 12 13,qL 15 1 14,qO 16 (.J6 .i64 (.t 15)),qO 17 (.bin .shl (.t 16) (.c (.int .u64 8))),qL 18 1 1,qM 19 3,qN 20 .add 19 1,qJ 21 1 18 20,qL 22 1 21,qO 23 (.J6 .i64 (.t 22)),qk 24 .or 17 23,qm 4 24]
def W6 :=[qm 25 3,qn 26 .add 25 4,qm 27 4,qk 28 .add 26 27,qn 29 .add 28 2,qm 5 29]
def W7 :=[qm 30 4,qn 31 .gtr 30 4000,qm 32 31,qg 32 false (qm 33 5),qg 32 false (ql 34 1 1),qg 32 false (qe 35 34),qg 32 false (qk 36 .gtr 33 35),qP 37 32 36]
def W8 :=[ql 38 1 1,qm 39 3,qn 40 .add 39 4,qm 41 5,qn 42 .sub 41 2,qo 43 (.IF 1 (.t 38) (some (.t 40)) (some (.t 42)) none),qo 44 (.me (.b2s) [(.t 43)]),qm 6 44]
def W9 :=[qM 45 6,qC 46 lZ [45],qL 47 1 1,qM 48 3,qM 49 5,qO 50 (.IF 1 (.t 47) (some (.t 48)) (some (.t 49)) none),qC 51 lk [46,50],qO 52 (.un .not (.t 51)),qM 53 52,qg 53 false (qM 54 0),qg 53 false (qM 55 5),qg 53 false (qM 56 6),qg 53 false (qo 57 (.call false (.t 54) [(.t 55),(.t 56)])),qg 53 false (qu 58 57),qP 59 53 58]
def Xa :=[qm 60 5,qm 3 60]
def fU:Abs.cF:=sI [0,1,3,11] W4 11 .eo (.exit 0) (.bO 1 (sR [0,1,3,4] W5 (sR [0,1,3,4,5] W6 (sI [0,1,3,5,37] W7 37 .ret .eo (sR [0,1,3,5,6] W8 (sI [0,1,5,59] W9 59 .ret .eo (.cr [0,1,3] Xa)))))))
def la:Abs.Fn:=⟨2,[],sR [0,1,3] W3 (.bO 0 (.loop [0,1,3] false fU))⟩
attribute [simp] W3 W4 W5 W6 W7 W8 W9 Xa
def Xb :=[qb 4 false]
def Xc :=[qm 6 0,qe 7 6,qm 8 1,qe 9 8,qk 10 .neq 7 9]
def Xd :=[qb 4 false]
def Xe :=[qm 11 0,qe 12 11,qi 13 0]
def Xf :=[qk 14 .lss 13 12]
def Xg :=[qm 15 13,qm 5 15]
def Xh :=[qM 16 0,qM 17 5,qJ 18 1 16 17,qL 19 1 18,qM 20 1,qM 21 5,qJ 22 1 20 21,qL 23 1 22,qk 24 .neq 19 23]
def Xi :=[qb 4 false]
def Xj :=[qn 25 .add 13 1,qm 13 25]
def lL:Abs.cF:=sR [0,1,12,13,14] Xf (.seq (.ite (.t 14) .eo (.exit 0)) (.seq (.bO 1 (sR [0,1,5,12,13] Xg (sR [0,1,12,13,24] Xh (.ite (.t 24) (sR [4] Xi .ret) .eo)))) (.cr [0,1,12,13] Xj)))
def Pk :=[qb 4 true]
def oA:Abs.Fn:=⟨2,[.t 4],sR [0,1] Xb (sE [0,1,10] Xc 10 [4] Xd (sL [0,1,12,13] Xe 0 [0,1,12,13] false lL (sR [4] Pk .ret)))⟩
attribute [simp] Xb Xc Xd Xe Xf Xg Xh Xi Xj Pk
def Xk :=[qo 4 (.M0)]
def Xl :=[qo 6 (.isi false (.t 4))]
def Xm :=[qm 1 4]
def Xn :=[qo 7 (.tas 311 (some (.agg [zI])) (.t 4)),qz 8 7 1,qz 9 7 0]
def Xo :=[qo 2 (.fm [] [zI]),qs 2 1 2 9]
def Xp :=[qf 10 0 2,qv 11 2 1 10,qt 1 0 11]
def Xq :=[qm 3 4]
def Xr :=[qm 5 3]
def Xt:List Abs.Op:=[]
def jw:Abs.Fn:=⟨1,[],sR [0,4] Xk (.bO 0 (sR [0,4,6] Xl (.ite (.t 6) (.cr [] Xm) (sR [0,4,8,9] Xn (.ite (.t 8) (sR [0,2] Xo (.cr [] Xp)) (sR [3] Xq (.iY [] Xr ⟨none,none,false,.MZ (.t 5)⟩ Xt)))))))⟩
attribute [simp] Xk Xl Xm Xn Xo Xp Xq Xr Xt
def Xu :=[qo 2 (.fm [] [(.bool false),zI,zI,.iW]),qo 3 (.mv (.c (.str []))),qo 4 (.qh 1)]
def Xv :=[qm 10 0,qo 11 (.call false (.c (.fn gS [] [])) [(.t 10),(.c (.str [32]))]),qm 5 11]
def Xw :=[qo 13 (.call true (.c (.fn pX [] [])) []),qM 14 5,qO 15 (.fM 1 (.t 14) (.c zI)),qO 16 (.SZ false 1 (.t 15)),qO 17 (.mp (.get none (.agg [(.bool false),zI,zI,.iW]) true) [(.t 13),(.t 16)]),qM 12 17,qZ 18 12 0,qZ 19 12 1,qS 2 4 2 18,qm 6 19]
def Xx :=[qm 20 6]
def Xy:List Abs.Op:=[]
def Xz :=[qm 22 5,qo 23 (.IF 1 (.t 22) (some (.c (.int .i64 1))) none none),qm 5 23]
def XA :=[qf 24 0 2,qv 25 2 1 24]
def XB :=[qm 26 5,qe 27 26,qn 28 .gtr 27 0]
def XC:List Abs.Op:=[]
def XD :=[qM 30 5,qO 31 (.fM 1 (.t 30) (.c zI)),qL 32 1 31,qM 33 5,qO 34 (.IF 1 (.t 33) (some (.c (.int .i64 1))) none none),qM 3 32,qm 5 34]
def Pl :=[qm 35 5,qe 36 35,qi 37 0]
def Pm :=[qk 38 .lss 37 36]
def Pn :=[qj 39 1 35 37,ql 40 1 39,qm 8 40]
def Po :=[qm 41 4,qm 42 8]
def Pp :=[qo 44 (.uU 1 1 [zI] [(0,1,(.t 43))]),qy 45 1 8 41 44,qm 4 45]
def Pq :=[qn 46 .add 37 1,qm 37 46]
def nw:Abs.cF:=sR [2,3,4,35,36,37,38] Pm (.seq (.ite (.t 38) .eo (.exit 0)) (.seq (.bO 1 (sR [2,3,4,8,35,36,37] Pn (.iY [2,3,4,35,36,37] Po ⟨some 43,none,false,.call false (.c (.fn lY [] [])) [(.t 42)]⟩ Pp))) (.cr [2,3,4,35,36,37] Pq)))
def Pr :=[qm 47 4,qe 48 47,qf 49 1 2,qv 50 2 1 49,qk 51 .sub 48 50,qm 9 51]
def Ps :=[qm 52 9,qn 53 .eql 52 0,qm 54 53,qg 54 false (qm 55 9),qg 54 false (qn 56 .gtr 55 0),qg 54 false (qm 57 56),qg 57 true (qf 58 2 2),qg 57 true (qv 59 2 1 58),qg 57 true (qn 60 .gtr 59 0),qg 54 false (qp 61 57 60),qg 54 false (qm 62 61),qg 62 true (qm 63 9),qg 62 true (qf 64 2 2),qg 62 true (qv 65 2 1 64),qg 62 true (qk 66 .rem 63 65),qg 62 true (qn 67 .eql 66 0),qg 54 false (qp 68 62 67),qP 69 54 68]
def Pv:List Abs.Op:=[]
def Pw :=[qw 71 2 4 2,qm 72 3,qm 73 4,qs 2 4 2 71,qm 3 72,qm 4 73]
def fT:Abs.Fn:=⟨1,[.v 2 true 4,.t 3,.t 4],sR [0,2,3,4] Xu (sR [2,3,4,5] Xv (sR [2,3,4,5,6] Xw (.seq (.iY [2,3,4,5] Xx ⟨some 21,none,false,.call false (.c (.fn aZ [] [])) [(.t 20),(.c (.int .i64 4))]⟩ Xy) (sR [2,3,4,5] Xz (sI [2,3,4,5,25] XA 25 (.seq (.iY [2,4,5] XB ⟨some 29,none,false,.call false (.c (.fn aZ [] [])) [(.t 28),(.c (.int .i64 4))]⟩ XC) (.cr [2,3,4,5] XD)) .eo (sL [2,3,4,35,36,37] Pl 0 [2,3,4,35,36,37] false nw (sR [2,3,4,9] Pr (.seq (.iY [2,3,4] Ps ⟨some 70,none,false,.call false (.c (.fn aZ [] [])) [(.t 69),(.c (.int .i64 4))]⟩ Pv) (sR [2,3,4] Pw .ret)))))))))⟩
attribute [simp] Xu Xv Xw Xx Xy Xz XA XB XC XD Pl Pm Pn Po Pp Pq Pr Ps Pv Pw
def aoF :=[qi 4 0]
def aoG :=[qm 6 0,qe 7 6,qi 8 0]
def aoH :=[qk 9 .lss 8 7]
def aoI :=[qm 10 8,qm 5 10]
def aoJ :=[qm 11 1,qm 12 0,qm 13 5,qj 14 1 12 13,ql 15 1 14,qo 16 (.call false (.t 11) [(.t 15)])]
def aoK :=[qm 17 5,qm 4 17]
def aoL :=[qn 18 .add 8 1,qm 8 18]
def wi:Abs.cF:=sR [0,1,7,8,9] aoH (.seq (.ite (.t 9) .eo (.exit 0)) (.seq (.bO 1 (sR [0,1,5,7,8] aoI (sR [0,1,5,7,8,16] aoJ (.ite (.t 16) (sR [4] aoK .ret) .eo)))) (.cr [0,1,7,8] aoL)))
def aoM :=[qi 4 (-1)]
def sw:Abs.Fn:=⟨2,[.t 4],sR [0,1] aoF (sL [0,1,7,8] aoG 0 [0,1,7,8] false wi (sR [4] aoM .ret))⟩
def aoN :=[qb 4 false]
def aoO :=[qm 5 0,qm 6 1,qc 7 eC [5,6],qn 8 .geq 7 0,qm 4 8]
def mX:Abs.Fn:=⟨2,[.t 4],sR [0,1] aoN (sR [4] aoO .ret)⟩
def aoP :=[qb 3 false]
def aoQ :=[ql 4 1 1,qm 5 0,qo 6 (.call false (.t 4) [(.t 5)]),qu 7 6,qm 3 7]
def yg:Abs.Fn:=⟨2,[.t 3],sR [0,1] aoP (sR [3] aoQ .ret)⟩
def XE :=[qx 1 0,qi 2 0]
def XF :=[qa 3 4 1,qc 4 cQ [3],qm 2 4]
def o9:Abs.Fn:=⟨1,[.t 2],sR [1] XE (sR [2] XF .ret)⟩
attribute [simp] XE XF
def XG :=[qi 2 0]
def XH :=[qm 3 0,qc 4 jf [3],qu 5 4]
def XI :=[qi 2 1]
def XJ :=[qi 2 0]
def pK:Abs.Fn:=⟨1,[.t 2],sR [0] XG (sE [5] XH 5 [2] XI (sR [2] XJ .ret))⟩
attribute [simp] XG XH XI XJ
def aoR :=[qx 3 1,qb 4 false]
def aoS :=[qm 5 0,qo 6 (.xW lP [] [(.t 3)]),qc 7 fp [5,6],qu 8 7,qm 4 8]
def vN:Abs.Fn:=⟨2,[.t 4],sR [0,3] aoR (sR [4] aoS .ret)⟩
def XK :=[qx 2 0,qb 3 false]
def XL :=[qf 4 0 2,ql 5 1 4,ql 6 1 1,qe 7 6,qn 8 .sub 7 1,qo 9 (.call false (.c (.fn cn [] [])) [(.t 5),(.c zI),(.t 8)]),qu 10 9,qm 11 10,qg 11 false (ql 12 1 1),qg 11 false (qf 13 0 2),qg 11 false (ql 14 1 13),qg 11 false (qj 15 1 12 14),qg 11 false (ql 16 1 15),qP 17 11 16]
def XM :=[qb 3 false]
def XN :=[ql 18 1 1,qf 19 0 2,ql 20 1 19,qj 21 1 18 20,⟨none,none,false,.st [] 1 (.t 21) (.c (.bool true))⟩]
def XO :=[qf 22 1 2,ql 23 1 22,qo 24 (.call false (.c (.fn cn [] [])) [(.t 23),(.c zI),(.c (.int .i64 3000))]),qm 25 24,qg 25 true (qf 26 2 2),qg 25 true (ql 27 1 26),qg 25 true (qo 28 (.call false (.c (.fn cn [] [])) [(.t 27),(.c zI),(.c (.int .i64 1000000))])),qp 29 25 28,qm 3 29]
def pq:Abs.Fn:=⟨2,[.t 3],sR [1,2] XK (sE [1,2,17] XL 17 [3] XM (sR [2] XN (sR [3] XO .ret)))⟩
attribute [simp] XK XL XM XN XO
def tF1:List (Nat×ub×Abs.Fn):=[A0 ng tp,A4 [] iQ nD [] [4,12] [4] [(1,[(0,1),(1,1)]),(1004,[(0,1),(1,1)]),(8011,[(0,1),(1,1)]),(8013,[(0,1)]),(10001,[(0,1),(1,1)])] [] [] [] [] [(7,some 2)],A3 [] jf oE [] [4,5] [4,5] [] [],A0 nT rD,A0 iw nI,A3 [] oS sn [] [4] [4] [] [],A3 [0,1,4,3,6,5,2,7,8,9,10,11,12] oT so [] [4] [4] [] [],A2 [] jI pj [] [3],A0 sW vA,A3 [] jz mJ [] [4] [4] [] [],(mr,Df,pg),A2 [] kJ rl [] [2],A0 kI nz,(aJ,Cy,om),A0 eF pR,A0 iM rk,A0 lf oh,A0 qT vx,A0 dw nk,A0 pW AG,A0 gF mD,A0 dS uh,A0 mj pa,A0 mm pc,A0 lW rX,A2 [] jL sh [] [3],A0 cn vC,A0 ja od,A0 iP ur,A0 oP ux,A2 [] jP pC [0] [4],A0 dn tt,A3 [] fV lI [] [9] [9] [] [],A3 [] uF wU [] [0] [0] [] [],A0 dc iA,A0 fJ mh,A0 uG wW,A0 cY gU,A0 fh lO,A0 fZ lM,A0 fI nK,A0 fY jG,A0 iT mi,A0 oN sf,A2 [] je ou [] [2],(my,Dg,pH),A0 dA uB,A0 jA va,A0 kM rC,A0 ln oF,A0 kh uo,A0 iN um,A2 [] eg nB [] [1],A0 j4 sP,A0 nf tn,A0 ll oD,A2 [] nP rn [] [3],A2 [] lZ rZ [] [22],A0 eQ la,A0 lk oA,A4 [0,3,2,5,6,4,1,7] da jw [] [0,2] [2] [] [] [] [] [] [(2,some 1)],A4 [] dk fT [] [2,4] [2] [] [2000] [] [14] [] [(3,some 1),(6,some 3),(11,some 2),(14,some 18)],A0 jr sw,A0 bZ mX,A0 rF yg,A0 jH o9,A0 jR pK,A0 kj vN,A0 fF pq]
theorem kF1:(tF1.map fun p=>chk p)=tF1.map fun p=>some p.2.2:=by kernel_rfl
end Go.Proofs.YtfgljaglidhjiaaGreatDoor
