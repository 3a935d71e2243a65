import Derived.Test.YtfgljaglidhjiaaGreatDoorIds
set_option linter.all false
set_option maxRecDepth 100000
namespace Go.Proofs.YtfgljaglidhjiaaGreatDoor
open Go Go.Abs
def akL :=[qx 2 0,qx 3 1,qo 4 (.mv (.c .iX))]
def akM :=[qa 5 4 2,qf 6 1 3,ql 7 1 6,qf 8 2 3,ql 9 1 8,qf 10 3 3,ql 11 1 10,qo 12 (.lh [zI,zI,zI,zI,zI,.aG,.aG] [(0,4,(.t 5)),(4,1,(.t 7)),(5,1,(.t 9)),(6,1,(.t 11))]),qo 13 (.yq lQ [(.t 12)] []),qm 4 13]
def mW:Abs.Fn:=⟨2,[.t 4],sR [2,3] akL (sR [4] akM .ret)⟩
attribute [simp] akL akM
def akN :=[qx 3 0,qi 6 0]
def akO :=[qa 8 9 3,qc 9 jD [8],qu 10 9,qm 7 10]
def akP :=[qi 6 1]
def akQ :=[qm 12 1,qe 13 12,qo 14 (.call false (.c (.fn cj [] [])) [(.t 13),(.c (.int .i64 1)),(.c (.int .i64 40))]),qu 15 14,qm 11 15]
def akR :=[qi 6 3]
def akS :=[qf 17 0 3,qa 18 4 17,qm 19 1,qc 20 iR [18,19],qn 21 .neq 20 0,qm 22 21,qg 22 false (qm 23 1),qg 22 false (qo 24 (.yq oB [] [(.t 3)])),qg 22 false (qc 25 iH [23,24]),qg 22 false (qu 26 25),qP 27 22 26,qm 16 27]
def akT :=[qi 6 1]
def akU :=[qa 28 9 3,qm 29 2,qc 30 mR [28,29],qm 6 30]
def wJ:Abs.Fn:=⟨3,[.t 6],sR [1,2,3] akN (.seq (.bO 0 (sR [1,2,3,7] akO (.ite (.t 7) (sR [6] akP .ret) (sR [1,2,3,11] akQ (.ite (.t 11) (sR [6] akR .ret) (sR [2,3,16] akS (.ite (.t 16) (sR [6] akT .ret) .dJ))))))) (sR [6] akU .ret))⟩
attribute [simp] akN akO akP akQ akR akS akT akU
def akV :=[qx 3 0,qx 4 1,qi 6 0]
def akW :=[qf 9 1 4,ql 10 1 9,qo 11 (.JG .i64 (.t 10)),qo 12 (.call false (.c (.fn cj [] [])) [(.t 11),(.c (.int .i64 1)),(.c (.int .i64 4))]),qu 13 12,qm 14 13,qg 14 false (qf 15 3 4),qg 14 false (qf 16 0 15),qg 14 false (ql 17 1 16),qg 14 false (qn 18 .lss 17 (-10000000000)),qP 19 14 18,qm 20 19,qg 20 false (qf 21 3 4),qg 20 false (qf 22 0 21),qg 20 false (ql 23 1 22),qg 20 false (qf 24 3 4),qg 20 false (qf 25 1 24),qg 20 false (ql 26 1 25),qg 20 false (qk 27 .gtr 23 26),qP 28 20 27,qm 29 28,qg 29 false (qf 30 3 4),qg 29 false (qf 31 1 30),qg 29 false (ql 32 1 31),qg 29 false (qn 33 .gtr 32 10000000000),qP 34 29 33]
def akX :=[qi 6 1]
def akY :=[qF 35 8 3,qL 36 1 35,qE 37 36,qO 7 (.mv (.c (.int .i64 1))),qm 8 37]
def akZ :=[qf 38 1 4,ql 39 1 38,qo 40 (.bin .eql (.t 39) (.c (.int .u8 1)))]
def ak0 :=[qa 41 9 3,qc 42 dk [41],qi 7 0,qm 8 42]
def ak1 :=[qf 43 0 4,ql 44 1 43,qm 45 7,qm 46 2,qc 47 cj [44,45,46],qu 48 47,qm 49 48,qg 49 false (qf 50 2 4),qg 49 false (ql 51 1 50),qg 49 false (qm 52 8),qg 49 false (qn 53 .sub 52 1),qg 49 false (qo 54 (.call false (.c (.fn cj [] [])) [(.t 51),(.c zI),(.t 53)])),qg 49 false (qu 55 54),qP 56 49 55]
def ak2 :=[qi 6 2]
def ak3 :=[qi 6 0]
def oX:Abs.Fn:=⟨3,[.t 6],sR [2,3,4] akV (sE [2,3,4,34] akW 34 [6] akX (sR [2,3,4,7,8] akY (sI [2,3,4,7,8,40] akZ 40 (.cc [2,4,7,8] ak0) .dJ (sE [56] ak1 56 [6] ak2 (sR [6] ak3 .ret)))))⟩
attribute [simp] akV akW akX akY akZ ak0 ak1 ak2 ak3
def ak4 :=[qo 5 (.My)]
def ak5 :=[qo 7 (.isi false (.t 5))]
def ak6 :=[qm 2 5]
def ak7 :=[qo 8 (.tas 262 (some (.agg [])) (.t 5)),qz 9 8 1,qz 10 8 0]
def ak8 :=[qo 3 (.ek [] []),qs 3 0 3 10]
def ak9 :=[qm 11 0,qo 12 (.mG (.t 11)),⟨none,none,false,.st [] 1 (.t 12) (.c (.int .i64 9))⟩]
def ala :=[qm 4 5]
def alb :=[qm 6 4]
def ald:List Abs.Op:=[]
def pM:Abs.Fn:=⟨1,[],sR [0,5] ak4 (.bO 0 (sR [0,5,7] ak5 (.ite (.t 7) (.cc [] ak6) (sR [0,5,9,10] ak7 (.ite (.t 9) (sR [0] ak8 (.cc [] ak9)) (sR [4] ala (.iO [] alb ⟨none,none,false,.Mw (.t 6)⟩ ald)))))))⟩
attribute [simp] ak4 ak5 ak6 ak7 ak8 ak9 ala alb ald
def ale :=[qx 3 0,qo 6 (.pI 2)]
def alf :=[qm 9 1,qe 10 9,qi 11 0]
def alg :=[qk 12 .lss 11 10]
def alh :=[qj 13 2 9 11,qa 14 2 13,qo 8 (.ek [] [(.str []),.aG]),qs 8 2 8 14]
def ali :=[qm 15 6,qa 16 9 3,qw 17 8 2 8,qo 18 (.lh [zI,zI,zI,zI,.aG,zI,zI,zI,.aG,(.str []),.aG] [(0,9,(.t 16)),(9,2,(.t 17))]),qm 19 2]
def alj :=[qo 21 (.tH 1 2 [.aG,.aG] [(0,2,(.t 20))]),qy 22 2 48 15 21,qm 6 22]
def alk :=[qn 23 .add 11 1,qm 11 23]
def tY:Abs.cH:=sR [2,3,6,9,10,11,12] alg (.seq (.ite (.t 12) .dJ (.exit 0)) (.seq (.bO 1 (sR [2,3,6,8,9,10,11] alh (.iO [2,3,6,9,10,11] ali ⟨some 20,none,false,.call false (.c (.fn iI [] [])) [(.t 18),(.t 19)]⟩ alj))) (.cc [2,3,6,9,10,11] alk)))
def alm :=[qm 24 6,qm 6 24]
def vF:Abs.Fn:=⟨3,[.t 6],sR [1,2,3,6] ale (sL [2,3,6,9,10,11] alf 0 [2,3,6,9,10,11] false tY (sR [6] alm .ret))⟩
attribute [simp] ale alf alg alh ali alj alk alm
def aln :=[qx 2 0,qi 4 0]
def alo :=[qm 5 1,qf 6 1 2,ql 7 1 6,qk 8 .sub 5 7,qo 9 (.mx (.c zI) (.t 8)),qm 10 1,qf 11 0 2,ql 12 1 11,qk 13 .sub 10 12,qo 14 (.mn (.c zI) (.t 13)),qk 15 .add 9 14,qm 4 15]
def qG:Abs.Fn:=⟨2,[.t 4],sR [1,2] aln (sR [4] alo .ret)⟩
attribute [simp] aln alo
def alp :=[qx 3 0,qx 4 1,qx 5 2,qi 6 0]
def alq :=[qf 7 1 5,ql 8 1 7,qo 9 (.bin .eql (.t 8) (.c (.int .u8 1)))]
def alr :=[qA 10 11 3,qF 11 0 4,qL 12 1 11,qF 13 0 5,qL 14 1 13,qJ 15 1 12 14,qL 16 1 15,qF 17 2 5,qL 18 1 17,qc 19 fO [10,16,18],qm 6 19]
def als :=[qC 20 uh [],qF 21 1 5,qL 22 1 21,qO 23 (.JP false 5 1 (.t 20) (.t 22)),qF 24 1 4,qL 25 1 24,qF 26 0 5,qL 27 1 26,qN 28 .sub 27 1,qJ 29 1 25 28,qL 30 1 29,qF 31 2 5,qL 32 1 31,qJ 33 3 30 32,qA 34 3 33,qo 35 (.call false (.t 23) [(.t 34)]),qm 6 35]
def oc:Abs.Fn:=⟨3,[.t 6],sR [3,4,5] alp (sE [3,4,5,9] alq 9 [6] alr (sR [6] als .ret))⟩
attribute [simp] alp alq alr als
def avv :=[qx 3 1,qb 4 false]
def avw :=[qm 5 0,qo 6 (.yq fH [] [(.t 3)]),qc 7 da [5,6],qu 8 7,qm 4 8]
def nE:Abs.Fn:=⟨2,[.t 4],sR [0,3] avv (sR [4] avw .ret)⟩
def alu :=[qx 1 0,qb 2 false]
def alv :=[qf 3 0 1,qa 4 3 3,qf 5 3 1,qa 6 3 5,qc 7 ui [4,6],qm 8 7,qg 8 true (qf 9 6 1),qg 8 true (ql 10 1 9),qg 8 true (qo 11 (.call false (.c (.fn ch [] [])) [(.t 10),(.c zI),(.c (.int .i64 160))])),qp 12 8 11,qm 13 12,qg 13 true (qf 14 7 1),qg 13 true (ql 15 1 14),qg 13 true (qo 16 (.call false (.c (.fn ch [] [])) [(.t 15),(.c (.int .i64 1)),(.c (.int .i64 1000000))])),qp 17 13 16,qm 18 17,qg 18 true (qf 19 8 1),qg 18 true (ql 20 1 19),qg 18 true (qo 21 (.call false (.c (.fn ch [] [])) [(.t 20),(.c (.int .i64 1)),(.c (.int .i64 200))])),qp 22 18 21,qm 23 22,qg 23 true (qf 24 9 1),qg 23 true (ql 25 1 24),qg 23 true (qo 26 (.bin .eql (.t 25) (.c (.int .u8 1)))),qg 23 true (qm 27 26),qg 27 false (qf 28 9 1),qg 27 false (ql 29 1 28),qg 27 false (qo 30 (.bin .eql (.t 29) (.c (.int .u8 2)))),qg 23 true (qP 31 27 30),qp 32 23 31,qm 2 32]
def oj:Abs.Fn:=⟨1,[.t 2],sR [1] alu (sR [2] alv .ret)⟩
attribute [simp] alu alv
def avx :=[qx 3 1,qb 4 false]
def avy :=[qm 5 0,qo 6 (.yq ff [] [(.t 3)]),qc 7 cV [5,6],qu 8 7,qm 4 8]
def mM:Abs.Fn:=⟨2,[.t 4],sR [0,3] avx (sR [4] avy .ret)⟩
def alw :=[qx 1 0,qb 2 false]
def alx :=[qf 3 0 1,ql 4 1 3,qo 5 (.call false (.c (.fn ch [] [])) [(.t 4),(.c zI),(.c (.int .i64 1000000))]),qm 6 5,qg 6 true (qf 7 1 1),qg 6 true (ql 8 1 7),qg 6 true (qe 9 8),qg 6 true (qo 10 (.call false (.c (.fn ch [] [])) [(.t 9),(.c (.int .i64 1)),(.c (.int .i64 2000))])),qp 11 6 10,qm 12 11,qg 12 true (qf 13 1 1),qg 12 true (ql 14 1 13),qg 12 true (qo 15 (.call false (.c (.fn eN [] [])) [(.t 14),(.c (.fn fS [] []))])),qp 16 12 15,qm 2 16]
def nj:Abs.Fn:=⟨1,[.t 2],sR [1] alw (sR [2] alx .ret)⟩
attribute [simp] alw alx
def aly :=[qb 6 false]
def alz :=[qm 7 1,qm 8 0,qk 9 .leq 7 8,qm 10 9,qg 10 true (qm 11 0),qg 10 true (qm 12 2),qg 10 true (qk 13 .leq 11 12),qp 14 10 13,qm 6 14]
def sQ:Abs.Fn:=⟨3,[.t 6],sR [0,1,2] aly (sR [6] alz .ret)⟩
attribute [simp] aly alz
def alA :=[qx 2 0,qx 3 1,qb 4 false]
def alB :=[qf 6 0 3,qa 7 3 6,qo 5 (.ek [] [zI,zI,zI]),qs 5 3 5 7]
def alC :=[qf 8 3 3,ql 9 1 8,qf 10 6 2,ql 11 1 10,qk 12 .geq 9 11,qm 13 12,qg 13 true (qf 14 0 5),qg 13 true (qv 15 5 1 14),qg 13 true (qf 16 0 2),qg 13 true (qf 17 0 16),qg 13 true (ql 18 1 17),qg 13 true (qf 19 3 2),qg 13 true (qf 20 0 19),qg 13 true (ql 21 1 20),qg 13 true (qc 22 ch [15,18,21]),qp 23 13 22,qm 24 23,qg 24 true (qf 25 1 5),qg 24 true (qv 26 5 1 25),qg 24 true (qf 27 0 2),qg 24 true (qf 28 1 27),qg 24 true (ql 29 1 28),qg 24 true (qf 30 3 2),qg 24 true (qf 31 1 30),qg 24 true (ql 32 1 31),qg 24 true (qc 33 ch [26,29,32]),qp 34 24 33,qm 35 34,qg 35 true (qf 36 2 5),qg 35 true (qv 37 5 1 36),qg 35 true (qf 38 0 2),qg 35 true (qf 39 2 38),qg 35 true (ql 40 1 39),qg 35 true (qf 41 3 2),qg 35 true (qf 42 2 41),qg 35 true (ql 43 1 42),qg 35 true (qc 44 ch [37,40,43]),qp 45 35 44,qm 4 45]
def nq:Abs.Fn:=⟨2,[.t 4],sR [2,3] alA (sR [2,3,5] alB (sR [4] alC .ret))⟩
attribute [simp] alA alB alC
def avz :=[qb 4 false]
def avA :=[qm 5 0,qm 6 1,qc 7 fR [5,6],qn 8 .geq 7 0,qm 4 8]
def ic:Abs.Fn:=⟨2,[.t 4],sR [0,1] avz (sR [4] avA .ret)⟩
def avB :=[qx 3 1,qb 4 false]
def avC :=[qm 5 0,qo 6 (.yq iL [] [(.t 3)]),qc 7 ck [5,6],qu 8 7,qm 4 8]
def nF:Abs.Fn:=⟨2,[.t 4],sR [0,3] avB (sR [4] avC .ret)⟩
def alD :=[qx 2 0,qx 3 1,qo 4 (.ek [] [zI,zI,zI,zI,.aG,zI,zI,zI,.aG,(.str []),.aG]),qi 5 0]
def alE :=[qa 7 9 2,qa 8 2 3,qo 9 (.lh [zI,zI,zI,zI,.aG,zI,zI,zI,.aG,(.str []),.aG] [(0,9,(.t 7)),(9,2,(.t 8))]),qo 6 (.ek [] [zI,zI,zI,zI,.aG,zI,zI,zI,.aG,(.str []),.aG]),qs 6 11 6 9]
def alF :=[qa 10 9 2,qc 11 jD [10],qu 12 11,qm 13 12,qg 13 false (qw 14 6 11 6),qg 13 false (qc 15 jH [14]),qg 13 false (qu 16 15),qP 17 13 16]
def alG :=[qo 18 (.lh [zI,zI,zI,zI,.aG,zI,zI,zI,.aG,(.str []),.aG] []),qs 4 11 4 18,qi 5 1]
def alH :=[qw 19 6 11 6,qs 4 11 4 19,qi 5 0]
def xk:Abs.Fn:=⟨2,[.v 4 true 11,.t 5],sR [2,3,4] alD (sR [2,4,6] alE (sE [4,6,17] alF 17 [4,5] alG (sR [4,5] alH .ret)))⟩
attribute [simp] alD alE alF alG alH
def alI :=[qx 2 0,qi 4 0]
def alJ :=[qm 8 1,qe 9 8,qn 10 .gtr 9 200]
def alK :=[qi 4 3]
def alL :=[qm 11 1,qe 12 11,qi 13 0]
def alM :=[qk 14 .lss 13 12]
def alN :=[qj 15 1 11 13,ql 16 1 15,qm 6 16]
def alO :=[qa 17 9 2,qm 18 6,qc 19 oz [17,18],qm 7 19]
def alP :=[qm 20 7,qn 21 .neq 20 0]
def alQ :=[qm 22 7,qm 4 22]
def alR :=[qn 23 .add 13 1,qm 13 23]
def nX:Abs.cH:=sR [2,11,12,13,14] alM (.seq (.ite (.t 14) .dJ (.exit 0)) (.seq (.bO 1 (sR [2,6,11,12,13] alN (sR [2,7,11,12,13] alO (sR [2,7,11,12,13,21] alP (.ite (.t 21) (sR [4] alQ .ret) .dJ))))) (.cc [2,11,12,13] alR)))
def adI :=[qi 4 0]
def sM:Abs.Fn:=⟨2,[.t 4],sR [1,2] alI (sE [1,2,10] alJ 10 [4] alK (sL [2,11,12,13] alL 0 [2,11,12,13] false nX (sR [4] adI .ret)))⟩
attribute [simp] alI alJ alK alL alM alN alO alP alQ alR adI
def alS :=[qx 2 0,qo 4 (.ek [(0,1),(1,1)] [.aG,.aG])]
def alT :=[qa 10 11 2,qc 11 iV [10],qo 12 (.KX 1 1 [.aG] [(0,1,(.t 11))]),qf 13 0 4,⟨none,none,false,.Er 4 [(0,1),(1,1)] 1 13 (.t 12)⟩]
def alU :=[qm 14 1,qe 15 14,qi 16 0]
def alV :=[qk 17 .lss 16 15]
def alW :=[qm 18 16,qj 19 1 14 16,ql 20 1 19,qm 5 18,qm 6 20]
def alX :=[qA 22 11 2,qF 23 0 4,qV 24 4 1 23,qM 25 5,qJ 26 1 24 25,qL 27 1 26,qM 28 6,qC 29 ma [22,27,28],qM 21 29,qZ 30 21 0,qZ 31 21 1,qZ 32 21 2,qM 7 30,qM 8 31,qm 9 32]
def alY :=[qm 33 9,qn 34 .neq 33 0]
def alZ :=[qo 35 (.lh [] []),qo 36 (.mki 262 (.t 35))]
def al0:List Abs.Op:=[]
def al1 :=[qF 37 0 4,qV 38 4 1 37,qM 39 7,qO 40 (.tH 1 1 [.aG] [(0,1,(.t 39))]),qO 41 (.app 1 24 (.t 38) (.t 40)),qF 42 1 4,qV 43 4 1 42,qM 44 8,qO 45 (.tH 1 1 [.aG] [(0,1,(.t 44))]),qO 46 (.app 1 24 (.t 43) (.t 45)),qF 47 0 4,⟨none,none,false,.Er 4 [(0,1),(1,1)] 1 47 (.t 41)⟩,qf 48 1 4,⟨none,none,false,.Er 4 [(0,1)] 1 48 (.t 46)⟩]
def adJ :=[qn 49 .add 16 1,qm 16 49]
def mA:Abs.cH:=sR [2,4,14,15,16,17] alV (.seq (.ite (.t 17) .dJ (.exit 0)) (.seq (.bO 1 (sR [2,4,5,6,14,15,16] alW (sR [2,4,7,8,9,14,15,16] alX (sI [2,4,7,8,14,15,16,34] alY 34 (.iO [2,4,7,8,14,15,16] alZ ⟨none,none,false,.Mw (.t 36)⟩ al0) .dJ (.cc [2,4,14,15,16] al1))))) (.cc [2,4,14,15,16] adJ)))
def adK :=[qw 50 4 2 4,⟨none,none,false,.Er 4 [(0,1),(1,1)] 2 4 (.t 50)⟩]
def nc:Abs.Fn:=⟨2,[.v 4 true 2],sR [1,2,4] alS (sR [1,2,4] alT (sL [2,4,14,15,16] alU 0 [2,4,14,15,16] false mA (sR [4] adK .ret)))⟩
attribute [simp] alS alT alU alV alW alX alY alZ al0 al1 adJ adK
def al2 :=[qb 2 false]
def al3 :=[qm 6 0,qe 7 6,qo 8 (.call false (.c (.fn dq [] [])) [(.t 7),(.c (.int .i64 2)),(.c (.int .i64 20))]),qu 9 8,qm 10 9,qg 10 false (qm 11 0),qg 10 false (qo 12 (.call false (.c (.fn jr [] [])) [(.t 11),(.c (.fn kG [] []))])),qg 10 false (qu 13 12),qP 14 10 13]
def al4 :=[qb 2 false]
def al5 :=[qm 15 0,qo 16 (.Jc 5 (.t 15) (some (.c (.int .i64 1))) none none),qe 17 16,qi 18 0]
def al6 :=[qk 19 .lss 18 17]
def al7 :=[qm 20 18,qj 21 5 16 18,qa 22 5 21,qo 4 (.ek [] [zI,zI,zI,zI,zI]),qm 3 20,qs 4 5 4 22]
def al8 :=[qm 23 0,qm 24 3,qj 25 5 23 24,qa 26 5 25,qo 5 (.ek [] [zI,zI,zI,zI,zI]),qs 5 5 5 26]
def al9 :=[qf 27 0 4,qv 28 4 1 27,qf 29 0 5,qv 30 5 1 29,qk 31 .leq 28 30,qm 32 31,qg 32 false (qf 33 1 4),qg 32 false (qv 34 4 1 33),qg 32 false (qf 35 1 5),qg 32 false (qv 36 5 1 35),qg 32 false (qk 37 .leq 34 36),qP 38 32 37,qm 39 38,qg 39 false (qf 40 2 4),qg 39 false (qv 41 4 1 40),qg 39 false (qf 42 2 5),qg 39 false (qv 43 5 1 42),qg 39 false (qk 44 .leq 41 43),qP 45 39 44,qm 46 45,qg 46 false (qf 47 4 4),qg 46 false (qv 48 4 1 47),qg 46 false (qf 49 4 5),qg 46 false (qv 50 5 1 49),qg 46 false (qk 51 .lss 48 50),qP 52 46 51]
def ama :=[qb 2 false]
def amb :=[qn 53 .add 18 1,qm 18 53]
def kD:Abs.cH:=sR [0,16,17,18,19] al6 (.seq (.ite (.t 19) .dJ (.exit 0)) (.seq (.bO 1 (sR [0,3,4,16,17,18] al7 (sR [0,4,5,16,17,18] al8 (sR [0,16,17,18,52] al9 (.ite (.t 52) (sR [2] ama .ret) .dJ))))) (.cc [0,16,17,18] amb)))
def adL :=[qb 2 true]
def oh:Abs.Fn:=⟨1,[.t 2],sR [0] al2 (sE [0,14] al3 14 [2] al4 (sL [0,16,17,18] al5 0 [0,16,17,18] false kD (sR [2] adL .ret)))⟩
attribute [simp] al2 al3 al4 al5 al6 al7 al8 al9 ama amb adL
def amc :=[qb 4 false]
def amd :=[qm 5 1,qm 6 0,qe 7 6,qn 8 .sub 7 1,qo 9 (.call false (.c (.fn dq [] [])) [(.t 5),(.c zI),(.t 8)]),qm 4 9]
def qU:Abs.Fn:=⟨2,[.t 4],sR [0,1] amc (sR [4] amd .ret)⟩
attribute [simp] amc amd
def ame :=[qx 1 0,qb 2 false]
def amf :=[qf 3 0 1,ql 4 1 3,qo 5 (.call false (.c (.fn dq [] [])) [(.t 4),(.c zI),(.c (.int .i64 1000000))]),qm 6 5,qg 6 true (qf 7 1 1),qg 6 true (ql 8 1 7),qg 6 true (qf 9 0 1),qg 6 true (ql 10 1 9),qg 6 true (qo 11 (.bin .mul (.c (.int .i64 4000)) (.t 10))),qg 6 true (qo 12 (.call false (.c (.fn dq [] [])) [(.t 8),(.c zI),(.t 11)])),qp 13 6 12,qm 14 13,qg 14 true (qf 15 2 1),qg 14 true (ql 16 1 15),qg 14 true (qf 17 0 1),qg 14 true (ql 18 1 17),qg 14 true (qo 19 (.bin .mul (.c (.int .i64 10000)) (.t 18))),qg 14 true (qo 20 (.call false (.c (.fn dq [] [])) [(.t 16),(.c zI),(.t 19)])),qp 21 14 20,qm 22 21,qg 22 true (qf 23 3 1),qg 22 true (ql 24 1 23),qg 22 true (qo 25 (.call false (.c (.fn dq [] [])) [(.t 24),(.c zI),(.c (.int .i64 1000000000))])),qp 26 22 25,qm 2 26]
def ni:Abs.Fn:=⟨1,[.t 2],sR [1] ame (sR [2] amf .ret)⟩
attribute [simp] ame amf
def amg :=[qo 4 (.ek [] [zI,zI,zI,zI,zI])]
def amh :=[qm 5 0,qm 6 1,qj 7 5 5 6,qa 8 5 7,qo 9 (.lh [zI,zI,zI,zI,zI] [(0,5,(.t 8))]),qs 4 5 4 9]
def rR:Abs.Fn:=⟨2,[.v 4 true 5],sR [0,1,4] amg (sR [4] amh .ret)⟩
attribute [simp] amg amh
def ami :=[qx 2 0,qx 3 1,qo 4 (.ek [] [zI,zI,zI,zI,zI,zI,zI,zI,zI,zI])]
def amj :=[qa 7 5 2,qa 8 4 3,qc 9 la [7,8],qm 5 9]
def amk :=[qm 35 5,qn 36 .eql 35 0,qm 34 36]
def aml :=[qa 37 4 3,qf 38 4 4,qs 4 4 38 37]
def amm :=[qm 40 5,qf 41 0 3,ql 42 1 41,qk 43 .eql 40 42,qm 39 43]
def amn :=[qm 44 5,qf 45 1 3,ql 46 1 45,qf 47 3 3,ql 48 1 47,qo 49 (.lh [zI,zI,zI,zI] [(0,1,(.t 44)),(1,1,(.t 46)),(3,1,(.t 48))]),qf 50 0 4,qs 4 4 50 49]
def amo :=[qm 10 5,qm 11 5,qf 12 0 2,qf 13 3 12,ql 14 1 13,qk 15 .mul 11 14,qf 16 3 3,ql 17 1 16,qo 18 (.lh [zI,zI,zI,zI] [(0,1,(.t 10)),(1,1,(.t 15)),(3,1,(.t 17))]),qf 19 0 4,qs 4 4 19 18]
def amp :=[qf 20 0 3,ql 21 1 20,qm 22 5,qk 23 .sub 21 22,qf 24 1 3,ql 25 1 24,qm 26 5,qf 27 0 2,qf 28 3 27,ql 29 1 28,qk 30 .mul 26 29,qk 31 .sub 25 30,qo 32 (.lh [zI,zI,zI,zI] [(0,1,(.t 23)),(1,1,(.t 31))]),qf 33 4 4,qs 4 4 33 32]
def amq :=[qf 51 2 3,ql 52 1 51,qf 53 4 4,qf 54 0 53,qv 55 4 1 54,qf 56 0 2,qf 57 4 56,ql 58 1 57,qk 59 .mul 55 58,qo 60 (.mn (.t 52) (.t 59)),qm 6 60]
def amr :=[qM 61 6,qF 62 2 3,qL 63 1 62,qM 64 6,qK 65 .sub 63 64,qF 66 4 4,qF 67 2 66,qS 4 1 67 61,qf 68 9 4,qs 4 1 68 65]
def adM :=[qf 69 4 4,qf 70 0 69,qv 71 4 1 70,qn 72 .gtr 71 0]
def adN :=[qf 73 4 4,qf 74 1 73,qv 75 4 1 74,qf 76 4 4,qf 77 0 76,qv 78 4 1 77,qf 79 0 2,qf 80 2 79,ql 81 1 80,qk 82 .mul 78 81,qk 83 .sub 75 82,qo 84 (.mx (.c zI) (.t 83)),qf 85 8 4,qs 4 1 85 84]
def adO :=[qw 86 4 10 4,qs 4 10 4 86]
def rS:Abs.Fn:=⟨2,[.v 4 true 10],sR [2,3,4] ami (sR [2,3,4,5] amj (.seq (.bO 0 (sR [2,3,4,5,34] amk (.ite (.t 34) (.cc [2,3,4] aml) (sR [2,3,4,5,39] amm (.ite (.t 39) (.cc [2,3,4] amn) (sR [2,3,4,5] amo (.cc [2,3,4] amp))))))) (sR [2,3,4,6] amq (sR [2,4] amr (sI [2,4,72] adM 72 (.cc [4] adN) .dJ (sR [4] adO .ret))))))⟩
attribute [simp] ami amj amk aml amm amn amo amp amq amr adM adN adO
def ams :=[qx 1 0,qb 2 false]
def amu :=[qo 3 (.H6 [] [zI]),⟨none,none,false,.st [] 1 (.t 3) (.c (.int .i64 1000))⟩]
def amv :=[qf 4 0 1,ql 5 1 4,qo 6 (.call false (.c (.fn kb [] [])) [(.t 5),(.c zI),(.c (.int .i64 5))]),qm 7 6,qg 7 true (qf 8 1 1),qg 7 true (ql 9 1 8),qg 7 true (qe 10 9),qg 7 true (qo 11 (.call false (.c (.fn kb [] [])) [(.t 10),(.c (.int .i64 1)),(.c (.int .i64 8))])),qp 12 7 11,qm 13 12,qg 13 true (qf 14 1 1),qg 13 true (ql 15 1 14),qg 13 true (qo 16 (.yq ec [] [(.t 3)])),qg 13 true (qc 17 iF [15,16]),qp 18 13 17,qm 2 18]
def oU:Abs.Fn:=⟨1,[.t 2],sR [1] ams (sR [1,3] amu (sR [2] amv .ret))⟩
attribute [simp] ams amu amv
def amw :=[qb 2 false]
def amx :=[qm 3 0,qo 4 (.call false (.c (.fn jV [] [])) [(.t 3),(.c (.fn mQ [] []))]),qm 2 4]
def vl:Abs.Fn:=⟨1,[.t 2],sR [0] amw (sR [2] amx .ret)⟩
attribute [simp] amw amx
def TE :=[qx 1 0,qi 2 0]
def TF :=[qf 5 1 1,ql 6 1 5,qe 7 6,qi 8 0]
def TG :=[qk 9 .lss 8 7]
def TH :=[qj 10 2 6 8,qa 11 2 10,qo 4 (.ek [] [zI,zI]),qs 4 2 4 11]
def TI :=[qm 12 2,qf 13 0 4,qv 14 4 1 13,qk 15 .add 12 14,qm 2 15]
def TJ :=[qn 16 .add 8 1,qm 8 16]
def jS:Abs.cH:=sR [2,6,7,8,9] TG (.seq (.ite (.t 9) .dJ (.exit 0)) (.seq (.bO 1 (sR [2,4,6,7,8] TH (.cc [2,6,7,8] TI))) (.cc [2,6,7,8] TJ)))
def TK :=[qm 17 2,qm 2 17]
def mr:Abs.Fn:=⟨1,[.t 2],sR [1,2] TE (sL [2,6,7,8] TF 0 [2,6,7,8] false jS (sR [2] TK .ret))⟩
attribute [simp] TE TF TG TH TI TJ TK
def TL :=[qx 2 0,qo 4 (.H6 [] [zI])]
def TM :=[qa 7 2 2,qm 8 1,qo 9 (.call true (.c (.fn nw [] [])) [(.t 7),(.t 8)])]
def TN :=[qo 5 (.ek [] [zI,zI]),qs 5 2 5 10]
def TO :=[qm 6 11]
def TP :=[ql 12 1 4,qf 13 1 5,qv 14 5 1 13,qm 15 6,qk 16 .mul 14 15,qk 17 .add 12 16,qt 1 4 17]
def mu:Abs.cH:=sR [4,5,11] TN (.cc [4,5,6] TO)
def mw:Abs.cH:=.bO 1 (.cc [] TP)
def TQ :=[ql 18 1 4,qt 1 4 18]
def Dd:uD:=an7 [(5,[4]),(4,[]),(3,[4,5,6]),(2,[4,5,11]),(1,[4,9]),(0,[1,2,4])] [(0,[4])] [] [4,5] [5] [] [1002]
def oT:Abs.Fn:=⟨2,[.c 4 false 1],sR [1,2,4] TL (.seq (sR [4,9] TM (.bO 0 (.Kb [4] (.t 9) [10,11] mu mw))) (sR [4] TQ .ret))⟩
attribute [simp] TL TM TN TO TP TQ
def an2 :=[qo 2 (.pI 1)]
def an3 :=[qm 5 0,qe 6 5,qi 7 0]
def an4 :=[qk 8 .lss 7 6]
def an5 :=[qj 9 1 5 7,ql 10 1 9,qm 4 10]
def an6 :=[qm 11 2,qm 12 4,qc 13 va [12],qy 14 1 1 11 13,qm 2 14]
def an8 :=[qn 15 .add 7 1,qm 7 15]
def Bp:Abs.cH:=sR [2,5,6,7,8] an4 (.seq (.ite (.t 8) .dJ (.exit 0)) (.seq (.bO 1 (sR [2,4,5,6,7] an5 (.cc [2,5,6,7] an6))) (.cc [2,5,6,7] an8)))
def an9 :=[qm 16 2,qm 2 16]
def yd:Abs.Fn:=⟨1,[.t 2],sR [0,2] an2 (sL [2,5,6,7] an3 0 [2,5,6,7] false Bp (sR [2] an9 .ret))⟩
def TR :=[qo 6 (.H6 [] [zI])]
def TS :=[qo 10 (.yq cZ [] [(.t 6)])]
def TU :=[qm 12 2]
def TV :=[qm 11 13,qz 14 11 0,qz 15 11 1,qz 16 11 2,qo 7 (.ek [] [(.bool false),zI,zI,.iX]),qs 7 4 7 14,qm 8 15,qm 9 16]
def TW :=[qm 17 0,qm 18 1,qo 19 (.mG (.t 17)),qf 20 20 19,qt 1 20 18]
def TX :=[qf 21 3 7,qv 22 7 1 21,qm 23 0,qm 24 8,qm 25 9]
def TY:List Abs.Op:=[]
def TZ:List Abs.Op:=[⟨none,none,false,.st [] 1 (.t 6) (.c zI)⟩]
def lq:Abs.cH:=.seq (.iO [0,1,6,7,8,9] TU ⟨some 13,none,false,.call false (.c (.fn dj [] [])) [(.t 12)]⟩ TV) (sR [0,6,7,8,9] TW (.seq (.iO [6] TX ⟨some 26,none,false,.call false (.t 22) [(.t 23),(.t 24),(.t 25)]⟩ TY) (sR [6] TZ .ret)))
def Cx:uD:=⟨[(5,[6]),(4,[6]),(3,[0,6,7,8,9]),(2,[0,1,6,7,8,9]),(1,[0,1,2,6]),(0,[0,1,2,6])],[],[],[0,6,7],[7],[],[],[],[],[],[(2,some 1),(4,some 5)]⟩
def nV:Abs.Fn:=⟨3,[.c 6 false 1],sR [0,1,2,6] TR (sR [10,0,1,2,6] TS (.Rb (.t 10) [] lq))⟩
attribute [simp] TR TS TU TV TW TX TY TZ
def aoa :=[qb 4 false]
def aob :=[qm 5 0,qm 6 1,qc 7 jh [5,6],qn 8 .geq 7 0,qm 4 8]
def pz:Abs.Fn:=⟨2,[.t 4],sR [0,1] aoa (sR [4] aob .ret)⟩
def T0 :=[qb 2 false]
def T1 :=[qm 3 0,qo 4 (.rj (.zD) [(.t 3)]),qn 5 .gtr 4 4000,qm 2 5]
def pX:Abs.Fn:=⟨1,[.t 2],sR [0] T0 (sR [2] T1 .ret)⟩
attribute [simp] T0 T1
def T2 :=[qx 1 0,qb 2 false]
def T3 :=[qf 3 0 1,ql 4 1 3,qo 5 (.call false (.c (.fn dQ [] [])) [(.t 4),(.c (.int .i64 1)),(.c (.int .i64 8))]),qm 6 5,qg 6 true (qf 7 1 1),qg 6 true (ql 8 1 7),qg 6 true (qo 9 (.call false (.c (.fn dQ [] [])) [(.t 8),(.c (.int .i64 1)),(.c (.int .i64 8))])),qp 10 6 9,qm 11 10,qg 11 true (qf 12 2 1),qg 11 true (ql 13 1 12),qg 11 true (qo 14 (.call false (.c (.fn dQ [] [])) [(.t 13),(.c (.int .i64 1)),(.c (.int .i64 8))])),qp 15 11 14,qm 16 15,qg 16 true (qa 17 4 1),qg 16 true (qc 18 dp [17]),qg 16 true (qn 19 .leq 18 64),qp 20 16 19,qm 21 20,qg 21 true (qf 22 3 1),qg 21 true (ql 23 1 22),qg 21 true (qo 24 (.call false (.c (.fn dQ [] [])) [(.t 23),(.c (.int .i64 1)),(.c (.int .i64 6))])),qp 25 21 24,qm 2 25]
def nS:Abs.Fn:=⟨1,[.t 2],sR [1] T2 (sR [2] T3 .ret)⟩
attribute [simp] T2 T3
def T4 :=[qb 2 false]
def T5 :=[qm 5 0,qo 6 (.rj (.zD) [(.t 5)]),qi 7 0]
def T6 :=[qk 8 .lss 7 6]
def T7 :=[qm 9 7,qm 3 9]
def T8 :=[qm 10 0,qm 11 3,qo 12 (.rj (.CB) [(.t 10),(.t 11)]),qo 13 (.bin .geq (.t 12) (.c (.int .u8 97))),qm 14 13,qg 14 true (qm 15 0),qg 14 true (qm 16 3),qg 14 true (qo 17 (.rj (.CB) [(.t 15),(.t 16)])),qg 14 true (qo 18 (.bin .leq (.t 17) (.c (.int .u8 122)))),qp 19 14 18,qm 4 19]
def T9 :=[qm 20 4,qu 21 20,qm 22 21,qg 22 true (qm 23 3),qg 22 true (qn 24 .eql 23 0),qg 22 true (qm 25 24),qg 25 false (qm 26 0),qg 25 false (qm 27 3),qg 25 false (qo 28 (.rj (.CB) [(.t 26),(.t 27)])),qg 25 false (qo 29 (.bin .lss (.t 28) (.c (.int .u8 48)))),qg 22 true (qP 30 25 29),qg 22 true (qm 31 30),qg 31 false (qm 32 0),qg 31 false (qm 33 3),qg 31 false (qo 34 (.rj (.CB) [(.t 32),(.t 33)])),qg 31 false (qo 35 (.bin .gtr (.t 34) (.c (.int .u8 57)))),qg 22 true (qP 36 31 35),qp 37 22 36]
def Ua :=[qb 2 false]
def Ub :=[qn 38 .add 7 1,qm 7 38]
def rF:Abs.cH:=sR [0,6,7,8] T6 (.seq (.ite (.t 8) .dJ (.exit 0)) (.seq (.bO 1 (sR [0,3,6,7] T7 (sR [0,3,4,6,7] T8 (sR [0,6,7,37] T9 (.ite (.t 37) (sR [2] Ua .ret) .dJ))))) (.cc [0,6,7] Ub)))
def Uc :=[qm 39 0,qo 40 (.rj (.zD) [(.t 39)]),qo 41 (.call false (.c (.fn dQ [] [])) [(.t 40),(.c (.int .i64 1)),(.c (.int .i64 16))]),qm 2 41]
def vi:Abs.Fn:=⟨1,[.t 2],sR [0] T4 (sL [0,6,7] T5 0 [0,6,7] false rF (sR [2] Uc .ret))⟩
attribute [simp] T4 T5 T6 T7 T8 T9 Ua Ub Uc
def Ud :=[qx 1 0,qi 2 0]
def Ue :=[qf 3 0 1,ql 4 1 3,qf 5 1 1,ql 6 1 5,qk 7 .mul 4 6,qf 8 2 1,ql 9 1 8,qk 10 .mul 7 9,qm 2 10]
def mU:Abs.Fn:=⟨1,[.t 2],sR [1] Ud (sR [2] Ue .ret)⟩
attribute [simp] Ud Ue
def aoc :=[qx 3 1,qb 4 false]
def aod :=[qm 5 0,qo 6 (.yq qY [] [(.t 3)]),qc 7 bZ [5,6],qu 8 7,qm 4 8]
def AB:Abs.Fn:=⟨2,[.t 4],sR [0,3] aoc (sR [4] aod .ret)⟩
def Uf :=[qb 2 false]
def Ug :=[qm 3 0,qo 4 (.call false (.c (.fn dQ [] [])) [(.t 3),(.c (.int .i64 (-100000))),(.c (.int .i64 100000))]),qm 2 4]
def mi:Abs.Fn:=⟨1,[.t 2],sR [0] Uf (sR [2] Ug .ret)⟩
attribute [simp] Uf Ug
def Uh :=[qb 6 false]
def Ui :=[qm 7 1,qm 8 0,qk 9 .leq 7 8,qm 10 9,qg 10 true (qm 11 0),qg 10 true (qm 12 2),qg 10 true (qk 13 .leq 11 12),qp 14 10 13,qm 6 14]
def tN:Abs.Fn:=⟨3,[.t 6],sR [0,1,2] Uh (sR [6] Ui .ret)⟩
attribute [simp] Uh Ui
def Uj :=[qx 4 0,qb 8 false]
def Uk :=[qm 12 1,qf 13 3 4,ql 14 1 13,qn 15 .sub 14 1,qo 16 (.call false (.c (.fn dQ [] [])) [(.t 12),(.c zI),(.t 15)]),qu 17 16,qm 18 17,qg 18 false (qm 19 2),qg 18 false (qe 20 19),qg 18 false (qn 21 .lss 20 1),qP 22 18 21,qm 23 22,qg 23 false (qm 24 2),qg 23 false (qe 25 24),qg 23 false (qm 26 3),qg 23 false (qe 27 26),qg 23 false (qk 28 .neq 25 27),qP 29 23 28]
def Ul :=[qb 8 false]
def Um :=[qi 9 (-1)]
def Un :=[qm 30 2,qe 31 30,qi 32 0]
def Uo :=[qk 33 .lss 32 31]
def Up :=[qm 34 32,qj 35 1 30 32,ql 36 1 35,qm 10 34,qm 11 36]
def Uq :=[qm 37 11,qm 38 9,qk 39 .leq 37 38,qm 40 39,qg 40 false (qm 41 11),qg 40 false (qa 42 4 4),qg 40 false (qc 43 dp [42]),qg 40 false (qk 44 .geq 41 43),qP 45 40 44,qm 46 45,qg 46 false (qm 47 3),qg 46 false (qm 48 10),qg 46 false (qj 49 1 47 48),qg 46 false (ql 50 1 49),qg 46 false (qo 51 (.call false (.c (.fn dQ [] [])) [(.t 50),(.c (.int .i64 (-1000))),(.c (.int .i64 1000))])),qg 46 false (qu 52 51),qP 53 46 52]
def Ur :=[qb 8 false]
def Us :=[qm 54 11,qm 9 54]
def Ol :=[qn 55 .add 32 1,qm 32 55]
def ll:Abs.cH:=sR [3,4,9,30,31,32,33] Uo (.seq (.ite (.t 33) .dJ (.exit 0)) (.seq (.bO 1 (sR [3,4,9,10,11,30,31,32] Up (sE [3,4,11,30,31,32,53] Uq 53 [8] Ur (.cc [3,4,9,30,31,32] Us)))) (.cc [3,4,9,30,31,32] Ol)))
def Om :=[qb 8 true]
def oR:Abs.Fn:=⟨4,[.t 8],sR [1,2,3,4] Uj (sE [2,3,4,29] Uk 29 [8] Ul (sR [2,3,4,9] Um (sL [3,4,9,30,31,32] Un 0 [3,4,9,30,31,32] false ll (sR [8] Om .ret))))⟩
attribute [simp] Uj Uk Ul Um Un Uo Up Uq Ur Us Ol Om
def Ut :=[qx 1 0,qb 2 false]
def Uu :=[qf 3 0 1,ql 4 1 3,qo 5 (.bin .leq (.c (.int .i64 (-10000000000))) (.t 4)),qm 6 5,qg 6 true (qf 7 0 1),qg 6 true (ql 8 1 7),qg 6 true (qf 9 1 1),qg 6 true (ql 10 1 9),qg 6 true (qk 11 .leq 8 10),qp 12 6 11,qm 13 12,qg 13 true (qf 14 1 1),qg 13 true (ql 15 1 14),qg 13 true (qn 16 .leq 15 10000000000),qp 17 13 16,qm 2 17]
def oS:Abs.Fn:=⟨1,[.t 2],sR [1] Ut (sR [2] Uu .ret)⟩
attribute [simp] Ut Uu
def Uv :=[qx 2 0,qx 3 1,qi 4 0]
def Uw :=[qf 7 5 2,ql 8 1 7,qe 9 8,qi 10 0]
def Ux :=[qk 11 .lss 10 9]
def Uy :=[qm 12 10,qj 13 1 8 10,ql 14 1 13,qm 5 12,qm 6 14]
def Uz :=[qM 15 4,qF 16 6 2,qL 17 1 16,qM 18 5,qJ 19 1 17 18,qL 20 1 19,qF 21 1 3,qL 22 1 21,qF 23 4 2,qL 24 1 23,qF 25 0 2,qA 26 4 25,qC 27 dp [26],qK 28 .mul 24 27,qM 29 6,qK 30 .add 28 29,qJ 31 1 22 30,qL 32 1 31,qK 33 .mul 20 32,qk 34 .add 15 33,qm 4 34]
def UA :=[qn 35 .add 10 1,qm 10 35]
def nT:Abs.cH:=sR [2,3,4,8,9,10,11] Ux (.seq (.ite (.t 11) .dJ (.exit 0)) (.seq (.bO 1 (sR [2,3,4,5,6,8,9,10] Uy (.cc [2,3,4,8,9,10] Uz))) (.cc [2,3,4,8,9,10] UA)))
def UB :=[qm 36 4,qm 4 36]
def rG:Abs.Fn:=⟨2,[.t 4],sR [2,3,4] Uv (sL [2,3,4,8,9,10] Uw 0 [2,3,4,8,9,10] false nT (sR [4] UB .ret))⟩
attribute [simp] Uv Uw Ux Uy Uz UA UB
def UC :=[qx 1 0,qb 2 false]
def UD :=[qf 4 0 1,qa 5 4 4,qc 6 jy [5],qn 7 .neq 6 0,qm 8 7,qg 8 false (qf 9 0 1),qg 8 false (qf 10 3 9),qg 8 false (ql 11 1 10),qg 8 false (qn 12 .lss 11 4),qP 13 8 12,qm 14 13,qg 14 false (qf 15 4 1),qg 14 false (ql 16 1 15),qg 14 false (qc 17 jJ [16]),qg 14 false (qn 18 .neq 17 0),qP 19 14 18,qm 20 19,qg 20 false (qf 21 5 1),qg 20 false (ql 22 1 21),qg 20 false (qo 23 (.call false (.c (.fn cj [] [])) [(.t 22),(.c (.int .i64 1)),(.c (.int .i64 100000))])),qg 20 false (qu 24 23),qP 25 20 24,qm 26 25,qg 26 false (qf 27 6 1),qg 26 false (ql 28 1 27),qg 26 false (qo 29 (.call false (.c (.fn cj [] [])) [(.t 28),(.c zI),(.c (.int .i64 1000))])),qg 26 false (qu 30 29),qP 31 26 30,qm 32 31,qg 32 false (qf 33 7 1),qg 32 false (ql 34 1 33),qg 32 false (qo 35 (.call false (.c (.fn cj [] [])) [(.t 34),(.c zI),(.c (.int .i64 3000))])),qg 32 false (qu 36 35),qP 37 32 36,qm 38 37,qg 38 false (qf 39 8 1),qg 38 false (ql 40 1 39),qg 38 false (qe 41 40),qg 38 false (qn 42 .gtr 41 8),qP 43 38 42]
def UE :=[qb 2 false]
def UF :=[qa 44 9 1,qc 45 dk [44],qo 46 (.mks 1 1 [(.bool false)] (.t 45) (.t 45)),qo 3 (.H6 [] [.aG]),qt 1 3 46]
def UG :=[qf 47 8 1,ql 48 1 47,qo 49 (.yq fD [] [(.t 3)]),qc 50 kf [48,49],qm 2 50]
def rN:Abs.Fn:=⟨1,[.t 2],sR [1] UC (sE [1,43] UD 43 [2] UE (sR [1,3] UF (sR [2] UG .ret)))⟩
attribute [simp] UC UD UE UF UG
def UH :=[qb 6 false]
def UI :=[qm 7 1,qm 8 0,qk 9 .leq 7 8,qm 10 9,qg 10 true (qm 11 0),qg 10 true (qm 12 2),qg 10 true (qk 13 .leq 11 12),qp 14 10 13,qm 6 14]
def vp:Abs.Fn:=⟨3,[.t 6],sR [0,1,2] UH (sR [6] UI .ret)⟩
attribute [simp] UH UI
def UJ :=[qx 2 0,qx 3 1,qi 4 0]
def UK :=[qa 5 4 2,qo 6 (.yq cM [(.t 5)] []),qo 7 (.yq gp [] [(.t 2),(.t 3)]),qo 8 (.tH 2 1 [.iX,.iX] [(0,1,(.t 6)),(1,1,(.t 7))]),qc 9 nH [8],qm 4 9]
def nP:Abs.Fn:=⟨2,[.t 4],sR [2,3] UJ (sR [4] UK .ret)⟩
attribute [simp] UJ UK
def aoe :=[qx 3 1,qb 4 false]
def aof :=[qm 5 0,qo 6 (.yq jW [] [(.t 3)]),qc 7 eJ [5,6],qu 8 7,qm 4 8]
def tV:Abs.Fn:=⟨2,[.t 4],sR [0,3] aoe (sR [4] aof .ret)⟩
def UL :=[qx 2 0,qb 3 false]
def UM :=[qa 4 9 1,qa 5 2 2,qo 6 (.lh [zI,zI,zI,zI,.aG,zI,zI,zI,.aG,(.str []),.aG] [(0,9,(.t 4)),(9,2,(.t 5))]),qc 7 jH [6],qm 3 7]
def tX:Abs.Fn:=⟨2,[.t 3],sR [1,2] UL (sR [3] UM .ret)⟩
attribute [simp] UL UM
def UN :=[qx 1 0,qb 2 false]
def UO :=[qf 5 0 1,qf 6 0 5,qa 7 4 6,qf 8 9 1,qa 9 2 8,qo 10 (.tH 1 2 [(.str []),.aG] [(0,2,(.t 9))]),qc 11 iR [7,10],qn 12 .neq 11 0]
def UP :=[qb 2 false]
def UQ :=[qo 13 (.lh [zI,zI] [(0,1,(.c (.int .i64 1000))),(1,1,(.c (.int .i64 100000)))]),qo 14 (.lh [zI,zI] [(0,1,(.c zI)),(1,1,(.c (.int .i64 1000)))]),qo 15 (.lh [zI,zI] [(0,1,(.c zI)),(1,1,(.c (.int .i64 3000)))]),qo 16 (.lh [zI,zI] [(0,1,(.c zI)),(1,1,(.c (.int .i64 1000)))]),qo 17 (.lh [zI,zI,zI,zI,zI,zI,zI,zI] [(0,2,(.t 13)),(2,2,(.t 14)),(4,2,(.t 15)),(6,2,(.t 16))]),qi 18 0]
def UR :=[qn 19 .lss 18 4]
def US :=[qm 20 18,qo 21 (.JP true 4 2 (.t 17) (.t 18)),qo 4 (.H6 [] [zI,zI]),qm 3 20,qt 2 4 21]
def UT :=[qa 22 11 1,qm 23 3,qc 24 ez [22,23],qo 25 (.yq ed [] [(.t 4)]),qc 26 ke [24,25],qu 27 26]
def UU :=[qb 2 false]
def UW :=[qn 28 .add 18 1,qm 18 28]
def mz:Abs.cH:=sR [1,17,18,19] UR (.seq (.ite (.t 19) .dJ (.exit 0)) (.seq (.bO 1 (sR [1,3,4,17,18] US (sR [1,17,18,27] UT (.ite (.t 27) (sR [2] UU .ret) .dJ)))) (.cc [1,17,18] UW)))
def On :=[qb 2 true]
def o9:Abs.Fn:=⟨1,[.t 2],sR [1] UN (sE [1,12] UO 12 [2] UP (sL [1,17,18] UQ 0 [1,17,18] true mz (sR [2] On .ret)))⟩
attribute [simp] UN UO UP UQ UR US UT UU UW On
def UX :=[qx 1 0,qi 2 0]
def UY :=[qf 3 0 1,qf 4 0 3,ql 5 1 4,qf 6 0 1,qf 7 1 6,ql 8 1 7,qk 9 .mul 5 8,qf 10 0 1,qf 11 2 10,ql 12 1 11,qk 13 .mul 9 12,qm 2 13]
def sN:Abs.Fn:=⟨1,[.t 2],sR [1] UX (sR [2] UY .ret)⟩
attribute [simp] UX UY
def UZ :=[qx 3 0,qi 6 0]
def U0 :=[qA 10 11 3,qM 11 2,qC 12 fF [10,11],qF 13 0 3,qF 14 5 13,qL 15 1 14,qM 16 1,qM 17 2,qJ 18 3 16 17,qF 19 0 18,qL 20 1 19,qA 21 11 3,qM 22 2,qC 23 fE [21,22],qK 24 .sub 20 23,qK 25 .mul 15 24,qA 26 11 3,qM 27 2,qC 28 fE [26,27],qc 29 vL [25,28],qk 30 .add 12 29,qo 31 (.mx (.c zI) (.t 30)),qm 7 31]
def U1 :=[qf 32 0 3,qf 33 4 32,ql 34 1 33,qe 35 34,qi 36 0]
def U2 :=[qk 37 .lss 36 35]
def U3 :=[qj 38 5 34 36,qa 39 5 38,qo 9 (.ek [] [zI,zI,zI,zI,zI]),qs 9 5 9 39]
def U4 :=[qF 40 2 9,qV 41 9 1 40,qM 42 1,qM 43 2,qJ 44 3 42 43,qF 45 0 44,qL 46 1 45,qK 47 .mul 41 46,qM 48 1,qM 49 2,qJ 50 3 48 49,qF 51 1 50,qL 52 1 51,qk 53 .leq 47 52]
def U5 :=[qm 54 7,qf 55 1 9,qv 56 9 1 55,qo 57 (.mx (.t 54) (.t 56)),qm 7 57]
def U6 :=[qn 58 .add 36 1,qm 36 58]
def jg:Abs.cH:=sR [1,2,7,34,35,36,37] U2 (.seq (.ite (.t 37) .dJ (.exit 0)) (.seq (.bO 1 (sR [1,2,7,9,34,35,36] U3 (sR [1,2,7,9,34,35,36,53] U4 (.ite (.t 53) (.cc [1,2,7,34,35,36] U5) .dJ)))) (.cc [1,2,7,34,35,36] U6)))
def U7 :=[qm 59 7,qm 6 59]
def lC:Abs.Fn:=⟨3,[.t 6],sR [1,2,3] UZ (sR [1,2,3,7] U0 (sL [1,2,7,34,35,36] U1 0 [1,2,7,34,35,36] false jg (sR [6] U7 .ret)))⟩
attribute [simp] UZ U0 U1 U2 U3 U4 U5 U6 U7
def U8 :=[qo 0 (.ek [] [.iX,.iX,.iX,.iX,.iX])]
def U9 :=[qo 1 (.lh [.iX,.iX,.iX,.iX,.iX] [(2,1,(.c (.fn kE [] []))),(3,1,(.c (.fn iU [] []))),(4,1,(.c (.fn jF [] [])))]),qs 0 5 0 1]
def wK:Abs.Fn:=⟨0,[.v 0 true 5],sR [0] U8 (sR [0] U9 .ret)⟩
attribute [simp] U8 U9
def aog :=[qb 4 false]
def aoh :=[qm 5 0,qm 6 1,qc 7 dS [5,6],qn 8 .geq 7 0,qm 4 8]
def ia:Abs.Fn:=⟨2,[.t 4],sR [0,1] aog (sR [4] aoh .ret)⟩
def aoi :=[qx 2 0,qb 3 false]
def aoj :=[ql 4 1 1,qa 5 10 2,qo 6 (.call false (.t 4) [(.t 5)]),qu 7 6,qm 3 7]
def lY:Abs.Fn:=⟨2,[.t 3],sR [1,2] aoi (sR [3] aoj .ret)⟩
def Va :=[qx 2 0,qx 3 1,qb 4 false]
def Vb :=[qa 5 3 2,qc 6 fG [5],qm 7 6,qg 7 true (qa 8 3 3),qg 7 true (qc 9 fG [8]),qp 10 7 9,qm 11 10,qg 11 true (qf 12 0 2),qg 11 true (ql 13 1 12),qg 11 true (qf 14 0 3),qg 11 true (ql 15 1 14),qg 11 true (qk 16 .leq 13 15),qp 17 11 16,qm 18 17,qg 18 true (qf 19 1 2),qg 18 true (ql 20 1 19),qg 18 true (qf 21 1 3),qg 18 true (ql 22 1 21),qg 18 true (qk 23 .leq 20 22),qp 24 18 23,qm 25 24,qg 25 true (qf 26 2 2),qg 25 true (ql 27 1 26),qg 25 true (qf 28 2 3),qg 25 true (ql 29 1 28),qg 25 true (qk 30 .leq 27 29),qp 31 25 30,qm 4 31]
def wM:Abs.Fn:=⟨2,[.t 4],sR [2,3] Va (sR [4] Vb .ret)⟩
attribute [simp] Va Vb
def aok :=[qb 4 false]
def aol :=[qm 5 0,qm 6 1,qc 7 dD [5,6],qn 8 .geq 7 0,qm 4 8]
def gM:Abs.Fn:=⟨2,[.t 4],sR [0,1] aok (sR [4] aol .ret)⟩
def aom :=[qx 2 0,qb 3 false]
def aon :=[ql 4 1 1,qa 5 2 2,qo 6 (.call false (.t 4) [(.t 5)]),qu 7 6,qm 3 7]
def lH:Abs.Fn:=⟨2,[.t 3],sR [1,2] aom (sR [3] aon .ret)⟩
def Vc :=[qx 1 0,qb 2 false]
def Vd :=[qf 3 0 1,qa 4 3 3,qc 5 fG [4],qm 6 5,qg 6 true (qf 7 3 1),qg 6 true (ql 8 1 7),qg 6 true (qo 9 (.call false (.c (.fn ch [] [])) [(.t 8),(.c zI),(.c (.int .i64 160))])),qp 10 6 9,qm 2 10]
def lF:Abs.Fn:=⟨1,[.t 2],sR [1] Vc (sR [2] Vd .ret)⟩
attribute [simp] Vc Vd
def Ve :=[qx 1 0,qb 2 false]
def Vf :=[qf 3 0 1,ql 4 1 3,qf 5 1 1,ql 6 1 5,qf 7 2 1,ql 8 1 7,qo 9 (.tH 3 1 [zI,zI,zI] [(0,1,(.t 4)),(1,1,(.t 6)),(2,1,(.t 8))]),qo 10 (.call false (.c (.fn gZ [] [])) [(.t 9),(.c (.fn eC [] []))]),qm 2 10]
def nk:Abs.Fn:=⟨1,[.t 2],sR [1] Ve (sR [2] Vf .ret)⟩
attribute [simp] Ve Vf
def aoo :=[qi 4 0]
def aoq :=[qm 6 0,qe 7 6,qi 8 0]
def aor :=[qk 9 .lss 8 7]
def aos :=[qm 10 8,qm 5 10]
def aot :=[qm 11 1,qm 12 0,qm 13 5,qj 14 4 12 13,qa 15 4 14,qo 16 (.call false (.t 11) [(.t 15)])]
def aou :=[qm 17 5,qm 4 17]
def aov :=[qn 18 .add 8 1,qm 8 18]
def tF:Abs.cH:=sR [0,1,7,8,9] aor (.seq (.ite (.t 9) .dJ (.exit 0)) (.seq (.bO 1 (sR [0,1,5,7,8] aos (sR [0,1,5,7,8,16] aot (.ite (.t 16) (sR [4] aou .ret) .dJ)))) (.cc [0,1,7,8] aov)))
def aow :=[qi 4 (-1)]
def jw:Abs.Fn:=⟨2,[.t 4],sR [0,1] aoo (sL [0,1,7,8] aoq 0 [0,1,7,8] false tF (sR [4] aow .ret))⟩
def aox :=[qx 2 0,qb 3 false]
def aoy :=[ql 4 1 1,qa 5 4 2,qo 6 (.call false (.t 4) [(.t 5)]),qu 7 6,qm 3 7]
def lZ:Abs.Fn:=⟨2,[.t 3],sR [1,2] aox (sR [3] aoy .ret)⟩
def Vg :=[qx 2 0,qi 4 0]
def Vh :=[qm 6 1,qe 7 6,qf 8 8 2,ql 9 1 8,qe 10 9,qk 11 .neq 7 10,qm 5 11]
def Vi :=[qi 4 1]
def Vj :=[qm 13 1,qo 14 (.call false (.c (.fn ke [] [])) [(.t 13),(.c (.fn jC [] []))]),qu 15 14,qm 12 15]
def Vk :=[qi 4 2]
def Vl :=[qi 4 0]
def rM:Abs.Fn:=⟨2,[.t 4],sR [1,2] Vg (.seq (.bO 0 (sR [1,5] Vh (.ite (.t 5) (sR [4] Vi .ret) (sR [12] Vj (.ite (.t 12) (sR [4] Vk .ret) .dJ))))) (sR [4] Vl .ret))⟩
attribute [simp] Vg Vh Vi Vj Vk Vl
def Vm :=[qx 1 0,qo 2 (.pI 3)]
def Vn :=[qf 4 0 1,qa 5 9 4,qc 6 dk [5],qi 7 0]
def Vo :=[qk 8 .lss 7 6]
def Vp :=[qm 9 7,qm 3 9]
def Vq :=[qM 10 2,qA 11 11 1,qM 12 3,qC 13 fE [11,12],qA 14 11 1,qM 15 3,qC 16 fE [14,15],qA 17 11 1,qM 18 3,qC 19 mc [17,18],qK 20 .mul 16 19,qO 21 (.lh [zI,zI,zI] [(0,1,(.t 13)),(1,1,(.t 20))]),qO 22 (.tH 1 3 [zI,zI,zI] [(0,3,(.t 21))]),qy 23 3 24 10 22,qm 2 23]
def Vr :=[qn 24 .add 7 1,qm 7 24]
def lB:Abs.cH:=sR [1,2,6,7,8] Vo (.seq (.ite (.t 8) .dJ (.exit 0)) (.seq (.bO 1 (sR [1,2,3,6,7] Vp (.cc [1,2,6,7] Vq))) (.cc [1,2,6,7] Vr)))
def Vs :=[qm 25 2,qm 2 25]
def nZ:Abs.Fn:=⟨1,[.t 2],sR [1,2] Vm (sL [1,2,6,7] Vn 0 [1,2,6,7] false lB (sR [2] Vs .ret))⟩
attribute [simp] Vm Vn Vo Vp Vq Vr Vs
def Vt :=[qx 3 0,qo 6 (.mv (.c .aG)),qo 7 (.mv (.c .aG)),qi 8 0]
def Vu :=[qm 18 1,qo 19 (.call true (.c (.fn cN [] [])) [(.t 18)]),qm 9 19]
def Vv :=[qa 20 11 3,qm 21 1,qo 22 (.call true (.c (.fn kW [] [])) [(.t 20),(.t 21)]),qo 23 (.mp (.rng) [(.t 22)])]
def Vw :=[qo 26 (.mp (.ent) [(.t 23)]),qz 27 26 0,qz 28 26 1,qo 10 (.ek [] [zI,zI]),qo 11 (.ek [] [zI,zI,zI]),qs 10 2 10 27,qs 11 3 11 28]
def Vx :=[qM 29 9,qF 30 0 10,qV 31 10 1 30,qJ 32 3 29 31,qW 33 11 3 11,qo 34 (.call false (.c (.fn cg [] [])) [(.t 32),(.t 33),(.c (.int .i64 (-1)))])]
def Vy :=[qM 35 9,qF 36 1 10,qV 37 10 1 36,qJ 38 3 35 37,qW 39 11 3 11,qo 40 (.call false (.c (.fn cg [] [])) [(.t 38),(.t 39),(.c (.int .i64 1))])]
def mB:Abs.cH:=.seq (.ite (.t 25) .dJ (.exit 0)) (.bO 1 (sR [1,2,3,9,10,11,23] Vw (sR [1,2,3,9,10,11,23] Vx (.cc [1,2,3,9,23] Vy))))
def Vz :=[qo 12 (.pI 3)]
def VA :=[qm 41 2,qe 42 41,qi 43 0]
def VB :=[qk 44 .lss 43 42]
def Oo :=[qm 45 43,qj 46 1 41 43,ql 47 1 46,qm 13 45,qm 14 47]
def Oq :=[qf 48 0 3,qf 49 8 48,ql 50 1 49,qm 51 13,qj 52 3 50 51,qf 53 0 52,ql 54 1 53,qm 15 54]
def Ot :=[qo 16 (.ek [] [zI,zI,zI])]
def Ou :=[qm 55 14,qn 56 .lss 55 0]
def Ov :=[qM 57 9,qM 58 15,qJ 59 3 57 58,qF 60 0 3,qF 61 8 60,qL 62 1 61,qM 63 13,qJ 64 3 62 63,qA 65 3 64,qM 66 14,qC 67 nz [65,66],qo 68 (.call false (.c (.fn cg [] [])) [(.t 59),(.t 67),(.c (.int .i64 1))])]
def Ow :=[qM 69 1,qM 70 15,qJ 71 3 69 70,qA 72 3 71,qM 73 14,qM 74 1,qM 75 15,qJ 76 3 74 75,qF 77 0 76,qL 78 1 77,qN 79 .quo 78 8,qO 80 (.mn (.t 73) (.t 79)),qc 81 lS [72,80],qs 16 3 16 81]
def Ox :=[qM 82 9,qM 83 15,qJ 84 3 82 83,qW 85 16 3 16,qo 86 (.call false (.c (.fn cg [] [])) [(.t 84),(.t 85),(.c (.int .i64 (-1)))])]
def Oy :=[qm 87 12,qw 88 16 3 16,qo 89 (.tH 1 3 [zI,zI,zI] [(0,3,(.t 88))]),qy 90 3 24 87 89,qm 12 90]
def Oz :=[qn 91 .add 43 1,qm 43 91]
def lD:Abs.cH:=sR [1,3,9,12,41,42,43,44] VB (.seq (.ite (.t 44) .dJ (.exit 2)) (.seq (.bO 3 (sR [1,3,9,12,13,14,41,42,43] Oo (sR [1,3,9,12,13,14,15,41,42,43] Oq (sR [1,3,9,12,13,14,15,16,41,42,43] Ot (sI [1,3,9,12,13,14,15,16,41,42,43,56] Ou 56 (.cc [1,3,9,12,16,41,42,43] Ov) (sR [1,3,9,12,15,16,41,42,43] Ow (.cc [1,3,9,12,16,41,42,43] Ox)) (.cc [1,3,9,12,41,42,43] Oy)))))) (.cc [1,3,9,12,41,42,43] Oz)))
def OA :=[qm 92 9,qe 93 92,qi 94 0]
def OB :=[qk 95 .lss 94 93]
def OC :=[qm 96 94,qm 17 96]
def OD :=[qM 97 9,qM 98 17,qJ 99 3 97 98,qA 100 11 3,qM 101 17,qC 102 nB [100,101],qo 103 (.call false (.c (.fn cg [] [])) [(.t 99),(.t 102),(.c (.int .i64 1))])]
def OE :=[qn 104 .add 94 1,qm 94 104]
def lE:Abs.cH:=sR [3,9,12,93,94,95] OB (.seq (.ite (.t 95) .dJ (.exit 4)) (.seq (.bO 5 (sR [3,9,12,17,93,94] OC (.cc [3,9,12,93,94] OD))) (.cc [3,9,12,93,94] OE)))
def OF :=[qa 105 11 3,qm 106 9,qc 107 kX [105,106],qu 108 107]
def OG :=[qo 6 (.mv (.c .aG)),qo 7 (.mv (.c .aG)),qi 8 9]
def OH :=[qm 109 9,qm 110 12,qm 6 109,qm 7 110,qi 8 0]
def iB:Abs.cH:=sR [1,2,3,9,12] Vz (sL [1,3,9,12,41,42,43] VA 2 [1,3,9,12,41,42,43] false lD (sL [3,9,12,93,94] OA 4 [3,9,12,93,94] false lE (sE [9,12,108] OF 108 [6,7,8] OG (sR [6,7,8] OH .ret))))
def De:uD:=an7 [(26,[6,7,8]),(25,[6,7,8]),(24,[9,12,108]),(23,[3,9,12,93,94]),(22,[3,9,12,93,94]),(21,[3,9,12,17,93,94]),(20,[3,9,12,93,94,95]),(19,[3,9,12,93,94]),(18,[1,3,9,12,41,42,43]),(17,[1,3,9,12,41,42,43]),(14,[1,3,9,12,16,41,42,43]),(16,[1,3,9,12,16,41,42,43]),(15,[1,3,9,12,15,16,41,42,43]),(13,[1,3,9,12,13,14,15,16,41,42,43,56]),(12,[1,3,9,12,13,14,15,16,41,42,43]),(11,[1,3,9,12,13,14,15,41,42,43]),(10,[1,3,9,12,13,14,41,42,43]),(9,[1,3,9,12,41,42,43,44]),(8,[1,3,9,12,41,42,43]),(7,[1,2,3,9,12]),(6,[1,2,3,9,23]),(5,[1,2,3,9,10,11,23]),(4,[1,2,3,9,10,11,23]),(3,[1,2,3,9,23,25]),(2,[1,2,3,9,23]),(1,[1,2,3,9]),(0,[1,2,3])] [(4,[3,9,12,93,94]),(2,[1,3,9,12,41,42,43]),(0,[1,2,3,9,23])] [] [10,11,12,16] [10,11,16] [] [2002,1001]
def pg:Abs.Fn:=⟨3,[.t 6,.t 7,.t 8],sR [1,2,3] Vt (sR [1,2,3,9] Vu (sR [1,2,3,9,23] Vv (.ja [1,2,3,9,23] (.t 23) 24 25 0 mB iB)))⟩
attribute [simp] Vt Vu Vv Vw Vx Vy Vz VA VB Oo Oq Ot Ou Ov Ow Ox Oy Oz OA OB OC OD OE OF OG OH
def VC :=[qb 6 false]
def VD :=[qm 7 1,qm 8 0,qk 9 .leq 7 8,qm 10 9,qg 10 true (qm 11 0),qg 10 true (qm 12 2),qg 10 true (qk 13 .leq 11 12),qp 14 10 13,qm 6 14]
def ub:Abs.Fn:=⟨3,[.t 6],sR [0,1,2] VC (sR [6] VD .ret)⟩
attribute [simp] VC VD
def aoz :=[qx 3 1,qb 4 false]
def aoA :=[qm 5 0,qo 6 (.yq kH [] [(.t 3)]),qc 7 fm [5,6],qu 8 7,qm 4 8]
def uN:Abs.Fn:=⟨2,[.t 4],sR [0,3] aoz (sR [4] aoA .ret)⟩
def VE :=[qx 1 0,qb 2 false]
def VF :=[qf 3 0 1,ql 4 1 3,qo 5 (.call false (.c (.fn dq [] [])) [(.t 4),(.c zI),(.c (.int .i64 400))]),qm 6 5,qg 6 true (qf 7 1 1),qg 6 true (ql 8 1 7),qg 6 true (qo 9 (.call false (.c (.fn dq [] [])) [(.t 8),(.c (.int .i64 1)),(.c (.int .i64 10000))])),qp 10 6 9,qm 11 10,qg 11 true (qf 12 2 1),qg 11 true (ql 13 1 12),qg 11 true (qo 14 (.call false (.c (.fn dq [] [])) [(.t 13),(.c zI),(.c (.int .i64 4000))])),qp 15 11 14,qm 16 15,qg 16 true (qf 17 4 1),qg 16 true (ql 18 1 17),qg 16 true (qo 19 (.call false (.c (.fn dq [] [])) [(.t 18),(.c zI),(.c (.int .i64 2000))])),qp 20 16 19,qm 21 20,qg 21 true (qf 22 2 1),qg 21 true (ql 23 1 22),qg 21 true (qf 24 3 1),qg 21 true (ql 25 1 24),qg 21 true (qk 26 .lss 23 25),qp 27 21 26,qm 28 27,qg 28 true (qf 29 3 1),qg 28 true (ql 30 1 29),qg 28 true (qn 31 .leq 30 4000),qp 32 28 31,qm 2 32]
def qT:Abs.Fn:=⟨1,[.t 2],sR [1] VE (sR [2] VF .ret)⟩
attribute [simp] VE VF
def VG :=[qx 2 0,qx 3 1,qi 4 0]
def VH :=[qf 6 1 3,ql 7 1 6,qf 8 0 3,ql 9 1 8,qf 10 0 2,qf 11 2 10,ql 12 1 11,qk 13 .mul 9 12,qk 14 .sub 7 13,qm 5 14]
def VI :=[qm 16 5,qn 17 .leq 16 0,qm 15 17]
def VJ :=[qi 4 0]
def VK :=[qf 19 1 3,ql 20 1 19,qf 21 0 3,ql 22 1 21,qf 23 0 2,qf 24 3 23,ql 25 1 24,qk 26 .mul 22 25,qk 27 .geq 20 26,qm 18 27]
def VL :=[qf 28 0 3,ql 29 1 28,qm 4 29]
def VM :=[qm 30 5,qf 31 0 2,qf 32 3 31,ql 33 1 32,qf 34 0 2,qf 35 2 34,ql 36 1 35,qk 37 .sub 33 36,qk 38 .quo 30 37,qm 4 38]
def oi:Abs.Fn:=⟨2,[.t 4],sR [2,3] VG (sR [2,3,5] VH (.seq (.bO 0 (sR [2,3,5,15] VI (.ite (.t 15) (sR [4] VJ .ret) (sR [2,3,5,18] VK (.ite (.t 18) (sR [4] VL .ret) .dJ))))) (sR [4] VM .ret)))⟩
attribute [simp] VG VH VI VJ VK VL VM
def VN :=[qb 6 false]
def VO :=[qm 7 1,qm 8 0,qk 9 .leq 7 8,qm 10 9,qg 10 true (qm 11 0),qg 10 true (qm 12 2),qg 10 true (qk 13 .leq 11 12),qp 14 10 13,qm 6 14]
def tT:Abs.Fn:=⟨3,[.t 6],sR [0,1,2] VN (sR [6] VO .ret)⟩
attribute [simp] VN VO
def aoB :=[qx 3 1,qb 4 false]
def aoC :=[qm 5 0,qo 6 (.yq jU [] [(.t 3)]),qc 7 fa [5,6],qu 8 7,qm 4 8]
def tS:Abs.Fn:=⟨2,[.t 4],sR [0,3] aoB (sR [4] aoC .ret)⟩
def VP :=[qx 2 0,qb 3 false]
def VQ :=[qf 5 1 2,ql 6 1 5,ql 7 1 1,qo 8 (.call false (.c (.fn kb [] [])) [(.t 6),(.c zI),(.t 7)]),qm 4 8]
def VR :=[qf 9 1 2,ql 10 1 9,qt 1 1 10]
def VS :=[qm 11 4,qm 12 11,qg 12 true (qf 13 0 2),qg 12 true (ql 14 1 13),qg 12 true (qo 15 (.call false (.c (.fn kb [] [])) [(.t 14),(.c (.int .i64 1)),(.c (.int .i64 100000))])),qp 16 12 15,qm 3 16]
def mZ:Abs.Fn:=⟨2,[.t 3],sR [1,2] VP (sR [1,2,4] VQ (sR [2,4] VR (sR [3] VS .ret)))⟩
attribute [simp] VP VQ VR VS
def aoD :=[qx 3 1,qb 4 false]
def aoE :=[qm 5 0,qo 6 (.yq iG [] [(.t 3)]),qc 7 eA [5,6],qu 8 7,qm 4 8]
def sn:Abs.Fn:=⟨2,[.t 4],sR [0,3] aoD (sR [4] aoE .ret)⟩
def VT :=[qx 1 0,qb 2 false]
def VU :=[qa 3 4 1,qc 4 kZ [3],qn 5 .eql 4 0,qm 2 5]
def sK:Abs.Fn:=⟨1,[.t 2],sR [1] VT (sR [2] VU .ret)⟩
attribute [simp] VT VU
def VV :=[qx 1 0,qi 2 0]
def VW :=[qa 3 4 1,qc 4 gY [3],qu 5 4]
def VX :=[qi 2 1]
def VY :=[qi 2 0]
def og:Abs.Fn:=⟨1,[.t 2],sR [1] VV (sE [5] VW 5 [2] VX (sR [2] VY .ret))⟩
attribute [simp] VV VW VX VY
def tF1:List (Nat×uD×Abs.Fn):=[A0 ka mW,A0 ug wJ,A0 l9 oX,A4 [0,3,2,5,6,4,1,7] fI pM [] [0,3] [3] [] [] [] [] [] [(2,some 1)],A4 [] tx vF [] [6,8] [8] [] [] [] [] [] [(4,some 5)],A0 nA qG,A0 kY oc,A0 dA nE,A0 eP oj,A0 dc mM,A0 ef nj,A0 ch sQ,A3 [] eg nq [] [5] [5] [] [],A0 ck ic,A0 eN nF,A3 [] tc xk [] [4,6] [4,6] [] [],A0 mR sM,A4 [] iI nc [] [4,12] [4] [(1,[(0,1),(1,1)]),(1004,[(0,1),(1,1)]),(8011,[(0,1),(1,1)]),(8013,[(0,1)]),(10001,[(0,1),(1,1)])] [] [] [] [] [(7,some 2)],A3 [] iW oh [] [4,5] [4,5] [] [],A0 nC qU,A0 gY ni,A3 [] oE rR [] [4] [4] [] [],A3 [0,1,4,3,6,5,2,7,8,9,10,11,12] oF rS [] [4] [4] [] [],A2 [] jA oU [] [3],A0 sy vl,A3 [] jq mr [] [4] [4] [] [],(l8,Dd,oT),A2 [] ue yd [] [2],(aM,Cx,nV),A0 eF pz,A0 iE pX,A0 kV nS,A0 pO vi,A0 dp mU,A0 pD AB,A0 gr mi,A0 dQ tN,A0 l4 oR,A0 l6 oS,A0 lQ rG,A2 [] jD rN [] [3],A0 cj vp,A0 iR nP,A0 iH tV,A0 oB tX,A2 [] jH o9 [0] [4],A0 dk sN,A3 [] fO lC [] [9] [9] [] [],A3 [] uh wK [] [0] [0] [] [],A0 da ia,A0 fH lY,A0 ui wM,A0 cV gM,A0 ff lH,A0 fS lF,A0 fG nk,A0 fR jw,A0 iL lZ,A0 oz rM,A2 [] iV nZ [] [2],(ma,De,pg),A0 dq ub,A0 jr uN,A0 kG qT,A0 la oi,A0 kb tT,A0 iF tS,A2 [] ec mZ [] [1],A0 jV sn,A0 mQ sK,A0 kZ og]
theorem kF1:(tF1.map fun p=>chk p)=tF1.map fun p=>some p.2.2:=by kernel_rfl
end Go.Proofs.YtfgljaglidhjiaaGreatDoor
