import Derived.Test.YtfgljaglidhjiaaGreatDoorIds
set_option linter.all false
set_option maxRecDepth 100000
namespace Go.Proofs.YtfgljaglidhjiaaGreatDoor
open Go Go.Abs
def ajt :=[qx 3 0,qx 4 1,qi 6 0]
def aju :=[qf 9 1 4,ql 10 1 9,qo 11 (.KF .i64 (.t 10)),qo 12 (.call false (.c (.fn cn [] [])) [(.t 11),(.c (.int .i64 1)),(.c (.int .i64 4))]),qu 13 12,qm 14 13,qg 14 false (qf 15 3 4),qg 14 false (qf 16 0 15),qg 14 false (ql 17 1 16),qg 14 false (qn 18 .lss 17 (-10000000000)),qP 19 14 18,qm 20 19,qg 20 false (qf 21 3 4),qg 20 false (qf 22 0 21),qg 20 false (ql 23 1 22),qg 20 false (qf 24 3 4),qg 20 false (qf 25 1 24),qg 20 false (ql 26 1 25),qg 20 false (qk 27 .gtr 23 26),qP 28 20 27,qm 29 28,qg 29 false (qf 30 3 4),qg 29 false (qf 31 1 30),qg 29 false (ql 32 1 31),qg 29 false (qn 33 .gtr 32 10000000000),qP 34 29 33]
def ajv :=[qi 6 1]
def ajw :=[qF 35 8 3,qL 36 1 35,qE 37 36,qO 7 (.mv (.c (.int .i64 1))),qm 8 37]
def ajx :=[qf 38 1 4,ql 39 1 38,qo 40 (.bin .eql (.t 39) (.c (.int .u8 1)))]
def ajy :=[qa 41 9 3,qc 42 de [41],qi 7 0,qm 8 42]
def ajz :=[qf 43 0 4,ql 44 1 43,qm 45 7,qm 46 2,qc 47 cn [44,45,46],qu 48 47,qm 49 48,qg 49 false (qf 50 2 4),qg 49 false (ql 51 1 50),qg 49 false (qm 52 8),qg 49 false (qn 53 .sub 52 1),qg 49 false (qo 54 (.call false (.c (.fn cn [] [])) [(.t 51),(.c zI),(.t 53)])),qg 49 false (qu 55 54),qP 56 49 55]
def ajA :=[qi 6 2]
def ajB :=[qi 6 0]
def oK:Abs.Fn:=⟨3,[.t 6],sR [2,3,4] ajt (sE [2,3,4,34] aju 34 [6] ajv (sR [2,3,4,7,8] ajw (sI [2,3,4,7,8,40] ajx 40 (.cg [2,4,7,8] ajy) .dQ (sE [56] ajz 56 [6] ajA (sR [6] ajB .ret)))))⟩
attribute [simp] ajt aju ajv ajw ajx ajy ajz ajA ajB
def ajC :=[qo 5 (.LX)]
def ajD :=[qo 7 (.isi false (.t 5))]
def ajE :=[qm 2 5]
def ajF :=[qo 8 (.tas 262 (some (.agg [])) (.t 5)),qz 9 8 1,qz 10 8 0]
def ajG :=[qo 3 (.dY [] []),qs 3 0 3 10]
def ajH :=[qm 11 0,qo 12 (.mo (.t 11)),⟨none,none,false,.st [] 1 (.t 12) (.c (.int .i64 9))⟩]
def ajI :=[qm 4 5]
def ajJ :=[qm 6 4]
def ajK:List Abs.Op:=[]
def pw:Abs.Fn:=⟨1,[],sR [0,5] ajC (.bO 0 (sR [0,5,7] ajD (.ite (.t 7) (.cg [] ajE) (sR [0,5,9,10] ajF (.ite (.t 9) (sR [0] ajG (.cg [] ajH)) (sR [4] ajI (.iG [] ajJ ⟨none,none,false,.LW (.t 6)⟩ ajK)))))))⟩
attribute [simp] ajC ajD ajE ajF ajG ajH ajI ajJ ajK
def ajL :=[qx 3 0,qo 6 (.pq 2)]
def ajM :=[qm 9 1,qe 10 9,qi 11 0]
def ajN :=[qk 12 .lss 11 10]
def ajO :=[qj 13 2 9 11,qa 14 2 13,qo 8 (.dY [] [(.str []),.aF]),qs 8 2 8 14]
def ajP :=[qm 15 6,qa 16 9 3,qw 17 8 2 8,qo 18 (.lq [zI,zI,zI,zI,.aF,zI,zI,zI,.aF,(.str []),.aF] [(0,9,(.t 16)),(9,2,(.t 17))]),qm 19 2]
def ajQ :=[qo 21 (.ur 1 2 [.aF,.aF] [(0,2,(.t 20))]),qy 22 2 48 15 21,qm 6 22]
def ajR :=[qn 23 .add 11 1,qm 11 23]
def tM:Abs.cH:=sR [2,3,6,9,10,11,12] ajN (.seq (.ite (.t 12) .dQ (.exit 0)) (.seq (.bO 1 (sR [2,3,6,8,9,10,11] ajO (.iG [2,3,6,9,10,11] ajP ⟨some 20,none,false,.call false (.c (.fn iA [] [])) [(.t 18),(.t 19)]⟩ ajQ))) (.cg [2,3,6,9,10,11] ajR)))
def ajS :=[qm 24 6,qm 6 24]
def vo:Abs.Fn:=⟨3,[.t 6],sR [1,2,3,6] ajL (sL [2,3,6,9,10,11] ajM 0 [2,3,6,9,10,11] false tM (sR [6] ajS .ret))⟩
attribute [simp] ajL ajM ajN ajO ajP ajQ ajR ajS
def ajT :=[qx 2 0,qi 4 0]
def ajU :=[qm 5 1,qf 6 1 2,ql 7 1 6,qk 8 .sub 5 7,qo 9 (.mx (.c zI) (.t 8)),qm 10 1,qf 11 0 2,ql 12 1 11,qk 13 .sub 10 12,qo 14 (.mn (.c zI) (.t 13)),qk 15 .add 9 14,qm 4 15]
def pT:Abs.Fn:=⟨2,[.t 4],sR [1,2] ajT (sR [4] ajU .ret)⟩
attribute [simp] ajT ajU
def ajV :=[qx 3 0,qx 4 1,qx 5 2,qi 6 0]
def ajW :=[qf 7 1 5,ql 8 1 7,qo 9 (.bin .eql (.t 8) (.c (.int .u8 1)))]
def ajX :=[qA 10 11 3,qF 11 0 4,qL 12 1 11,qF 13 0 5,qL 14 1 13,qJ 15 1 12 14,qL 16 1 15,qF 17 2 5,qL 18 1 17,qc 19 fJ [10,16,18],qm 6 19]
def ajY :=[qC 20 tU [],qF 21 1 5,qL 22 1 21,qO 23 (.Jt false 5 1 (.t 20) (.t 22)),qF 24 1 4,qL 25 1 24,qF 26 0 5,qL 27 1 26,qN 28 .sub 27 1,qJ 29 1 25 28,qL 30 1 29,qF 31 2 5,qL 32 1 31,qJ 33 3 30 32,qA 34 3 33,qo 35 (.call false (.t 23) [(.t 34)]),qm 6 35]
def nQ:Abs.Fn:=⟨3,[.t 6],sR [3,4,5] ajV (sE [3,4,5,9] ajW 9 [6] ajX (sR [6] ajY .ret))⟩
attribute [simp] ajV ajW ajX ajY
def auu :=[qx 3 1,qb 4 false]
def auv :=[qm 5 0,qo 6 (.xT fC [] [(.t 3)]),qc 7 c8 [5,6],qu 8 7,qm 4 8]
def nk:Abs.Fn:=⟨2,[.t 4],sR [0,3] auu (sR [4] auv .ret)⟩
def ajZ :=[qx 1 0,qb 2 false]
def aj0 :=[qf 3 0 1,qa 4 3 3,qf 5 3 1,qa 6 3 5,qc 7 tV [4,6],qm 8 7,qg 8 true (qf 9 6 1),qg 8 true (ql 10 1 9),qg 8 true (qo 11 (.call false (.c (.fn cm [] [])) [(.t 10),(.c zI),(.c (.int .i64 160))])),qp 12 8 11,qm 13 12,qg 13 true (qf 14 7 1),qg 13 true (ql 15 1 14),qg 13 true (qo 16 (.call false (.c (.fn cm [] [])) [(.t 15),(.c (.int .i64 1)),(.c (.int .i64 1000000))])),qp 17 13 16,qm 18 17,qg 18 true (qf 19 8 1),qg 18 true (ql 20 1 19),qg 18 true (qo 21 (.call false (.c (.fn cm [] [])) [(.t 20),(.c (.int .i64 1)),(.c (.int .i64 200))])),qp 22 18 21,qm 23 22,qg 23 true (qf 24 9 1),qg 23 true (ql 25 1 24),qg 23 true (qo 26 (.bin .eql (.t 25) (.c (.int .u8 1)))),qg 23 true (qm 27 26),qg 27 false (qf 28 9 1),qg 27 false (ql 29 1 28),qg 27 false (qo 30 (.bin .eql (.t 29) (.c (.int .u8 2)))),qg 23 true (qP 31 27 30),qp 32 23 31,qm 2 32]
def nW:Abs.Fn:=⟨1,[.t 2],sR [1] ajZ (sR [2] aj0 .ret)⟩
attribute [simp] ajZ aj0
def auw :=[qx 3 1,qb 4 false]
def auy :=[qm 5 0,qo 6 (.xT fa [] [(.t 3)]),qc 7 cU [5,6],qu 8 7,qm 4 8]
def mz:Abs.Fn:=⟨2,[.t 4],sR [0,3] auw (sR [4] auy .ret)⟩
def aj1 :=[qx 1 0,qb 2 false]
def aj2 :=[qf 3 0 1,ql 4 1 3,qo 5 (.call false (.c (.fn cm [] [])) [(.t 4),(.c zI),(.c (.int .i64 1000000))]),qm 6 5,qg 6 true (qf 7 1 1),qg 6 true (ql 8 1 7),qg 6 true (qe 9 8),qg 6 true (qo 10 (.call false (.c (.fn cm [] [])) [(.t 9),(.c (.int .i64 1)),(.c (.int .i64 2000))])),qp 11 6 10,qm 12 11,qg 12 true (qf 13 1 1),qg 12 true (ql 14 1 13),qg 12 true (qo 15 (.call false (.c (.fn eL [] [])) [(.t 14),(.c (.fn fN [] []))])),qp 16 12 15,qm 2 16]
def mX:Abs.Fn:=⟨1,[.t 2],sR [1] aj1 (sR [2] aj2 .ret)⟩
attribute [simp] aj1 aj2
def aj3 :=[qb 6 false]
def aj4 :=[qm 7 1,qm 8 0,qk 9 .leq 7 8,qm 10 9,qg 10 true (qm 11 0),qg 10 true (qm 12 2),qg 10 true (qk 13 .leq 11 12),qp 14 10 13,qm 6 14]
def sC:Abs.Fn:=⟨3,[.t 6],sR [0,1,2] aj3 (sR [6] aj4 .ret)⟩
attribute [simp] aj3 aj4
def aj5 :=[qx 2 0,qx 3 1,qb 4 false]
def aj6 :=[qf 6 0 3,qa 7 3 6,qo 5 (.dY [] [zI,zI,zI]),qs 5 3 5 7]
def aj7 :=[qf 8 3 3,ql 9 1 8,qf 10 6 2,ql 11 1 10,qk 12 .geq 9 11,qm 13 12,qg 13 true (qf 14 0 5),qg 13 true (qv 15 5 1 14),qg 13 true (qf 16 0 2),qg 13 true (qf 17 0 16),qg 13 true (ql 18 1 17),qg 13 true (qf 19 3 2),qg 13 true (qf 20 0 19),qg 13 true (ql 21 1 20),qg 13 true (qc 22 cm [15,18,21]),qp 23 13 22,qm 24 23,qg 24 true (qf 25 1 5),qg 24 true (qv 26 5 1 25),qg 24 true (qf 27 0 2),qg 24 true (qf 28 1 27),qg 24 true (ql 29 1 28),qg 24 true (qf 30 3 2),qg 24 true (qf 31 1 30),qg 24 true (ql 32 1 31),qg 24 true (qc 33 cm [26,29,32]),qp 34 24 33,qm 35 34,qg 35 true (qf 36 2 5),qg 35 true (qv 37 5 1 36),qg 35 true (qf 38 0 2),qg 35 true (qf 39 2 38),qg 35 true (ql 40 1 39),qg 35 true (qf 41 3 2),qg 35 true (qf 42 2 41),qg 35 true (ql 43 1 42),qg 35 true (qc 44 cm [37,40,43]),qp 45 35 44,qm 4 45]
def mZ:Abs.Fn:=⟨2,[.t 4],sR [2,3] aj5 (sR [2,3,5] aj6 (sR [4] aj7 .ret))⟩
attribute [simp] aj5 aj6 aj7
def auz :=[qb 4 false]
def auA :=[qm 5 0,qm 6 1,qc 7 fM [5,6],qn 8 .geq 7 0,qm 4 8]
def gZ:Abs.Fn:=⟨2,[.t 4],sR [0,1] auz (sR [4] auA .ret)⟩
def auB :=[qx 3 1,qb 4 false]
def auC :=[qm 5 0,qo 6 (.xT iD [] [(.t 3)]),qc 7 cp [5,6],qu 8 7,qm 4 8]
def nq:Abs.Fn:=⟨2,[.t 4],sR [0,3] auB (sR [4] auC .ret)⟩
def akw :=[qx 2 0,qx 3 1,qo 4 (.dY [] [zI,zI,zI,zI,.aF,zI,zI,zI,.aF,(.str []),.aF]),qi 5 0]
def akx :=[qa 7 9 2,qa 8 2 3,qo 9 (.lq [zI,zI,zI,zI,.aF,zI,zI,zI,.aF,(.str []),.aF] [(0,9,(.t 7)),(9,2,(.t 8))]),qo 6 (.dY [] [zI,zI,zI,zI,.aF,zI,zI,zI,.aF,(.str []),.aF]),qs 6 11 6 9]
def aky :=[qa 10 9 2,qc 11 jq [10],qu 12 11,qm 13 12,qg 13 false (qw 14 6 11 6),qg 13 false (qc 15 jv [14]),qg 13 false (qu 16 15),qP 17 13 16]
def akz :=[qo 18 (.lq [zI,zI,zI,zI,.aF,zI,zI,zI,.aF,(.str []),.aF] []),qs 4 11 4 18,qi 5 1]
def akA :=[qw 19 6 11 6,qs 4 11 4 19,qi 5 0]
def wU:Abs.Fn:=⟨2,[.v 4 true 11,.t 5],sR [2,3,4] akw (sR [2,4,6] akx (sE [4,6,17] aky 17 [4,5] akz (sR [4,5] akA .ret)))⟩
attribute [simp] akw akx aky akz akA
def akB :=[qx 2 0,qi 4 0]
def akC :=[qm 8 1,qe 9 8,qn 10 .gtr 9 200]
def akD :=[qi 4 3]
def akE :=[qm 11 1,qe 12 11,qi 13 0]
def akF :=[qk 14 .lss 13 12]
def akG :=[qj 15 1 11 13,ql 16 1 15,qm 6 16]
def akH :=[qa 17 9 2,qm 18 6,qc 19 od [17,18],qm 7 19]
def akI :=[qm 20 7,qn 21 .neq 20 0]
def akJ :=[qm 22 7,qm 4 22]
def akK :=[qn 23 .add 13 1,qm 13 23]
def nL:Abs.cH:=sR [2,11,12,13,14] akF (.seq (.ite (.t 14) .dQ (.exit 0)) (.seq (.bO 1 (sR [2,6,11,12,13] akG (sR [2,7,11,12,13] akH (sR [2,7,11,12,13,21] akI (.ite (.t 21) (sR [4] akJ .ret) .dQ))))) (.cg [2,11,12,13] akK)))
def adb :=[qi 4 0]
def sw:Abs.Fn:=⟨2,[.t 4],sR [1,2] akB (sE [1,2,10] akC 10 [4] akD (sL [2,11,12,13] akE 0 [2,11,12,13] false nL (sR [4] adb .ret)))⟩
attribute [simp] akB akC akD akE akF akG akH akI akJ akK adb
def akL :=[qx 2 0,qo 4 (.dY [(0,1),(1,1)] [.aF,.aF])]
def akM :=[qa 10 11 2,qc 11 iN [10],qo 12 (.Kw 1 1 [.aF] [(0,1,(.t 11))]),qf 13 0 4,⟨none,none,false,.FV 4 [(0,1),(1,1)] 1 13 (.t 12)⟩]
def akN :=[qm 14 1,qe 15 14,qi 16 0]
def akO :=[qk 17 .lss 16 15]
def akP :=[qm 18 16,qj 19 1 14 16,ql 20 1 19,qm 5 18,qm 6 20]
def akQ :=[qA 22 11 2,qF 23 0 4,qV 24 4 1 23,qM 25 5,qJ 26 1 24 25,qL 27 1 26,qM 28 6,qC 29 lT [22,27,28],qM 21 29,qZ 30 21 0,qZ 31 21 1,qZ 32 21 2,qM 7 30,qM 8 31,qm 9 32]
def akR :=[qm 33 9,qn 34 .neq 33 0]
def akS :=[qo 35 (.lq [] []),qo 36 (.mki 262 (.t 35))]
def akT:List Abs.Op:=[]
def akU :=[qF 37 0 4,qV 38 4 1 37,qM 39 7,qO 40 (.ur 1 1 [.aF] [(0,1,(.t 39))]),qO 41 (.app 1 24 (.t 38) (.t 40)),qF 42 1 4,qV 43 4 1 42,qM 44 8,qO 45 (.ur 1 1 [.aF] [(0,1,(.t 44))]),qO 46 (.app 1 24 (.t 43) (.t 45)),qF 47 0 4,⟨none,none,false,.FV 4 [(0,1),(1,1)] 1 47 (.t 41)⟩,qf 48 1 4,⟨none,none,false,.FV 4 [(0,1)] 1 48 (.t 46)⟩]
def ade :=[qn 49 .add 16 1,qm 16 49]
def mg:Abs.cH:=sR [2,4,14,15,16,17] akO (.seq (.ite (.t 17) .dQ (.exit 0)) (.seq (.bO 1 (sR [2,4,5,6,14,15,16] akP (sR [2,4,7,8,9,14,15,16] akQ (sI [2,4,7,8,14,15,16,34] akR 34 (.iG [2,4,7,8,14,15,16] akS ⟨none,none,false,.LW (.t 36)⟩ akT) .dQ (.cg [2,4,14,15,16] akU))))) (.cg [2,4,14,15,16] ade)))
def adf :=[qw 50 4 2 4,⟨none,none,false,.FV 4 [(0,1),(1,1)] 2 4 (.t 50)⟩]
def mR:Abs.Fn:=⟨2,[.v 4 true 2],sR [1,2,4] akL (sR [1,2,4] akM (sL [2,4,14,15,16] akN 0 [2,4,14,15,16] false mg (sR [4] adf .ret)))⟩
attribute [simp] akL akM akN akO akP akQ akR akS akT akU ade adf
def akV :=[qb 2 false]
def akW :=[qm 6 0,qe 7 6,qo 8 (.call false (.c (.fn dn [] [])) [(.t 7),(.c (.int .i64 2)),(.c (.int .i64 20))]),qu 9 8,qm 10 9,qg 10 false (qm 11 0),qg 10 false (qo 12 (.call false (.c (.fn jf [] [])) [(.t 11),(.c (.fn kj [] []))])),qg 10 false (qu 13 12),qP 14 10 13]
def akX :=[qb 2 false]
def akY :=[qm 15 0,qo 16 (.JV 5 (.t 15) (some (.c (.int .i64 1))) none none),qe 17 16,qi 18 0]
def akZ :=[qk 19 .lss 18 17]
def ak0 :=[qm 20 18,qj 21 5 16 18,qa 22 5 21,qo 4 (.dY [] [zI,zI,zI,zI,zI]),qm 3 20,qs 4 5 4 22]
def ak1 :=[qm 23 0,qm 24 3,qj 25 5 23 24,qa 26 5 25,qo 5 (.dY [] [zI,zI,zI,zI,zI]),qs 5 5 5 26]
def ak2 :=[qf 27 0 4,qv 28 4 1 27,qf 29 0 5,qv 30 5 1 29,qk 31 .leq 28 30,qm 32 31,qg 32 false (qf 33 1 4),qg 32 false (qv 34 4 1 33),qg 32 false (qf 35 1 5),qg 32 false (qv 36 5 1 35),qg 32 false (qk 37 .leq 34 36),qP 38 32 37,qm 39 38,qg 39 false (qf 40 2 4),qg 39 false (qv 41 4 1 40),qg 39 false (qf 42 2 5),qg 39 false (qv 43 5 1 42),qg 39 false (qk 44 .leq 41 43),qP 45 39 44,qm 46 45,qg 46 false (qf 47 4 4),qg 46 false (qv 48 4 1 47),qg 46 false (qf 49 4 5),qg 46 false (qv 50 5 1 49),qg 46 false (qk 51 .lss 48 50),qP 52 46 51]
def ak3 :=[qb 2 false]
def ak4 :=[qn 53 .add 18 1,qm 18 53]
def kg:Abs.cH:=sR [0,16,17,18,19] akZ (.seq (.ite (.t 19) .dQ (.exit 0)) (.seq (.bO 1 (sR [0,3,4,16,17,18] ak0 (sR [0,4,5,16,17,18] ak1 (sR [0,16,17,18,52] ak2 (.ite (.t 52) (sR [2] ak3 .ret) .dQ))))) (.cg [0,16,17,18] ak4)))
def adg :=[qb 2 true]
def nU:Abs.Fn:=⟨1,[.t 2],sR [0] akV (sE [0,14] akW 14 [2] akX (sL [0,16,17,18] akY 0 [0,16,17,18] false kg (sR [2] adg .ret)))⟩
attribute [simp] akV akW akX akY akZ ak0 ak1 ak2 ak3 ak4 adg
def ak5 :=[qb 4 false]
def ak6 :=[qm 5 1,qm 6 0,qe 7 6,qn 8 .sub 7 1,qo 9 (.call false (.c (.fn dn [] [])) [(.t 5),(.c zI),(.t 8)]),qm 4 9]
def pY:Abs.Fn:=⟨2,[.t 4],sR [0,1] ak5 (sR [4] ak6 .ret)⟩
attribute [simp] ak5 ak6
def ak7 :=[qx 1 0,qb 2 false]
def ak8 :=[qf 3 0 1,ql 4 1 3,qo 5 (.call false (.c (.fn dn [] [])) [(.t 4),(.c zI),(.c (.int .i64 1000000))]),qm 6 5,qg 6 true (qf 7 1 1),qg 6 true (ql 8 1 7),qg 6 true (qf 9 0 1),qg 6 true (ql 10 1 9),qg 6 true (qo 11 (.bin .mul (.c (.int .i64 4000)) (.t 10))),qg 6 true (qo 12 (.call false (.c (.fn dn [] [])) [(.t 8),(.c zI),(.t 11)])),qp 13 6 12,qm 14 13,qg 14 true (qf 15 2 1),qg 14 true (ql 16 1 15),qg 14 true (qf 17 0 1),qg 14 true (ql 18 1 17),qg 14 true (qo 19 (.bin .mul (.c (.int .i64 10000)) (.t 18))),qg 14 true (qo 20 (.call false (.c (.fn dn [] [])) [(.t 16),(.c zI),(.t 19)])),qp 21 14 20,qm 22 21,qg 22 true (qf 23 3 1),qg 22 true (ql 24 1 23),qg 22 true (qo 25 (.call false (.c (.fn dn [] [])) [(.t 24),(.c zI),(.c (.int .i64 1000000000))])),qp 26 22 25,qm 2 26]
def mW:Abs.Fn:=⟨1,[.t 2],sR [1] ak7 (sR [2] ak8 .ret)⟩
attribute [simp] ak7 ak8
def ak9 :=[qo 4 (.dY [] [zI,zI,zI,zI,zI])]
def ala :=[qm 5 0,qm 6 1,qj 7 5 5 6,qa 8 5 7,qo 9 (.lq [zI,zI,zI,zI,zI] [(0,5,(.t 8))]),qs 4 5 4 9]
def rF:Abs.Fn:=⟨2,[.v 4 true 5],sR [0,1,4] ak9 (sR [4] ala .ret)⟩
attribute [simp] ak9 ala
def alb :=[qx 2 0,qx 3 1,qo 4 (.dY [] [zI,zI,zI,zI,zI,zI,zI,zI,zI,zI])]
def ald :=[qa 7 5 2,qa 8 4 3,qc 9 kO [7,8],qm 5 9]
def ale :=[qm 35 5,qn 36 .eql 35 0,qm 34 36]
def alf :=[qa 37 4 3,qf 38 4 4,qs 4 4 38 37]
def alg :=[qm 40 5,qf 41 0 3,ql 42 1 41,qk 43 .eql 40 42,qm 39 43]
def alh :=[qm 44 5,qf 45 1 3,ql 46 1 45,qf 47 3 3,ql 48 1 47,qo 49 (.lq [zI,zI,zI,zI] [(0,1,(.t 44)),(1,1,(.t 46)),(3,1,(.t 48))]),qf 50 0 4,qs 4 4 50 49]
def ali :=[qm 10 5,qm 11 5,qf 12 0 2,qf 13 3 12,ql 14 1 13,qk 15 .mul 11 14,qf 16 3 3,ql 17 1 16,qo 18 (.lq [zI,zI,zI,zI] [(0,1,(.t 10)),(1,1,(.t 15)),(3,1,(.t 17))]),qf 19 0 4,qs 4 4 19 18]
def alj :=[qf 20 0 3,ql 21 1 20,qm 22 5,qk 23 .sub 21 22,qf 24 1 3,ql 25 1 24,qm 26 5,qf 27 0 2,qf 28 3 27,ql 29 1 28,qk 30 .mul 26 29,qk 31 .sub 25 30,qo 32 (.lq [zI,zI,zI,zI] [(0,1,(.t 23)),(1,1,(.t 31))]),qf 33 4 4,qs 4 4 33 32]
def alk :=[qf 51 2 3,ql 52 1 51,qf 53 4 4,qf 54 0 53,qv 55 4 1 54,qf 56 0 2,qf 57 4 56,ql 58 1 57,qk 59 .mul 55 58,qo 60 (.mn (.t 52) (.t 59)),qm 6 60]
def alm :=[qM 61 6,qF 62 2 3,qL 63 1 62,qM 64 6,qK 65 .sub 63 64,qF 66 4 4,qF 67 2 66,qS 4 1 67 61,qf 68 9 4,qs 4 1 68 65]
def adh :=[qf 69 4 4,qf 70 0 69,qv 71 4 1 70,qn 72 .gtr 71 0]
def adi :=[qf 73 4 4,qf 74 1 73,qv 75 4 1 74,qf 76 4 4,qf 77 0 76,qv 78 4 1 77,qf 79 0 2,qf 80 2 79,ql 81 1 80,qk 82 .mul 78 81,qk 83 .sub 75 82,qo 84 (.mx (.c zI) (.t 83)),qf 85 8 4,qs 4 1 85 84]
def adj :=[qw 86 4 10 4,qs 4 10 4 86]
def rG:Abs.Fn:=⟨2,[.v 4 true 10],sR [2,3,4] alb (sR [2,3,4,5] ald (.seq (.bO 0 (sR [2,3,4,5,34] ale (.ite (.t 34) (.cg [2,3,4] alf) (sR [2,3,4,5,39] alg (.ite (.t 39) (.cg [2,3,4] alh) (sR [2,3,4,5] ali (.cg [2,3,4] alj))))))) (sR [2,3,4,6] alk (sR [2,4] alm (sI [2,4,72] adh 72 (.cg [4] adi) .dQ (sR [4] adj .ret))))))⟩
attribute [simp] alb ald ale alf alg alh ali alj alk alm adh adi adj
def aln :=[qx 1 0,qb 2 false]
def alo :=[qo 3 (.HM [] [zI]),⟨none,none,false,.st [] 1 (.t 3) (.c (.int .i64 1000))⟩]
def alp :=[qf 4 0 1,ql 5 1 4,qo 6 (.call false (.c (.fn jY [] [])) [(.t 5),(.c zI),(.c (.int .i64 5))]),qm 7 6,qg 7 true (qf 8 1 1),qg 7 true (ql 9 1 8),qg 7 true (qe 10 9),qg 7 true (qo 11 (.call false (.c (.fn jY [] [])) [(.t 10),(.c (.int .i64 1)),(.c (.int .i64 8))])),qp 12 7 11,qm 13 12,qg 13 true (qf 14 1 1),qg 13 true (ql 15 1 14),qg 13 true (qo 16 (.xT dZ [] [(.t 3)])),qg 13 true (qc 17 iw [15,16]),qp 18 13 17,qm 2 18]
def oH:Abs.Fn:=⟨1,[.t 2],sR [1] aln (sR [1,3] alo (sR [2] alp .ret))⟩
attribute [simp] aln alo alp
def alq :=[qb 2 false]
def alr :=[qm 3 0,qo 4 (.call false (.c (.fn jM [] [])) [(.t 3),(.c (.fn mE [] []))]),qm 2 4]
def u6:Abs.Fn:=⟨1,[.t 2],sR [0] alq (sR [2] alr .ret)⟩
attribute [simp] alq alr
def Tc :=[qx 1 0,qi 2 0]
def Td :=[qf 5 1 1,ql 6 1 5,qe 7 6,qi 8 0]
def Te :=[qk 9 .lss 8 7]
def Tf :=[qj 10 2 6 8,qa 11 2 10,qo 4 (.dY [] [zI,zI]),qs 4 2 4 11]
def Tg :=[qm 12 2,qf 13 0 4,qv 14 4 1 13,qk 15 .add 12 14,qm 2 15]
def Th :=[qn 16 .add 8 1,qm 8 16]
def jJ:Abs.cH:=sR [2,6,7,8,9] Te (.seq (.ite (.t 9) .dQ (.exit 0)) (.seq (.bO 1 (sR [2,4,6,7,8] Tf (.cg [2,6,7,8] Tg))) (.cg [2,6,7,8] Th)))
def Ti :=[qm 17 2,qm 2 17]
def l8:Abs.Fn:=⟨1,[.t 2],sR [1,2] Tc (sL [2,6,7,8] Td 0 [2,6,7,8] false jJ (sR [2] Ti .ret))⟩
attribute [simp] Tc Td Te Tf Tg Th Ti
def Tj :=[qx 2 0,qo 4 (.HM [] [zI])]
def Tk :=[qa 7 2 2,qm 8 1,qo 9 (.call true (.c (.fn nd [] [])) [(.t 7),(.t 8)])]
def Tl :=[qo 5 (.dY [] [zI,zI]),qs 5 2 5 10]
def Tm :=[qm 6 11]
def Tn :=[ql 12 1 4,qf 13 1 5,qv 14 5 1 13,qm 15 6,qk 16 .mul 14 15,qk 17 .add 12 16,qt 1 4 17]
def l9:Abs.cH:=sR [4,5,11] Tl (.cg [4,5,6] Tm)
def ma:Abs.cH:=.bO 1 (.cg [] Tn)
def To :=[ql 18 1 4,qt 1 4 18]
def CZ:uh:=an7 [(5,[4]),(4,[]),(3,[4,5,6]),(2,[4,5,11]),(1,[4,9]),(0,[1,2,4])] [(0,[4])] [] [4,5] [5] [] [1002]
def oG:Abs.Fn:=⟨2,[.c 4 false 1],sR [1,2,4] Tj (.seq (sR [4,9] Tk (.bO 0 (.JO [4] (.t 9) [10,11] l9 ma))) (sR [4] To .ret))⟩
attribute [simp] Tj Tk Tl Tm Tn To
def amY :=[qo 2 (.pq 1)]
def amZ :=[qm 5 0,qe 6 5,qi 7 0]
def am0 :=[qk 8 .lss 7 6]
def am1 :=[qj 9 1 5 7,ql 10 1 9,qm 4 10]
def am2 :=[qm 11 2,qm 12 4,qc 13 uP [12],qy 14 1 1 11 13,qm 2 14]
def am3 :=[qn 15 .add 7 1,qm 7 15]
def AZ:Abs.cH:=sR [2,5,6,7,8] am0 (.seq (.ite (.t 8) .dQ (.exit 0)) (.seq (.bO 1 (sR [2,4,5,6,7] am1 (.cg [2,5,6,7] am2))) (.cg [2,5,6,7] am3)))
def am4 :=[qm 16 2,qm 2 16]
def xJ:Abs.Fn:=⟨1,[.t 2],sR [0,2] amY (sL [2,5,6,7] amZ 0 [2,5,6,7] false AZ (sR [2] am4 .ret))⟩
def Tp :=[qo 6 (.HM [] [zI])]
def Tq :=[qo 10 (.xT cX [] [(.t 6)])]
def Tr :=[qm 12 2]
def Tt :=[qm 11 13,qz 14 11 0,qz 15 11 1,qz 16 11 2,qo 7 (.dY [] [(.bool false),zI,zI,.iP]),qs 7 4 7 14,qm 8 15,qm 9 16]
def Tu :=[qm 17 0,qm 18 1,qo 19 (.mo (.t 17)),qf 20 20 19,qt 1 20 18]
def Tv :=[qf 21 3 7,qv 22 7 1 21,qm 23 0,qm 24 8,qm 25 9]
def Tw:List Abs.Op:=[]
def Tx:List Abs.Op:=[⟨none,none,false,.st [] 1 (.t 6) (.c zI)⟩]
def kU:Abs.cH:=.seq (.iG [0,1,6,7,8,9] Tr ⟨some 13,none,false,.call false (.c (.fn dc [] [])) [(.t 12)]⟩ Tt) (sR [0,6,7,8,9] Tu (.seq (.iG [6] Tv ⟨some 26,none,false,.call false (.t 22) [(.t 23),(.t 24),(.t 25)]⟩ Tw) (sR [6] Tx .ret)))
def Ci:uh:=⟨[(5,[6]),(4,[6]),(3,[0,6,7,8,9]),(2,[0,1,6,7,8,9]),(1,[0,1,2,6]),(0,[0,1,2,6])],[],[],[0,6,7],[7],[],[],[],[],[],[(2,some 1),(4,some 5)]⟩
def nJ:Abs.Fn:=⟨3,[.c 6 false 1],sR [0,1,2,6] Tp (sR [10,0,1,2,6] Tq (.QN (.t 10) [] kU))⟩
attribute [simp] Tp Tq Tr Tt Tu Tv Tw Tx
def am5 :=[qb 4 false]
def am6 :=[qm 5 0,qm 6 1,qc 7 iY [5,6],qn 8 .geq 7 0,qm 4 8]
def pa:Abs.Fn:=⟨2,[.t 4],sR [0,1] am5 (sR [4] am6 .ret)⟩
def Tz :=[qb 2 false]
def TA :=[qm 3 0,qo 4 (.ri (.zc) [(.t 3)]),qn 5 .gtr 4 4000,qm 2 5]
def pL:Abs.Fn:=⟨1,[.t 2],sR [0] Tz (sR [2] TA .ret)⟩
attribute [simp] Tz TA
def TB :=[qx 1 0,qb 2 false]
def TC :=[qf 3 0 1,ql 4 1 3,qo 5 (.call false (.c (.fn dM [] [])) [(.t 4),(.c (.int .i64 1)),(.c (.int .i64 8))]),qm 6 5,qg 6 true (qf 7 1 1),qg 6 true (ql 8 1 7),qg 6 true (qo 9 (.call false (.c (.fn dM [] [])) [(.t 8),(.c (.int .i64 1)),(.c (.int .i64 8))])),qp 10 6 9,qm 11 10,qg 11 true (qf 12 2 1),qg 11 true (ql 13 1 12),qg 11 true (qo 14 (.call false (.c (.fn dM [] [])) [(.t 13),(.c (.int .i64 1)),(.c (.int .i64 8))])),qp 15 11 14,qm 16 15,qg 16 true (qa 17 4 1),qg 16 true (qc 18 dj [17]),qg 16 true (qn 19 .leq 18 64),qp 20 16 19,qm 21 20,qg 21 true (qf 22 3 1),qg 21 true (ql 23 1 22),qg 21 true (qo 24 (.call false (.c (.fn dM [] [])) [(.t 23),(.c (.int .i64 1)),(.c (.int .i64 6))])),qp 25 21 24,qm 2 25]
def nG:Abs.Fn:=⟨1,[.t 2],sR [1] TB (sR [2] TC .ret)⟩
attribute [simp] TB TC
def TD :=[qb 2 false]
def TE :=[qm 5 0,qo 6 (.ri (.zc) [(.t 5)]),qi 7 0]
def TF :=[qk 8 .lss 7 6]
def TG :=[qm 9 7,qm 3 9]
def TH :=[qm 10 0,qm 11 3,qo 12 (.ri (.Co) [(.t 10),(.t 11)]),qo 13 (.bin .geq (.t 12) (.c (.int .u8 97))),qm 14 13,qg 14 true (qm 15 0),qg 14 true (qm 16 3),qg 14 true (qo 17 (.ri (.Co) [(.t 15),(.t 16)])),qg 14 true (qo 18 (.bin .leq (.t 17) (.c (.int .u8 122)))),qp 19 14 18,qm 4 19]
def TI :=[qm 20 4,qu 21 20,qm 22 21,qg 22 true (qm 23 3),qg 22 true (qn 24 .eql 23 0),qg 22 true (qm 25 24),qg 25 false (qm 26 0),qg 25 false (qm 27 3),qg 25 false (qo 28 (.ri (.Co) [(.t 26),(.t 27)])),qg 25 false (qo 29 (.bin .lss (.t 28) (.c (.int .u8 48)))),qg 22 true (qP 30 25 29),qg 22 true (qm 31 30),qg 31 false (qm 32 0),qg 31 false (qm 33 3),qg 31 false (qo 34 (.ri (.Co) [(.t 32),(.t 33)])),qg 31 false (qo 35 (.bin .gtr (.t 34) (.c (.int .u8 57)))),qg 22 true (qP 36 31 35),qp 37 22 36]
def TJ :=[qb 2 false]
def TK :=[qn 38 .add 7 1,qm 7 38]
def rm:Abs.cH:=sR [0,6,7,8] TF (.seq (.ite (.t 8) .dQ (.exit 0)) (.seq (.bO 1 (sR [0,3,6,7] TG (sR [0,3,4,6,7] TH (sR [0,6,7,37] TI (.ite (.t 37) (sR [2] TJ .ret) .dQ))))) (.cg [0,6,7] TK)))
def TL :=[qm 39 0,qo 40 (.ri (.zc) [(.t 39)]),qo 41 (.call false (.c (.fn dM [] [])) [(.t 40),(.c (.int .i64 1)),(.c (.int .i64 16))]),qm 2 41]
def uY:Abs.Fn:=⟨1,[.t 2],sR [0] TD (sL [0,6,7] TE 0 [0,6,7] false rm (sR [2] TL .ret))⟩
attribute [simp] TD TE TF TG TH TI TJ TK TL
def TM :=[qx 1 0,qi 2 0]
def TN :=[qf 3 0 1,ql 4 1 3,qf 5 1 1,ql 6 1 5,qk 7 .mul 4 6,qf 8 2 1,ql 9 1 8,qk 10 .mul 7 9,qm 2 10]
def mJ:Abs.Fn:=⟨1,[.t 2],sR [1] TM (sR [2] TN .ret)⟩
attribute [simp] TM TN
def am7 :=[qx 3 1,qb 4 false]
def am8 :=[qm 5 0,qo 6 (.xT qd [] [(.t 3)]),qc 7 cc [5,6],qu 8 7,qm 4 8]
def Aj:Abs.Fn:=⟨2,[.t 4],sR [0,3] am7 (sR [4] am8 .ret)⟩
def TO :=[qb 2 false]
def TP :=[qm 3 0,qo 4 (.call false (.c (.fn dM [] [])) [(.t 3),(.c (.int .i64 (-100000))),(.c (.int .i64 100000))]),qm 2 4]
def lY:Abs.Fn:=⟨1,[.t 2],sR [0] TO (sR [2] TP .ret)⟩
attribute [simp] TO TP
def TQ :=[qb 6 false]
def TR :=[qm 7 1,qm 8 0,qk 9 .leq 7 8,qm 10 9,qg 10 true (qm 11 0),qg 10 true (qm 12 2),qg 10 true (qk 13 .leq 11 12),qp 14 10 13,qm 6 14]
def tC:Abs.Fn:=⟨3,[.t 6],sR [0,1,2] TQ (sR [6] TR .ret)⟩
attribute [simp] TQ TR
def TS :=[qx 4 0,qb 8 false]
def TU :=[qm 12 1,qf 13 3 4,ql 14 1 13,qn 15 .sub 14 1,qo 16 (.call false (.c (.fn dM [] [])) [(.t 12),(.c zI),(.t 15)]),qu 17 16,qm 18 17,qg 18 false (qm 19 2),qg 18 false (qe 20 19),qg 18 false (qn 21 .lss 20 1),qP 22 18 21,qm 23 22,qg 23 false (qm 24 2),qg 23 false (qe 25 24),qg 23 false (qm 26 3),qg 23 false (qe 27 26),qg 23 false (qk 28 .neq 25 27),qP 29 23 28]
def TV :=[qb 8 false]
def TW :=[qi 9 (-1)]
def TX :=[qm 30 2,qe 31 30,qi 32 0]
def TY :=[qk 33 .lss 32 31]
def TZ :=[qm 34 32,qj 35 1 30 32,ql 36 1 35,qm 10 34,qm 11 36]
def T0 :=[qm 37 11,qm 38 9,qk 39 .leq 37 38,qm 40 39,qg 40 false (qm 41 11),qg 40 false (qa 42 4 4),qg 40 false (qc 43 dj [42]),qg 40 false (qk 44 .geq 41 43),qP 45 40 44,qm 46 45,qg 46 false (qm 47 3),qg 46 false (qm 48 10),qg 46 false (qj 49 1 47 48),qg 46 false (ql 50 1 49),qg 46 false (qo 51 (.call false (.c (.fn dM [] [])) [(.t 50),(.c (.int .i64 (-1000))),(.c (.int .i64 1000))])),qg 46 false (qu 52 51),qP 53 46 52]
def T1 :=[qb 8 false]
def T2 :=[qm 54 11,qm 9 54]
def NT :=[qn 55 .add 32 1,qm 32 55]
def kT:Abs.cH:=sR [3,4,9,30,31,32,33] TY (.seq (.ite (.t 33) .dQ (.exit 0)) (.seq (.bO 1 (sR [3,4,9,10,11,30,31,32] TZ (sE [3,4,11,30,31,32,53] T0 53 [8] T1 (.cg [3,4,9,30,31,32] T2)))) (.cg [3,4,9,30,31,32] NT)))
def NU :=[qb 8 true]
def oE:Abs.Fn:=⟨4,[.t 8],sR [1,2,3,4] TS (sE [2,3,4,29] TU 29 [8] TV (sR [2,3,4,9] TW (sL [3,4,9,30,31,32] TX 0 [3,4,9,30,31,32] false kT (sR [8] NU .ret))))⟩
attribute [simp] TS TU TV TW TX TY TZ T0 T1 T2 NT NU
def T3 :=[qx 1 0,qb 2 false]
def T4 :=[qf 3 0 1,ql 4 1 3,qo 5 (.bin .leq (.c (.int .i64 (-10000000000))) (.t 4)),qm 6 5,qg 6 true (qf 7 0 1),qg 6 true (ql 8 1 7),qg 6 true (qf 9 1 1),qg 6 true (ql 10 1 9),qg 6 true (qk 11 .leq 8 10),qp 12 6 11,qm 13 12,qg 13 true (qf 14 1 1),qg 13 true (ql 15 1 14),qg 13 true (qn 16 .leq 15 10000000000),qp 17 13 16,qm 2 17]
def oF:Abs.Fn:=⟨1,[.t 2],sR [1] T3 (sR [2] T4 .ret)⟩
attribute [simp] T3 T4
def T5 :=[qx 2 0,qx 3 1,qi 4 0]
def T6 :=[qf 7 5 2,ql 8 1 7,qe 9 8,qi 10 0]
def T7 :=[qk 11 .lss 10 9]
def T8 :=[qm 12 10,qj 13 1 8 10,ql 14 1 13,qm 5 12,qm 6 14]
def T9 :=[qM 15 4,qF 16 6 2,qL 17 1 16,qM 18 5,qJ 19 1 17 18,qL 20 1 19,qF 21 1 3,qL 22 1 21,qF 23 4 2,qL 24 1 23,qF 25 0 2,qA 26 4 25,qC 27 dj [26],qK 28 .mul 24 27,qM 29 6,qK 30 .add 28 29,qJ 31 1 22 30,qL 32 1 31,qK 33 .mul 20 32,qk 34 .add 15 33,qm 4 34]
def Ua :=[qn 35 .add 10 1,qm 10 35]
def nH:Abs.cH:=sR [2,3,4,8,9,10,11] T7 (.seq (.ite (.t 11) .dQ (.exit 0)) (.seq (.bO 1 (sR [2,3,4,5,6,8,9,10] T8 (.cg [2,3,4,8,9,10] T9))) (.cg [2,3,4,8,9,10] Ua)))
def Ub :=[qm 36 4,qm 4 36]
def rn:Abs.Fn:=⟨2,[.t 4],sR [2,3,4] T5 (sL [2,3,4,8,9,10] T6 0 [2,3,4,8,9,10] false nH (sR [4] Ub .ret))⟩
attribute [simp] T5 T6 T7 T8 T9 Ua Ub
def Uc :=[qx 1 0,qb 2 false]
def Ud :=[qf 4 0 1,qa 5 4 4,qc 6 jk [5],qn 7 .neq 6 0,qm 8 7,qg 8 false (qf 9 0 1),qg 8 false (qf 10 3 9),qg 8 false (ql 11 1 10),qg 8 false (qn 12 .lss 11 4),qP 13 8 12,qm 14 13,qg 14 false (qf 15 4 1),qg 14 false (ql 16 1 15),qg 14 false (qc 17 jx [16]),qg 14 false (qn 18 .neq 17 0),qP 19 14 18,qm 20 19,qg 20 false (qf 21 5 1),qg 20 false (ql 22 1 21),qg 20 false (qo 23 (.call false (.c (.fn cn [] [])) [(.t 22),(.c (.int .i64 1)),(.c (.int .i64 100000))])),qg 20 false (qu 24 23),qP 25 20 24,qm 26 25,qg 26 false (qf 27 6 1),qg 26 false (ql 28 1 27),qg 26 false (qo 29 (.call false (.c (.fn cn [] [])) [(.t 28),(.c zI),(.c (.int .i64 1000))])),qg 26 false (qu 30 29),qP 31 26 30,qm 32 31,qg 32 false (qf 33 7 1),qg 32 false (ql 34 1 33),qg 32 false (qo 35 (.call false (.c (.fn cn [] [])) [(.t 34),(.c zI),(.c (.int .i64 3000))])),qg 32 false (qu 36 35),qP 37 32 36,qm 38 37,qg 38 false (qf 39 8 1),qg 38 false (ql 40 1 39),qg 38 false (qe 41 40),qg 38 false (qn 42 .gtr 41 8),qP 43 38 42]
def Ue :=[qb 2 false]
def Uf :=[qa 44 9 1,qc 45 de [44],qo 46 (.mks 1 1 [(.bool false)] (.t 45) (.t 45)),qo 3 (.HM [] [.aF]),qt 1 3 46]
def Ug :=[qf 47 8 1,ql 48 1 47,qo 49 (.xT fx [] [(.t 3)]),qc 50 j1 [48,49],qm 2 50]
def rB:Abs.Fn:=⟨1,[.t 2],sR [1] Uc (sE [1,43] Ud 43 [2] Ue (sR [1,3] Uf (sR [2] Ug .ret)))⟩
attribute [simp] Uc Ud Ue Uf Ug
def Uh :=[qb 6 false]
def Ui :=[qm 7 1,qm 8 0,qk 9 .leq 7 8,qm 10 9,qg 10 true (qm 11 0),qg 10 true (qm 12 2),qg 10 true (qk 13 .leq 11 12),qp 14 10 13,qm 6 14]
def vc:Abs.Fn:=⟨3,[.t 6],sR [0,1,2] Uh (sR [6] Ui .ret)⟩
attribute [simp] Uh Ui
def Uj :=[qx 2 0,qx 3 1,qi 4 0]
def Uk :=[qa 5 4 2,qo 6 (.xT cJ [(.t 5)] []),qo 7 (.xT gi [] [(.t 2),(.t 3)]),qo 8 (.ur 2 1 [.iP,.iP] [(0,1,(.t 6)),(1,1,(.t 7))]),qc 9 nu [8],qm 4 9]
def nD:Abs.Fn:=⟨2,[.t 4],sR [2,3] Uj (sR [4] Uk .ret)⟩
attribute [simp] Uj Uk
def am9 :=[qx 3 1,qb 4 false]
def ana :=[qm 5 0,qo 6 (.xT jN [] [(.t 3)]),qc 7 eG [5,6],qu 8 7,qm 4 8]
def tJ:Abs.Fn:=⟨2,[.t 4],sR [0,3] am9 (sR [4] ana .ret)⟩
def Ul :=[qx 2 0,qb 3 false]
def Um :=[qa 4 9 1,qa 5 2 2,qo 6 (.lq [zI,zI,zI,zI,.aF,zI,zI,zI,.aF,(.str []),.aF] [(0,9,(.t 4)),(9,2,(.t 5))]),qc 7 jv [6],qm 3 7]
def tL:Abs.Fn:=⟨2,[.t 3],sR [1,2] Ul (sR [3] Um .ret)⟩
attribute [simp] Ul Um
def Un :=[qx 1 0,qb 2 false]
def Uo :=[qf 5 0 1,qf 6 0 5,qa 7 4 6,qf 8 9 1,qa 9 2 8,qo 10 (.ur 1 2 [(.str []),.aF] [(0,2,(.t 9))]),qc 11 iJ [7,10],qn 12 .neq 11 0]
def Up :=[qb 2 false]
def Uq :=[qo 13 (.lq [zI,zI] [(0,1,(.c (.int .i64 1000))),(1,1,(.c (.int .i64 100000)))]),qo 14 (.lq [zI,zI] [(0,1,(.c zI)),(1,1,(.c (.int .i64 1000)))]),qo 15 (.lq [zI,zI] [(0,1,(.c zI)),(1,1,(.c (.int .i64 3000)))]),qo 16 (.lq [zI,zI] [(0,1,(.c zI)),(1,1,(.c (.int .i64 1000)))]),qo 17 (.lq [zI,zI,zI,zI,zI,zI,zI,zI] [(0,2,(.t 13)),(2,2,(.t 14)),(4,2,(.t 15)),(6,2,(.t 16))]),qi 18 0]
def Ur :=[qn 19 .lss 18 4]
def Us :=[qm 20 18,qo 21 (.Jt true 4 2 (.t 17) (.t 18)),qo 4 (.HM [] [zI,zI]),qm 3 20,qt 2 4 21]
def Ut :=[qa 22 11 1,qm 23 3,qc 24 eo [22,23],qo 25 (.xT ea [] [(.t 4)]),qc 26 jZ [24,25],qu 27 26]
def Uu :=[qb 2 false]
def Uv :=[qn 28 .add 18 1,qm 18 28]
def mf:Abs.cH:=sR [1,17,18,19] Ur (.seq (.ite (.t 19) .dQ (.exit 0)) (.seq (.bO 1 (sR [1,3,4,17,18] Us (sR [1,17,18,27] Ut (.ite (.t 27) (sR [2] Uu .ret) .dQ)))) (.cg [1,17,18] Uv)))
def NV :=[qb 2 true]
def oS:Abs.Fn:=⟨1,[.t 2],sR [1] Un (sE [1,12] Uo 12 [2] Up (sL [1,17,18] Uq 0 [1,17,18] true mf (sR [2] NV .ret)))⟩
attribute [simp] Un Uo Up Uq Ur Us Ut Uu Uv NV
def Uw :=[qx 1 0,qi 2 0]
def Ux :=[qf 3 0 1,qf 4 0 3,ql 5 1 4,qf 6 0 1,qf 7 1 6,ql 8 1 7,qk 9 .mul 5 8,qf 10 0 1,qf 11 2 10,ql 12 1 11,qk 13 .mul 9 12,qm 2 13]
def sy:Abs.Fn:=⟨1,[.t 2],sR [1] Uw (sR [2] Ux .ret)⟩
attribute [simp] Uw Ux
def Uy :=[qx 3 0,qi 6 0]
def Uz :=[qA 10 11 3,qM 11 2,qC 12 fA [10,11],qF 13 0 3,qF 14 5 13,qL 15 1 14,qM 16 1,qM 17 2,qJ 18 3 16 17,qF 19 0 18,qL 20 1 19,qA 21 11 3,qM 22 2,qC 23 fy [21,22],qK 24 .sub 20 23,qK 25 .mul 15 24,qA 26 11 3,qM 27 2,qC 28 fy [26,27],qc 29 vw [25,28],qk 30 .add 12 29,qo 31 (.mx (.c zI) (.t 30)),qm 7 31]
def UA :=[qf 32 0 3,qf 33 4 32,ql 34 1 33,qe 35 34,qi 36 0]
def UB :=[qk 37 .lss 36 35]
def UC :=[qj 38 5 34 36,qa 39 5 38,qo 9 (.dY [] [zI,zI,zI,zI,zI]),qs 9 5 9 39]
def UD :=[qF 40 2 9,qV 41 9 1 40,qM 42 1,qM 43 2,qJ 44 3 42 43,qF 45 0 44,qL 46 1 45,qK 47 .mul 41 46,qM 48 1,qM 49 2,qJ 50 3 48 49,qF 51 1 50,qL 52 1 51,qk 53 .leq 47 52]
def UE :=[qm 54 7,qf 55 1 9,qv 56 9 1 55,qo 57 (.mx (.t 54) (.t 56)),qm 7 57]
def UF :=[qn 58 .add 36 1,qm 36 58]
def iX:Abs.cH:=sR [1,2,7,34,35,36,37] UB (.seq (.ite (.t 37) .dQ (.exit 0)) (.seq (.bO 1 (sR [1,2,7,9,34,35,36] UC (sR [1,2,7,9,34,35,36,53] UD (.ite (.t 53) (.cg [1,2,7,34,35,36] UE) .dQ)))) (.cg [1,2,7,34,35,36] UF)))
def UG :=[qm 59 7,qm 6 59]
def kZ:Abs.Fn:=⟨3,[.t 6],sR [1,2,3] Uy (sR [1,2,3,7] Uz (sL [1,2,7,34,35,36] UA 0 [1,2,7,34,35,36] false iX (sR [6] UG .ret)))⟩
attribute [simp] Uy Uz UA UB UC UD UE UF UG
def UH :=[qo 0 (.dY [] [.iP,.iP,.iP,.iP,.iP])]
def UI :=[qo 1 (.lq [.iP,.iP,.iP,.iP,.iP] [(2,1,(.c (.fn kh [] []))),(3,1,(.c (.fn iM [] []))),(4,1,(.c (.fn jt [] [])))]),qs 0 5 0 1]
def wk:Abs.Fn:=⟨0,[.v 0 true 5],sR [0] UH (sR [0] UI .ret)⟩
attribute [simp] UH UI
def anb :=[qb 4 false]
def anc :=[qm 5 0,qm 6 1,qc 7 dO [5,6],qn 8 .geq 7 0,qm 4 8]
def gY:Abs.Fn:=⟨2,[.t 4],sR [0,1] anb (sR [4] anc .ret)⟩
def ane :=[qx 2 0,qb 3 false]
def anf :=[ql 4 1 1,qa 5 10 2,qo 6 (.call false (.t 4) [(.t 5)]),qu 7 6,qm 3 7]
def lL:Abs.Fn:=⟨2,[.t 3],sR [1,2] ane (sR [3] anf .ret)⟩
def UJ :=[qx 2 0,qx 3 1,qb 4 false]
def UK :=[qa 5 3 2,qc 6 fB [5],qm 7 6,qg 7 true (qa 8 3 3),qg 7 true (qc 9 fB [8]),qp 10 7 9,qm 11 10,qg 11 true (qf 12 0 2),qg 11 true (ql 13 1 12),qg 11 true (qf 14 0 3),qg 11 true (ql 15 1 14),qg 11 true (qk 16 .leq 13 15),qp 17 11 16,qm 18 17,qg 18 true (qf 19 1 2),qg 18 true (ql 20 1 19),qg 18 true (qf 21 1 3),qg 18 true (ql 22 1 21),qg 18 true (qk 23 .leq 20 22),qp 24 18 23,qm 25 24,qg 25 true (qf 26 2 2),qg 25 true (ql 27 1 26),qg 25 true (qf 28 2 3),qg 25 true (ql 29 1 28),qg 25 true (qk 30 .leq 27 29),qp 31 25 30,qm 4 31]
def wu:Abs.Fn:=⟨2,[.t 4],sR [2,3] UJ (sR [4] UK .ret)⟩
attribute [simp] UJ UK
def ang :=[qb 4 false]
def anh :=[qm 5 0,qm 6 1,qc 7 dB [5,6],qn 8 .geq 7 0,qm 4 8]
def gI:Abs.Fn:=⟨2,[.t 4],sR [0,1] ang (sR [4] anh .ret)⟩
def ani :=[qx 2 0,qb 3 false]
def anj :=[ql 4 1 1,qa 5 2 2,qo 6 (.call false (.t 4) [(.t 5)]),qu 7 6,qm 3 7]
def lj:Abs.Fn:=⟨2,[.t 3],sR [1,2] ani (sR [3] anj .ret)⟩
def UL :=[qx 1 0,qb 2 false]
def UM :=[qf 3 0 1,qa 4 3 3,qc 5 fB [4],qm 6 5,qg 6 true (qf 7 3 1),qg 6 true (ql 8 1 7),qg 6 true (qo 9 (.call false (.c (.fn cm [] [])) [(.t 8),(.c zI),(.c (.int .i64 160))])),qp 10 6 9,qm 2 10]
def lg:Abs.Fn:=⟨1,[.t 2],sR [1] UL (sR [2] UM .ret)⟩
attribute [simp] UL UM
def UN :=[qx 1 0,qb 2 false]
def UO :=[qf 3 0 1,ql 4 1 3,qf 5 1 1,ql 6 1 5,qf 7 2 1,ql 8 1 7,qo 9 (.ur 3 1 [zI,zI,zI] [(0,1,(.t 4)),(1,1,(.t 6)),(2,1,(.t 8))]),qo 10 (.call false (.c (.fn gV [] [])) [(.t 9),(.c (.fn ew [] []))]),qm 2 10]
def mY:Abs.Fn:=⟨1,[.t 2],sR [1] UN (sR [2] UO .ret)⟩
attribute [simp] UN UO
def ank :=[qi 4 0]
def anl :=[qm 6 0,qe 7 6,qi 8 0]
def anm :=[qk 9 .lss 8 7]
def ano :=[qm 10 8,qm 5 10]
def anp :=[qm 11 1,qm 12 0,qm 13 5,qj 14 4 12 13,qa 15 4 14,qo 16 (.call false (.t 11) [(.t 15)])]
def anq :=[qm 17 5,qm 4 17]
def anr :=[qn 18 .add 8 1,qm 8 18]
def tv:Abs.cH:=sR [0,1,7,8,9] anm (.seq (.ite (.t 9) .dQ (.exit 0)) (.seq (.bO 1 (sR [0,1,5,7,8] ano (sR [0,1,5,7,8,16] anp (.ite (.t 16) (sR [4] anq .ret) .dQ)))) (.cg [0,1,7,8] anr)))
def ans :=[qi 4 (-1)]
def ji:Abs.Fn:=⟨2,[.t 4],sR [0,1] ank (sL [0,1,7,8] anl 0 [0,1,7,8] false tv (sR [4] ans .ret))⟩
def ant :=[qx 2 0,qb 3 false]
def anu :=[ql 4 1 1,qa 5 4 2,qo 6 (.call false (.t 4) [(.t 5)]),qu 7 6,qm 3 7]
def lM:Abs.Fn:=⟨2,[.t 3],sR [1,2] ant (sR [3] anu .ret)⟩
def UP :=[qx 2 0,qi 4 0]
def UQ :=[qm 6 1,qe 7 6,qf 8 8 2,ql 9 1 8,qe 10 9,qk 11 .neq 7 10,qm 5 11]
def UR :=[qi 4 1]
def US :=[qm 13 1,qo 14 (.call false (.c (.fn jZ [] [])) [(.t 13),(.c (.fn jn [] []))]),qu 15 14,qm 12 15]
def UT :=[qi 4 2]
def UU :=[qi 4 0]
def rA:Abs.Fn:=⟨2,[.t 4],sR [1,2] UP (.seq (.bO 0 (sR [1,5] UQ (.ite (.t 5) (sR [4] UR .ret) (sR [12] US (.ite (.t 12) (sR [4] UT .ret) .dQ))))) (sR [4] UU .ret))⟩
attribute [simp] UP UQ UR US UT UU
def UW :=[qx 1 0,qo 2 (.pq 3)]
def UX :=[qf 4 0 1,qa 5 9 4,qc 6 de [5],qi 7 0]
def UY :=[qk 8 .lss 7 6]
def UZ :=[qm 9 7,qm 3 9]
def U0 :=[qM 10 2,qA 11 11 1,qM 12 3,qC 13 fy [11,12],qA 14 11 1,qM 15 3,qC 16 fy [14,15],qA 17 11 1,qM 18 3,qC 19 lU [17,18],qK 20 .mul 16 19,qO 21 (.lq [zI,zI,zI] [(0,1,(.t 13)),(1,1,(.t 20))]),qO 22 (.ur 1 3 [zI,zI,zI] [(0,3,(.t 21))]),qy 23 3 24 10 22,qm 2 23]
def U1 :=[qn 24 .add 7 1,qm 7 24]
def kY:Abs.cH:=sR [1,2,6,7,8] UY (.seq (.ite (.t 8) .dQ (.exit 0)) (.seq (.bO 1 (sR [1,2,3,6,7] UZ (.cg [1,2,6,7] U0))) (.cg [1,2,6,7] U1)))
def U2 :=[qm 25 2,qm 2 25]
def nN:Abs.Fn:=⟨1,[.t 2],sR [1,2] UW (sL [1,2,6,7] UX 0 [1,2,6,7] false kY (sR [2] U2 .ret))⟩
attribute [simp] UW UX UY UZ U0 U1 U2
def U3 :=[qx 3 0,qo 6 (.mv (.c .aF)),qo 7 (.mv (.c .aF)),qi 8 0]
def U4 :=[qm 18 1,qo 19 (.call true (.c (.fn cK [] [])) [(.t 18)]),qm 9 19]
def U5 :=[qa 20 11 3,qm 21 1,qo 22 (.call true (.c (.fn kK [] [])) [(.t 20),(.t 21)]),qo 23 (.mp (.rng) [(.t 22)])]
def U6 :=[qo 26 (.mp (.ent) [(.t 23)]),qz 27 26 0,qz 28 26 1,qo 10 (.dY [] [zI,zI]),qo 11 (.dY [] [zI,zI,zI]),qs 10 2 10 27,qs 11 3 11 28]
def U7 :=[qM 29 9,qF 30 0 10,qV 31 10 1 30,qJ 32 3 29 31,qW 33 11 3 11,qo 34 (.call false (.c (.fn cj [] [])) [(.t 32),(.t 33),(.c (.int .i64 (-1)))])]
def U8 :=[qM 35 9,qF 36 1 10,qV 37 10 1 36,qJ 38 3 35 37,qW 39 11 3 11,qo 40 (.call false (.c (.fn cj [] [])) [(.t 38),(.t 39),(.c (.int .i64 1))])]
def mh:Abs.cH:=.seq (.ite (.t 25) .dQ (.exit 0)) (.bO 1 (sR [1,2,3,9,10,11,23] U6 (sR [1,2,3,9,10,11,23] U7 (.cg [1,2,3,9,23] U8))))
def U9 :=[qo 12 (.pq 3)]
def Va :=[qm 41 2,qe 42 41,qi 43 0]
def Vb :=[qk 44 .lss 43 42]
def NW :=[qm 45 43,qj 46 1 41 43,ql 47 1 46,qm 13 45,qm 14 47]
def NX :=[qf 48 0 3,qf 49 8 48,ql 50 1 49,qm 51 13,qj 52 3 50 51,qf 53 0 52,ql 54 1 53,qm 15 54]
def NY :=[qo 16 (.dY [] [zI,zI,zI])]
def NZ :=[qm 55 14,qn 56 .lss 55 0]
def N0 :=[qM 57 9,qM 58 15,qJ 59 3 57 58,qF 60 0 3,qF 61 8 60,qL 62 1 61,qM 63 13,qJ 64 3 62 63,qA 65 3 64,qM 66 14,qC 67 nf [65,66],qo 68 (.call false (.c (.fn cj [] [])) [(.t 59),(.t 67),(.c (.int .i64 1))])]
def N1 :=[qM 69 1,qM 70 15,qJ 71 3 69 70,qA 72 3 71,qM 73 14,qM 74 1,qM 75 15,qJ 76 3 74 75,qF 77 0 76,qL 78 1 77,qN 79 .quo 78 8,qO 80 (.mn (.t 73) (.t 79)),qc 81 lF [72,80],qs 16 3 16 81]
def N2 :=[qM 82 9,qM 83 15,qJ 84 3 82 83,qW 85 16 3 16,qo 86 (.call false (.c (.fn cj [] [])) [(.t 84),(.t 85),(.c (.int .i64 (-1)))])]
def N3 :=[qm 87 12,qw 88 16 3 16,qo 89 (.ur 1 3 [zI,zI,zI] [(0,3,(.t 88))]),qy 90 3 24 87 89,qm 12 90]
def N4 :=[qn 91 .add 43 1,qm 43 91]
def la:Abs.cH:=sR [1,3,9,12,41,42,43,44] Vb (.seq (.ite (.t 44) .dQ (.exit 2)) (.seq (.bO 3 (sR [1,3,9,12,13,14,41,42,43] NW (sR [1,3,9,12,13,14,15,41,42,43] NX (sR [1,3,9,12,13,14,15,16,41,42,43] NY (sI [1,3,9,12,13,14,15,16,41,42,43,56] NZ 56 (.cg [1,3,9,12,16,41,42,43] N0) (sR [1,3,9,12,15,16,41,42,43] N1 (.cg [1,3,9,12,16,41,42,43] N2)) (.cg [1,3,9,12,41,42,43] N3)))))) (.cg [1,3,9,12,41,42,43] N4)))
def N5 :=[qm 92 9,qe 93 92,qi 94 0]
def N6 :=[qk 95 .lss 94 93]
def N7 :=[qm 96 94,qm 17 96]
def N8 :=[qM 97 9,qM 98 17,qJ 99 3 97 98,qA 100 11 3,qM 101 17,qC 102 nh [100,101],qo 103 (.call false (.c (.fn cj [] [])) [(.t 99),(.t 102),(.c (.int .i64 1))])]
def N9 :=[qn 104 .add 94 1,qm 94 104]
def lf:Abs.cH:=sR [3,9,12,93,94,95] N6 (.seq (.ite (.t 95) .dQ (.exit 4)) (.seq (.bO 5 (sR [3,9,12,17,93,94] N7 (.cg [3,9,12,93,94] N8))) (.cg [3,9,12,93,94] N9)))
def Oa :=[qa 105 11 3,qm 106 9,qc 107 kL [105,106],qu 108 107]
def Ob :=[qo 6 (.mv (.c .aF)),qo 7 (.mv (.c .aF)),qi 8 9]
def Oc :=[qm 109 9,qm 110 12,qm 6 109,qm 7 110,qi 8 0]
def iq:Abs.cH:=sR [1,2,3,9,12] U9 (sL [1,3,9,12,41,42,43] Va 2 [1,3,9,12,41,42,43] false la (sL [3,9,12,93,94] N5 4 [3,9,12,93,94] false lf (sE [9,12,108] Oa 108 [6,7,8] Ob (sR [6,7,8] Oc .ret))))
def C0:uh:=an7 [(26,[6,7,8]),(25,[6,7,8]),(24,[9,12,108]),(23,[3,9,12,93,94]),(22,[3,9,12,93,94]),(21,[3,9,12,17,93,94]),(20,[3,9,12,93,94,95]),(19,[3,9,12,93,94]),(18,[1,3,9,12,41,42,43]),(17,[1,3,9,12,41,42,43]),(14,[1,3,9,12,16,41,42,43]),(16,[1,3,9,12,16,41,42,43]),(15,[1,3,9,12,15,16,41,42,43]),(13,[1,3,9,12,13,14,15,16,41,42,43,56]),(12,[1,3,9,12,13,14,15,16,41,42,43]),(11,[1,3,9,12,13,14,15,41,42,43]),(10,[1,3,9,12,13,14,41,42,43]),(9,[1,3,9,12,41,42,43,44]),(8,[1,3,9,12,41,42,43]),(7,[1,2,3,9,12]),(6,[1,2,3,9,23]),(5,[1,2,3,9,10,11,23]),(4,[1,2,3,9,10,11,23]),(3,[1,2,3,9,23,25]),(2,[1,2,3,9,23]),(1,[1,2,3,9]),(0,[1,2,3])] [(4,[3,9,12,93,94]),(2,[1,3,9,12,41,42,43]),(0,[1,2,3,9,23])] [] [10,11,12,16] [10,11,16] [] [2002,1001]
def oW:Abs.Fn:=⟨3,[.t 6,.t 7,.t 8],sR [1,2,3] U3 (sR [1,2,3,9] U4 (sR [1,2,3,9,23] U5 (.iS [1,2,3,9,23] (.t 23) 24 25 0 mh iq)))⟩
attribute [simp] U3 U4 U5 U6 U7 U8 U9 Va Vb NW NX NY NZ N0 N1 N2 N3 N4 N5 N6 N7 N8 N9 Oa Ob Oc
def Vc :=[qb 6 false]
def Vd :=[qm 7 1,qm 8 0,qk 9 .leq 7 8,qm 10 9,qg 10 true (qm 11 0),qg 10 true (qm 12 2),qg 10 true (qk 13 .leq 11 12),qp 14 10 13,qm 6 14]
def tP:Abs.Fn:=⟨3,[.t 6],sR [0,1,2] Vc (sR [6] Vd .ret)⟩
attribute [simp] Vc Vd
def anv :=[qx 3 1,qb 4 false]
def anw :=[qm 5 0,qo 6 (.xT kl [] [(.t 3)]),qc 7 fh [5,6],qu 8 7,qm 4 8]
def uz:Abs.Fn:=⟨2,[.t 4],sR [0,3] anv (sR [4] anw .ret)⟩
def Ve :=[qx 1 0,qb 2 false]
def Vf :=[qf 3 0 1,ql 4 1 3,qo 5 (.call false (.c (.fn dn [] [])) [(.t 4),(.c zI),(.c (.int .i64 400))]),qm 6 5,qg 6 true (qf 7 1 1),qg 6 true (ql 8 1 7),qg 6 true (qo 9 (.call false (.c (.fn dn [] [])) [(.t 8),(.c (.int .i64 1)),(.c (.int .i64 10000))])),qp 10 6 9,qm 11 10,qg 11 true (qf 12 2 1),qg 11 true (ql 13 1 12),qg 11 true (qo 14 (.call false (.c (.fn dn [] [])) [(.t 13),(.c zI),(.c (.int .i64 4000))])),qp 15 11 14,qm 16 15,qg 16 true (qf 17 4 1),qg 16 true (ql 18 1 17),qg 16 true (qo 19 (.call false (.c (.fn dn [] [])) [(.t 18),(.c zI),(.c (.int .i64 2000))])),qp 20 16 19,qm 21 20,qg 21 true (qf 22 2 1),qg 21 true (ql 23 1 22),qg 21 true (qf 24 3 1),qg 21 true (ql 25 1 24),qg 21 true (qk 26 .lss 23 25),qp 27 21 26,qm 28 27,qg 28 true (qf 29 3 1),qg 28 true (ql 30 1 29),qg 28 true (qn 31 .leq 30 4000),qp 32 28 31,qm 2 32]
def pX:Abs.Fn:=⟨1,[.t 2],sR [1] Ve (sR [2] Vf .ret)⟩
attribute [simp] Ve Vf
def Vg :=[qx 2 0,qx 3 1,qi 4 0]
def Vh :=[qf 6 1 3,ql 7 1 6,qf 8 0 3,ql 9 1 8,qf 10 0 2,qf 11 2 10,ql 12 1 11,qk 13 .mul 9 12,qk 14 .sub 7 13,qm 5 14]
def Vi :=[qm 16 5,qn 17 .leq 16 0,qm 15 17]
def Vj :=[qi 4 0]
def Vk :=[qf 19 1 3,ql 20 1 19,qf 21 0 3,ql 22 1 21,qf 23 0 2,qf 24 3 23,ql 25 1 24,qk 26 .mul 22 25,qk 27 .geq 20 26,qm 18 27]
def Vl :=[qf 28 0 3,ql 29 1 28,qm 4 29]
def Vm :=[qm 30 5,qf 31 0 2,qf 32 3 31,ql 33 1 32,qf 34 0 2,qf 35 2 34,ql 36 1 35,qk 37 .sub 33 36,qk 38 .quo 30 37,qm 4 38]
def nV:Abs.Fn:=⟨2,[.t 4],sR [2,3] Vg (sR [2,3,5] Vh (.seq (.bO 0 (sR [2,3,5,15] Vi (.ite (.t 15) (sR [4] Vj .ret) (sR [2,3,5,18] Vk (.ite (.t 18) (sR [4] Vl .ret) .dQ))))) (sR [4] Vm .ret)))⟩
attribute [simp] Vg Vh Vi Vj Vk Vl Vm
def Vn :=[qb 6 false]
def Vo :=[qm 7 1,qm 8 0,qk 9 .leq 7 8,qm 10 9,qg 10 true (qm 11 0),qg 10 true (qm 12 2),qg 10 true (qk 13 .leq 11 12),qp 14 10 13,qm 6 14]
def tH:Abs.Fn:=⟨3,[.t 6],sR [0,1,2] Vn (sR [6] Vo .ret)⟩
attribute [simp] Vn Vo
def anx :=[qx 3 1,qb 4 false]
def anz :=[qm 5 0,qo 6 (.xT jL [] [(.t 3)]),qc 7 eW [5,6],qu 8 7,qm 4 8]
def tG:Abs.Fn:=⟨2,[.t 4],sR [0,3] anx (sR [4] anz .ret)⟩
def Vp :=[qx 2 0,qb 3 false]
def Vq :=[qf 5 1 2,ql 6 1 5,ql 7 1 1,qo 8 (.call false (.c (.fn jY [] [])) [(.t 6),(.c zI),(.t 7)]),qm 4 8]
def Vr :=[qf 9 1 2,ql 10 1 9,qt 1 1 10]
def Vs :=[qm 11 4,qm 12 11,qg 12 true (qf 13 0 2),qg 12 true (ql 14 1 13),qg 12 true (qo 15 (.call false (.c (.fn jY [] [])) [(.t 14),(.c (.int .i64 1)),(.c (.int .i64 100000))])),qp 16 12 15,qm 3 16]
def mP:Abs.Fn:=⟨2,[.t 3],sR [1,2] Vp (sR [1,2,4] Vq (sR [2,4] Vr (sR [3] Vs .ret)))⟩
attribute [simp] Vp Vq Vr Vs
def anA :=[qx 3 1,qb 4 false]
def anB :=[qm 5 0,qo 6 (.xT ix [] [(.t 3)]),qc 7 ep [5,6],qu 8 7,qm 4 8]
def rY:Abs.Fn:=⟨2,[.t 4],sR [0,3] anA (sR [4] anB .ret)⟩
def Vt :=[qx 1 0,qb 2 false]
def Vu :=[qa 3 4 1,qc 4 kN [3],qn 5 .eql 4 0,qm 2 5]
def su:Abs.Fn:=⟨1,[.t 2],sR [1] Vt (sR [2] Vu .ret)⟩
attribute [simp] Vt Vu
def Vv :=[qx 1 0,qi 2 0]
def Vw :=[qa 3 4 1,qc 4 gU [3],qu 5 4]
def Vx :=[qi 2 1]
def Vy :=[qi 2 0]
def nT:Abs.Fn:=⟨1,[.t 2],sR [1] Vv (sE [5] Vw 5 [2] Vx (sR [2] Vy .ret))⟩
attribute [simp] Vv Vw Vx Vy
def Vz :=[qx 2 0,qo 3 (.HO (.t 1)),qo 4 (.mv (.c .iP))]
def VA :=[qo 5 (.xT iL [] [(.t 2),(.t 3)]),qm 4 5]
def pN:Abs.Fn:=⟨2,[.t 4],sR [2,3] Vz (sR [4] VA .ret)⟩
attribute [simp] Vz VA
def anC :=[qo 2 (.mv (.c .aF))]
def anD :=[qm 7 0,qo 8 (.ri (.zc) [(.t 7)]),qo 9 (.bin .shr (.t 8) (.c (.int .u64 8))),qo 10 (.KF .u8 (.t 9)),qm 11 0,qo 12 (.ri (.zc) [(.t 11)]),qo 13 (.KF .u8 (.t 12)),qm 14 0,qc 15 yw [14],qm 3 10,qm 4 13,qm 5 15]
def anE :=[qm 16 3,qm 17 4,qm 18 3,qo 19 (.un .xor (.t 18)),qm 20 4,qo 21 (.un .xor (.t 20)),qo 22 (.Kw 4 1 [(.int .u8 0),(.int .u8 0),(.int .u8 0),(.int .u8 0)] [(0,1,(.t 16)),(1,1,(.t 17)),(2,1,(.t 19)),(3,1,(.t 21))]),qm 23 0,qy 24 1 1 22 23,qm 6 24]
def anF :=[qm 25 6,qm 26 5,qo 27 (.bin .shr (.t 26) (.c (.int .u64 8))),qo 28 (.KF .u8 (.t 27)),qm 29 5,qo 30 (.KF .u8 (.t 29)),qo 31 (.ur 2 1 [(.int .u8 0),(.int .u8 0)] [(0,1,(.t 28)),(1,1,(.t 30))]),qy 32 1 1 25 31,qm 2 32]
def yS:Abs.Fn:=⟨1,[.t 2],sR [0] anC (sR [0,3,4,5] anD (sR [5,6] anE (sR [2] anF .ret)))⟩
def tF1:List (Nat×uh×Abs.Fn):=[A0 lR oK,A4 [0,3,2,5,6,4,1,7] fD pw [] [0,3] [3] [] [] [] [] [] [(2,some 1)],A4 [] td vo [] [6,8] [8] [] [] [] [] [] [(4,some 5)],A0 ng pT,A0 kM nQ,A0 dw nk,A0 eM nW,A0 db mz,A0 ec mX,A0 cm sC,A3 [] ed mZ [] [5] [5] [] [],A0 cp gZ,A0 eL nq,A3 [] sQ wU [] [4,6] [4,6] [] [],A0 mF sw,A4 [] iA mR [] [4,12] [4] [(1,[(0,1),(1,1)]),(1004,[(0,1),(1,1)]),(8011,[(0,1),(1,1)]),(8013,[(0,1)]),(10001,[(0,1),(1,1)])] [] [] [] [] [(7,some 2)],A3 [] iO nU [] [4,5] [4,5] [] [],A0 ni pY,A0 gU mW,A3 [] oj rF [] [4] [4] [] [],A3 [0,1,4,3,6,5,2,7,8,9,10,11,12] om rG [] [4] [4] [] [],A2 [] jl oH [] [3],A0 se u6,A3 [] je l8 [] [4] [4] [] [],(lQ,CZ,oG),A2 [] tR xJ [] [2],(aM,Ci,nJ),A0 eC pa,A0 iu pL,A0 kJ nG,A0 pA uY,A0 dj mJ,A0 pj Aj,A0 gk lY,A0 dM tC,A0 lN oE,A0 lO oF,A0 lD rn,A2 [] jq rB [] [3],A0 cn vc,A0 iJ nD,A0 iy tJ,A0 og tL,A2 [] jv oS [0] [4],A0 de sy,A3 [] fJ kZ [] [9] [9] [] [],A3 [] tU wk [] [0] [0] [] [],A0 c8 gY,A0 fC lL,A0 tV wu,A0 cU gI,A0 fa lj,A0 fN lg,A0 fB mY,A0 fM ji,A0 iD lM,A0 od rA,A2 [] iN nN [] [2],(lT,C0,oW),A0 dn tP,A0 jf uz,A0 kj pX,A0 kO nV,A0 jY tH,A0 iw tG,A2 [] dZ mP [] [1],A0 jM rY,A0 mE su,A0 kN nT,A2 [] nd pN [] [3],A2 [] uP yS [] [22]]
theorem kF1:(tF1.map fun p=>chk p)=tF1.map fun p=>some p.2.2:=by kernel_rfl
end Go.Proofs.YtfgljaglidhjiaaGreatDoor
