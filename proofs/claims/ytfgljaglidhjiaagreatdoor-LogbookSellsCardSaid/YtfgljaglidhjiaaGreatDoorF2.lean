import Derived.Test.YtfgljaglidhjiaaGreatDoorIds
set_option linter.all false
set_option maxRecDepth 100000
namespace Go.Proofs.YtfgljaglidhjiaaGreatDoor
open Go Go.Abs
def VC :=[qo 4 (.LX)]
def VD :=[qo 6 (.isi false (.t 4))]
def VE :=[qm 1 4]
def VF :=[qo 7 (.tas 311 (some (.agg [zI])) (.t 4)),qz 8 7 1,qz 9 7 0]
def VG :=[qo 2 (.dY [] [zI]),qs 2 1 2 9]
def VH :=[qf 10 0 2,qv 11 2 1 10,qt 1 0 11]
def VI :=[qm 3 4]
def VJ :=[qm 5 3]
def VK:List Abs.Op:=[]
def jc:Abs.Fn:=⟨1,[],sR [0,4] VC (.bO 0 (sR [0,4,6] VD (.ite (.t 6) (.cg [] VE) (sR [0,4,8,9] VF (.ite (.t 8) (sR [0,2] VG (.cg [] VH)) (sR [3] VI (.iG [] VJ ⟨none,none,false,.LW (.t 5)⟩ VK)))))))⟩
attribute [simp] VC VD VE VF VG VH VI VJ VK
def VL :=[qo 2 (.dY [] [(.bool false),zI,zI,.iP]),qo 3 (.mv (.c (.str []))),qo 4 (.pq 1)]
def VM :=[qm 10 0,qo 11 (.call false (.c (.fn gD [] [])) [(.t 10),(.c (.str [32]))]),qm 5 11]
def VN :=[qo 13 (.call true (.c (.fn pk [] [])) []),qM 14 5,qO 15 (.dP 1 (.t 14) (.c zI)),qO 16 (.RS false 1 (.t 15)),qO 17 (.mp (.get none (.agg [(.bool false),zI,zI,.iP]) true) [(.t 13),(.t 16)]),qM 12 17,qZ 18 12 0,qZ 19 12 1,qS 2 4 2 18,qm 6 19]
def VO :=[qm 20 6]
def VP:List Abs.Op:=[]
def VQ :=[qm 22 5,qo 23 (.JV 1 (.t 22) (some (.c (.int .i64 1))) none none),qm 5 23]
def VR :=[qf 24 0 2,qv 25 2 1 24]
def VS :=[qm 26 5,qe 27 26,qn 28 .gtr 27 0]
def VT:List Abs.Op:=[]
def VU :=[qM 30 5,qO 31 (.dP 1 (.t 30) (.c zI)),qL 32 1 31,qM 33 5,qO 34 (.JV 1 (.t 33) (some (.c (.int .i64 1))) none none),qM 3 32,qm 5 34]
def Od :=[qm 35 5,qe 36 35,qi 37 0]
def Oe :=[qk 38 .lss 37 36]
def Of :=[qj 39 1 35 37,ql 40 1 39,qm 8 40]
def Og :=[qm 41 4,qm 42 8]
def Oh :=[qo 44 (.ur 1 1 [zI] [(0,1,(.t 43))]),qy 45 1 8 41 44,qm 4 45]
def Oi :=[qn 46 .add 37 1,qm 37 46]
def mO:Abs.cH:=sR [2,3,4,35,36,37,38] Oe (.seq (.ite (.t 38) .dQ (.exit 0)) (.seq (.bO 1 (sR [2,3,4,8,35,36,37] Of (.iG [2,3,4,35,36,37] Og ⟨some 43,none,false,.call false (.c (.fn lE [] [])) [(.t 42)]⟩ Oh))) (.cg [2,3,4,35,36,37] Oi)))
def Oj :=[qm 47 4,qe 48 47,qf 49 1 2,qv 50 2 1 49,qk 51 .sub 48 50,qm 9 51]
def Ol :=[qm 52 9,qn 53 .eql 52 0,qm 54 53,qg 54 false (qm 55 9),qg 54 false (qn 56 .gtr 55 0),qg 54 false (qm 57 56),qg 57 true (qf 58 2 2),qg 57 true (qv 59 2 1 58),qg 57 true (qn 60 .gtr 59 0),qg 54 false (qp 61 57 60),qg 54 false (qm 62 61),qg 62 true (qm 63 9),qg 62 true (qf 64 2 2),qg 62 true (qv 65 2 1 64),qg 62 true (qk 66 .rem 63 65),qg 62 true (qn 67 .eql 66 0),qg 54 false (qp 68 62 67),qP 69 54 68]
def Om:List Abs.Op:=[]
def On :=[qw 71 2 4 2,qm 72 3,qm 73 4,qs 2 4 2 71,qm 3 72,qm 4 73]
def fI:Abs.Fn:=⟨1,[.v 2 true 4,.t 3,.t 4],sR [0,2,3,4] VL (sR [2,3,4,5] VM (sR [2,3,4,5,6] VN (.seq (.iG [2,3,4,5] VO ⟨some 21,none,false,.call false (.c (.fn bd [] [])) [(.t 20),(.c (.int .i64 4))]⟩ VP) (sR [2,3,4,5] VQ (sI [2,3,4,5,25] VR 25 (.seq (.iG [2,4,5] VS ⟨some 29,none,false,.call false (.c (.fn bd [] [])) [(.t 28),(.c (.int .i64 4))]⟩ VT) (.cg [2,3,4,5] VU)) .dQ (sL [2,3,4,35,36,37] Od 0 [2,3,4,35,36,37] false mO (sR [2,3,4,9] Oj (.seq (.iG [2,3,4] Ol ⟨some 70,none,false,.call false (.c (.fn bd [] [])) [(.t 69),(.c (.int .i64 4))]⟩ Om) (sR [2,3,4] On .ret)))))))))⟩
attribute [simp] VL VM VN VO VP VQ VR VS VT VU Od Oe Of Og Oh Oi Oj Ol Om On
def anH :=[qi 4 0]
def anI :=[qm 6 0,qe 7 6,qi 8 0]
def anJ :=[qk 9 .lss 8 7]
def anK :=[qm 10 8,qm 5 10]
def anL :=[qm 11 1,qm 12 0,qm 13 5,qj 14 1 12 13,ql 15 1 14,qo 16 (.call false (.t 11) [(.t 15)])]
def anM :=[qm 17 5,qm 4 17]
def anN :=[qn 18 .add 8 1,qm 8 18]
def vI:Abs.cH:=sR [0,1,7,8,9] anJ (.seq (.ite (.t 9) .dQ (.exit 0)) (.seq (.bO 1 (sR [0,1,5,7,8] anK (sR [0,1,5,7,8,16] anL (.ite (.t 16) (sR [4] anM .ret) .dQ)))) (.cg [0,1,7,8] anN)))
def anO :=[qi 4 (-1)]
def rK:Abs.Fn:=⟨2,[.t 4],sR [0,1] anH (sL [0,1,7,8] anI 0 [0,1,7,8] false vI (sR [4] anO .ret))⟩
def anP :=[qb 4 false]
def anQ :=[qm 5 0,qm 6 1,qc 7 eu [5,6],qn 8 .geq 7 0,qm 4 8]
def my:Abs.Fn:=⟨2,[.t 4],sR [0,1] anP (sR [4] anQ .ret)⟩
def anR :=[qb 3 false]
def anS :=[ql 4 1 1,qm 5 0,qo 6 (.call false (.t 4) [(.t 5)]),qu 7 6,qm 3 7]
def xG:Abs.Fn:=⟨2,[.t 3],sR [0,1] anR (sR [3] anS .ret)⟩
def VV :=[qx 1 0,qi 2 0]
def VW :=[qa 3 4 1,qc 4 cJ [3],qm 2 4]
def oD:Abs.Fn:=⟨1,[.t 2],sR [1] VV (sR [2] VW .ret)⟩
attribute [simp] VV VW
def VX :=[qi 2 0]
def VY :=[qm 3 0,qc 4 iO [3],qu 5 4]
def VZ :=[qi 2 1]
def V0 :=[qi 2 0]
def oZ:Abs.Fn:=⟨1,[.t 2],sR [0] VX (sE [5] VY 5 [2] VZ (sR [2] V0 .ret))⟩
attribute [simp] VX VY VZ V0
def anT :=[qx 3 1,qb 4 false]
def anU :=[qm 5 0,qo 6 (.xT lk [] [(.t 3)]),qc 7 fg [5,6],qu 8 7,qm 4 8]
def vn:Abs.Fn:=⟨2,[.t 4],sR [0,3] anT (sR [4] anU .ret)⟩
def V1 :=[qx 2 0,qb 3 false]
def V2 :=[qf 4 0 2,ql 5 1 4,ql 6 1 1,qe 7 6,qn 8 .sub 7 1,qo 9 (.call false (.c (.fn cn [] [])) [(.t 5),(.c zI),(.t 8)]),qu 10 9,qm 11 10,qg 11 false (ql 12 1 1),qg 11 false (qf 13 0 2),qg 11 false (ql 14 1 13),qg 11 false (qj 15 1 12 14),qg 11 false (ql 16 1 15),qP 17 11 16]
def V3 :=[qb 3 false]
def V4 :=[ql 18 1 1,qf 19 0 2,ql 20 1 19,qj 21 1 18 20,⟨none,none,false,.st [] 1 (.t 21) (.c (.bool true))⟩]
def V5 :=[qf 22 1 2,ql 23 1 22,qo 24 (.call false (.c (.fn cn [] [])) [(.t 23),(.c zI),(.c (.int .i64 3000))]),qm 25 24,qg 25 true (qf 26 2 2),qg 25 true (ql 27 1 26),qg 25 true (qo 28 (.call false (.c (.fn cn [] [])) [(.t 27),(.c zI),(.c (.int .i64 1000000))])),qp 29 25 28,qm 3 29]
def oL:Abs.Fn:=⟨2,[.t 3],sR [1,2] V1 (sE [1,2,17] V2 17 [3] V3 (sR [2] V4 (sR [3] V5 .ret)))⟩
attribute [simp] V1 V2 V3 V4 V5
def V6 :=[qi 2 0]
def V7 :=[qa 3 4 0,ql 4 1 1,qc 5 jV [3,4],qm 2 5]
def lW:Abs.Fn:=⟨2,[.t 2],sR [0,1] V6 (sR [2] V7 .ret)⟩
attribute [simp] V6 V7
def V8 :=[qx 2 0,qi 4 0]
def V9 :=[qm 5 1,qe 6 5,qo 7 (.call false (.c (.fn dM [] [])) [(.t 6),(.c (.int .i64 1)),(.c (.int .i64 40))]),qu 8 7]
def Wa :=[qi 4 3]
def Wb :=[qm 9 1,qo 10 (.xT ej [] [(.t 2)]),qc 11 gr [9,10],qm 4 11]
def mK:Abs.Fn:=⟨2,[.t 4],sR [1,2] V8 (sE [1,2,8] V9 8 [4] Wa (sR [4] Wb .ret))⟩
attribute [simp] V8 V9 Wa Wb
def anV :=[qb 4 false]
def anW :=[qm 5 0,qm 6 1,qc 7 fL [5,6],qn 8 .geq 7 0,qm 4 8]
def mu:Abs.Fn:=⟨2,[.t 4],sR [0,1] anV (sR [4] anW .ret)⟩
def anX :=[qx 2 0,qb 3 false]
def anY :=[ql 4 1 1,qa 5 2 2,qo 6 (.call false (.t 4) [(.t 5)]),qu 7 6,qm 3 7]
def rZ:Abs.Fn:=⟨2,[.t 3],sR [1,2] anX (sR [3] anY .ret)⟩
def anZ :=[qx 3 1,qb 4 false]
def an0 :=[qm 5 0,qo 6 (.xT oe [] [(.t 3)]),qc 7 cc [5,6],qu 8 7,qm 4 8]
def A7:Abs.Fn:=⟨2,[.t 4],sR [0,3] anZ (sR [4] an0 .ret)⟩
def Wc :=[qx 2 0,qo 4 (.mv (.c .aF))]
def We :=[qF 5 9 2,qF 6 1 5,qL 7 1 6,qM 8 1,qF 9 0 2,qA 10 9 9,qC 11 de [10],qK 12 .mul 8 11,qM 13 1,qN 14 .add 13 1,qF 15 0 2,qA 16 9 15,qC 17 de [16],qK 18 .mul 14 17,qo 19 (.JV 1 (.t 7) (some (.t 12)) (some (.t 18)) none),qm 4 19]
def oU:Abs.Fn:=⟨2,[.t 4],sR [1,2] Wc (sR [4] We .ret)⟩
attribute [simp] Wc We
def Wf :=[qb 3 false]
def Wg :=[qm 4 0,qo 5 (.Bc 2 1 (.t 1) (.c zI)),ql 6 1 5,qo 7 (.Bc 2 1 (.t 1) (.c (.int .i64 1))),ql 8 1 7,qc 9 cn [4,6,8],qm 3 9]
def mQ:Abs.Fn:=⟨2,[.t 3],sR [0,1] Wf (sR [3] Wg .ret)⟩
attribute [simp] Wf Wg
def Wh :=[qx 2 0,qi 4 0]
def Wi :=[qM 5 1,qF 6 0 2,qF 7 0 6,qF 8 0 7,qL 9 1 8,qF 10 0 2,qF 11 0 10,qF 12 1 11,qL 13 1 12,qK 14 .mul 9 13,qK 15 .quo 5 14,qF 16 0 2,qF 17 6 16,qL 18 1 17,qk 19 .mul 15 18,qm 4 19]
def mS:Abs.Fn:=⟨2,[.t 4],sR [1,2] Wh (sR [4] Wi .ret)⟩
attribute [simp] Wh Wi
def Wj :=[qi 4 0]
def Wk :=[qm 6 0,qm 7 1,qk 8 .quo 6 7,qm 5 8]
def Wl :=[qm 9 5,qm 10 1,qk 11 .mul 9 10,qm 12 0,qk 13 .gtr 11 12]
def Wm :=[qm 14 5,qn 15 .sub 14 1,qm 5 15]
def Wn :=[qm 16 5,qm 4 16]
def xK:Abs.Fn:=⟨2,[.t 4],sR [0,1] Wj (sR [0,1,5] Wk (sI [5,13] Wl 13 (.cg [5] Wm) .dQ (sR [4] Wn .ret)))⟩
attribute [simp] Wj Wk Wl Wm Wn
def Wo :=[qx 2 0,qi 4 0]
def Wp :=[qa 5 11 2,qo 6 (.call false (.c (.fn eo [] [])) [(.t 5),(.c zI)]),qm 7 1,qj 8 1 6 7,ql 9 1 8,qm 4 9]
def oT:Abs.Fn:=⟨2,[.t 4],sR [1,2] Wo (sR [4] Wp .ret)⟩
attribute [simp] Wo Wp
def Wq :=[qx 1 0,qi 2 0]
def Wr :=[qf 3 0 1,ql 4 1 3,qm 2 4]
def pU:Abs.Fn:=⟨1,[.t 2],sR [1] Wq (sR [2] Wr .ret)⟩
attribute [simp] Wq Wr
def Ws :=[qx 1 0,qi 2 0]
def Wt :=[qf 3 0 1,ql 4 1 3,qn 5 .eql 4 0]
def Wu :=[qi 2 0]
def Wv :=[qf 6 1 1,ql 7 1 6,qf 8 0 1,ql 9 1 8,qk 10 .quo 7 9,qm 2 10]
def nM:Abs.Fn:=⟨1,[.t 2],sR [1] Ws (sE [1,5] Wt 5 [2] Wu (sR [2] Wv .ret))⟩
attribute [simp] Ws Wt Wu Wv
def Ww :=[qx 1 0,qi 2 0]
def Wx :=[qf 3 2 1,ql 4 1 3,qm 2 4]
def oQ:Abs.Fn:=⟨1,[.t 2],sR [1] Ww (sR [2] Wx .ret)⟩
attribute [simp] Ww Wx
def an1 :=[qi 4 0]
def an2 :=[qm 6 0,qe 7 6,qi 8 0]
def an3 :=[qk 9 .lss 8 7]
def an4 :=[qm 10 8,qm 5 10]
def an5 :=[qm 11 1,qm 12 0,qm 13 5,qj 14 10 12 13,qa 15 10 14,qo 16 (.call false (.t 11) [(.t 15)])]
def an6 :=[qm 17 5,qm 4 17]
def an8 :=[qn 18 .add 8 1,qm 8 18]
def tu:Abs.cH:=sR [0,1,7,8,9] an3 (.seq (.ite (.t 9) .dQ (.exit 0)) (.seq (.bO 1 (sR [0,1,5,7,8] an4 (sR [0,1,5,7,8,16] an5 (.ite (.t 16) (sR [4] an6 .ret) .dQ)))) (.cg [0,1,7,8] an8)))
def an9 :=[qi 4 (-1)]
def jh:Abs.Fn:=⟨2,[.t 4],sR [0,1] an1 (sL [0,1,7,8] an2 0 [0,1,7,8] false tu (sR [4] an9 .ret))⟩
def aoa :=[qi 4 0]
def aob :=[qm 6 0,qe 7 6,qi 8 0]
def aoc :=[qk 9 .lss 8 7]
def aod :=[qm 10 8,qm 5 10]
def aoe :=[qm 11 1,qm 12 0,qm 13 5,qj 14 2 12 13,qa 15 2 14,qo 16 (.call false (.t 11) [(.t 15)])]
def aof :=[qm 17 5,qm 4 17]
def aog :=[qn 18 .add 8 1,qm 8 18]
def sM:Abs.cH:=sR [0,1,7,8,9] aoc (.seq (.ite (.t 9) .dQ (.exit 0)) (.seq (.bO 1 (sR [0,1,5,7,8] aod (sR [0,1,5,7,8,16] aoe (.ite (.t 16) (sR [4] aof .ret) .dQ)))) (.cg [0,1,7,8] aog)))
def aoh :=[qi 4 (-1)]
def iT:Abs.Fn:=⟨2,[.t 4],sR [0,1] aoa (sL [0,1,7,8] aob 0 [0,1,7,8] false sM (sR [4] aoh .ret))⟩
def aoi :=[qx 3 1,qb 4 false]
def aoj :=[qm 5 0,qo 6 (.xT o4 [] [(.t 3)]),qc 7 cc [5,6],qu 8 7,qm 4 8]
def uK:Abs.Fn:=⟨2,[.t 4],sR [0,3] aoi (sR [4] aoj .ret)⟩
def Wy :=[qb 2 false]
def Wz :=[qm 3 0,qo 4 (.call false (.c (.fn cm [] [])) [(.t 3),(.c (.int .i64 (-20000))),(.c (.int .i64 20000))]),qm 2 4]
def lh:Abs.Fn:=⟨1,[.t 2],sR [0] Wy (sR [2] Wz .ret)⟩
attribute [simp] Wy Wz
def WA :=[qb 2 false]
def WB :=[qm 3 0,qo 4 (.call false (.c (.fn cn [] [])) [(.t 3),(.c (.int .i64 (-100000))),(.c (.int .i64 100000))]),qm 2 4]
def oJ:Abs.Fn:=⟨1,[.t 2],sR [0] WA (sR [2] WB .ret)⟩
attribute [simp] WA WB
def WE :=[qx 2 0,qi 4 0]
def WG :=[qa 5 11 2,qo 6 (.call false (.c (.fn eo [] [])) [(.t 5),(.c (.int .i64 2))]),qm 7 1,qj 8 1 6 7,ql 9 1 8,qm 4 9]
def oX:Abs.Fn:=⟨2,[.t 4],sR [1,2] WE (sR [4] WG .ret)⟩
attribute [simp] WE WG
def WH :=[qo 2 (.pq 3)]
def WI :=[qm 3 0,qo 4 (.RQ false false (.t 3))]
def WJ :=[qo 2 (.pq 3)]
def WK :=[qo 5 (.Kw 0 3 [] []),qm 6 0,qy 7 3 24 5 6,qm 2 7]
def dE:Abs.Fn:=⟨1,[.t 2],sR [0] WH (sE [0,4] WI 4 [2] WJ (sR [2] WK .ret))⟩
attribute [simp] WH WI WJ WK
def WN :=[qx 2 0,qx 3 1,qo 4 (.mv (.c .undef))]
def WQ :=[qo 11 (.mp (.make) []),qo 5 (.HM [] [.undef]),qt 1 5 11]
def WS :=[qa 12 11 2,ql 13 1 3,qc 14 gS [12,13],qo 6 (.HM [] [.aF]),qt 1 6 14]
def WT :=[qf 15 0 2,qa 16 9 15,qc 17 oc [16]]
def WU :=[qo 7 (.dY [] [zI,zI]),qs 7 2 7 18]
def WW :=[qL 19 1 6,qF 20 0 7,qV 21 7 1 20,qJ 22 1 19 21,qL 23 1 22,qA 24 11 2,qF 25 0 7,qV 26 7 1 25,qC 27 fA [24,26],qK 28 .sub 23 27,qL 29 1 6,qF 30 1 7,qV 31 7 1 30,qJ 32 1 29 31,qL 33 1 32,qK 34 .sub 28 33,qA 35 11 2,qF 36 1 7,qV 37 7 1 36,qC 38 fA [35,37],qk 39 .add 34 38,qm 8 39]
def WX :=[qm 40 8,qn 41 .lss 40 0]
def WY :=[qf 42 1 7,qv 43 7 1 42,qf 44 0 7,qv 45 7 1 44,qo 46 (.lq [zI,zI] [(0,1,(.t 43)),(1,1,(.t 45))]),qm 47 8,qo 48 (.un .neg (.t 47)),qs 7 2 7 46,qm 8 48]
def WZ :=[qA 49 11 2,qF 50 0 7,qV 51 7 1 50,qC 52 jw [49,51],qA 53 11 2,qF 54 1 7,qV 55 7 1 54,qc 56 jw [53,55],qo 57 (.mn (.t 52) (.t 56)),qm 9 57]
def W0 :=[qm 58 9,qm 59 8,qk 60 .mul 58 59,qn 61 .quo 60 1000,ql 62 1 3,qf 63 0 7,qv 64 7 1 63,qj 65 3 62 64,qf 66 0 65,ql 67 1 66,qn 68 .quo 67 8,qo 69 (.mn (.t 61) (.t 68)),qm 10 69]
def Oo :=[qm 70 10,qn 71 .gtr 70 0]
def Oq :=[qL 72 1 5,qW 73 7 2 7,qL 74 1 3,qF 75 0 7,qV 76 7 1 75,qJ 77 3 74 76,qA 78 3 77,qM 79 10,qC 80 lF [78,79],⟨none,none,false,.mp (.put (some (true,[some .i64,some .i64]))) [(.t 72),(.t 73),(.t 80)]⟩]
def ke:Abs.cH:=.cg [2,3,5,6,7] WU
def dK:Abs.cH:=.bO 1 (sR [2,3,5,7,8] WW (sI [2,3,5,7,8,41] WX 41 (.cg [2,3,5,7,8] WY) .dQ (sR [3,5,7,8,9] WZ (sR [3,5,7,10] W0 (sR [3,5,7,10,71] Oo (.ite (.t 71) (.cg [] Oq) .dQ))))))
def Ot :=[ql 81 1 5,qm 4 81]
def Cj:uh:=an7 [(12,[4]),(11,[]),(10,[3,5,7,10,71]),(9,[3,5,7,10]),(8,[3,5,7,8,9]),(7,[2,3,5,7,8]),(6,[2,3,5,7,8,41]),(5,[2,3,5,7,8]),(4,[2,3,5,6,7]),(3,[2,3,4,5,6,17]),(2,[2,3,4,5,6]),(1,[2,3,4,5]),(0,[2,3,4])] [(0,[2,3,4,5,6])] [] [5,6,7] [7] [] []
def nO:Abs.Fn:=⟨2,[.t 4],sR [2,3,4] WN (sR [2,3,4,5] WQ (sR [2,3,4,5,6] WS (.seq (sR [2,3,4,5,6,17] WT (.bO 0 (.JO [2,3,4,5,6] (.t 17) [18] ke dK))) (sR [4] Ot .ret))))⟩
attribute [simp] WN WQ WS WT WU WW WX WY WZ W0 Oo Oq Ot
def W3 :=[qx 4 1]
def W4 :=[qM 6 0,qO 7 (.mo (.t 6)),qF 8 0 7,qL 9 1 8,qM 10 2,qF 11 0 4,qL 12 1 11,qK 13 .mul 10 12,qk 14 .add 9 13,qo 15 (.mo (.t 6)),qf 16 0 15,qt 1 16 14]
def W5 :=[qM 17 0,qO 18 (.mo (.t 17)),qF 19 1 18,qL 20 1 19,qM 21 2,qF 22 1 4,qL 23 1 22,qK 24 .mul 21 23,qk 25 .add 20 24,qo 26 (.mo (.t 17)),qf 27 1 26,qt 1 27 25]
def W6 :=[qM 28 0,qO 29 (.mo (.t 28)),qF 30 2 29,qL 31 1 30,qM 32 2,qF 33 2 4,qL 34 1 33,qK 35 .mul 32 34,qk 36 .add 31 35,qo 37 (.mo (.t 28)),qf 38 2 37,qt 1 38 36]
def pR:Abs.Fn:=⟨3,[],sR [0,2,4] W3 (sR [0,2,4] W4 (sR [0,2,4] W5 (.cg [] W6)))⟩
attribute [simp] W3 W4 W5 W6
def W7 :=[qx 2 0,qo 4 (.dY [] [zI,zI,zI])]
def W8 :=[qm 5 1,qo 6 (.un .neg (.t 5)),qm 7 1,qo 8 (.un .neg (.t 7)),qf 9 1 2,ql 10 1 9,qk 11 .mul 8 10,qm 12 1,qo 13 (.un .neg (.t 12)),qf 14 2 2,ql 15 1 14,qk 16 .mul 13 15,qo 17 (.lq [zI,zI,zI] [(0,1,(.t 6)),(1,1,(.t 11)),(2,1,(.t 16))]),qs 4 3 4 17]
def pS:Abs.Fn:=⟨2,[.v 4 true 3],sR [1,2,4] W7 (sR [4] W8 .ret)⟩
attribute [simp] W7 W8
def W9 :=[qx 2 0,qo 4 (.dY [] [zI,zI,zI])]
def Xa :=[qM 5 1,qF 6 1 2,qL 7 1 6,qM 8 1,qK 9 .mul 7 8,qF 10 0 2,qL 11 1 10,qK 12 .quo 9 11,qF 13 2 2,qL 14 1 13,qM 15 1,qK 16 .mul 14 15,qF 17 0 2,qL 18 1 17,qK 19 .quo 16 18,qo 20 (.lq [zI,zI,zI] [(0,1,(.t 5)),(1,1,(.t 12)),(2,1,(.t 19))]),qs 4 3 4 20]
def rC:Abs.Fn:=⟨2,[.v 4 true 3],sR [1,2,4] W9 (sR [4] Xa .ret)⟩
attribute [simp] W9 Xa
def Xb :=[qx 2 0,qo 4 (.dY [] [zI,zI,zI])]
def Xc :=[qA 5 11 2,qM 6 1,qC 7 ju [5,6],qA 8 11 2,qM 9 1,qC 10 ju [8,9],qF 11 0 2,qF 12 7 11,qL 13 1 12,qk 14 .mul 10 13,qo 15 (.lq [zI,zI,zI] [(0,1,(.t 7)),(1,1,(.t 14))]),qs 4 3 4 15]
def pV:Abs.Fn:=⟨2,[.v 4 true 3],sR [1,2,4] Xb (sR [4] Xc .ret)⟩
attribute [simp] Xb Xc
def Xd :=[qx 2 0,qb 4 false]
def Xe :=[qm 5 1,qe 6 5,qf 7 0 2,qa 8 9 7,qc 9 de [8],qk 10 .eql 6 9,qm 11 10,qg 11 true (qm 12 1),qg 11 true (qo 13 (.call false (.c (.fn mi [] [])) [(.t 12),(.c (.fn jr [] []))])),qp 14 11 13,qm 4 14]
def nP:Abs.Fn:=⟨2,[.t 4],sR [1,2] Xd (sR [4] Xe .ret)⟩
attribute [simp] Xd Xe
def aoq :=[qb 4 false]
def aor :=[qm 5 0,qm 6 1,qc 7 gC [5,6],qn 8 .geq 7 0,qm 4 8]
def nA:Abs.Fn:=⟨2,[.t 4],sR [0,1] aoq (sR [4] aor .ret)⟩
def aos :=[qx 2 0,qb 3 false]
def aot :=[ql 4 1 1,qa 5 5 2,qo 6 (.call false (.t 4) [(.t 5)]),qu 7 6,qm 3 7]
def tc:Abs.Fn:=⟨2,[.t 3],sR [1,2] aos (sR [3] aot .ret)⟩
def aou :=[qb 4 false]
def aov :=[qm 5 0,qm 6 1,qc 7 gf [5,6],qn 8 .geq 7 0,qm 4 8]
def mT:Abs.Fn:=⟨2,[.t 4],sR [0,1] aou (sR [4] aov .ret)⟩
def aow :=[qx 2 0,qb 3 false]
def aox :=[ql 4 1 1,qa 5 2 2,qo 6 (.call false (.t 4) [(.t 5)]),qu 7 6,qm 3 7]
def rX:Abs.Fn:=⟨2,[.t 3],sR [1,2] aow (sR [3] aox .ret)⟩
def aoy :=[qb 4 false]
def aoz :=[qm 5 0,qm 6 1,qc 7 fj [5,6],qn 8 .geq 7 0,qm 4 8]
def lJ:Abs.Fn:=⟨2,[.t 4],sR [0,1] aoy (sR [4] aoz .ret)⟩
def aoA :=[qx 2 0,qb 3 false]
def aoB :=[ql 4 1 1,qa 5 4 2,qo 6 (.call false (.t 4) [(.t 5)]),qu 7 6,qm 3 7]
def qR:Abs.Fn:=⟨2,[.t 3],sR [1,2] aoA (sR [3] aoB .ret)⟩
def Xf :=[qf 7 1 1,ql 8 1 7,qe 9 8,qi 10 0]
def Xg :=[qk 11 .lss 10 9]
def Xh :=[qj 12 2 8 10,qa 13 2 12,qo 5 (.dY [] [zI,zI]),qs 5 2 5 13]
def Xi :=[ql 14 1 2,qf 15 0 5,qv 16 5 1 15,qo 17 (.mn (.t 14) (.t 16)),qm 6 17]
def Xj :=[qm 18 0,qw 19 5 2 5,qm 20 6,qo 21 (.call false (.t 18) [(.t 19),(.t 20)]),qu 22 21]
def Xk :=[ql 23 1 2,qm 24 6,qk 25 .sub 23 24,qt 1 2 25]
def Xl :=[qn 26 .add 10 1,qm 10 26]
def kX:Abs.cH:=sR [0,2,8,9,10,11] Xg (.seq (.ite (.t 11) .dQ (.exit 0)) (.seq (.bO 1 (sR [0,2,5,8,9,10] Xh (sR [0,2,5,6,8,9,10] Xi (sI [0,2,6,8,9,10,22] Xj 22 .ret .dQ (.cg [0,2,8,9,10] Xk))))) (.cg [0,2,8,9,10] Xl)))
def nK:Abs.Fn:=⟨3,[],sR [0,2,8,9,10] Xf (.bO 0 (.loop [0,2,8,9,10] false kX))⟩
attribute [simp] Xf Xg Xh Xi Xj Xk Xl
def aoC :=[qi 2 0]
def aoD :=[qi 3 1]
def aoE :=[qm 6 0,qo 7 (.me (.s2b) [(.t 6)]),qe 8 7,qi 9 0]
def aoF :=[qk 10 .lss 9 8]
def aoG :=[qj 11 1 7 9,ql 12 1 11,qm 5 12]
def aoH :=[qm 13 3,qo 14 (.bin .mul (.c (.int .i64 31)) (.t 13)),qm 15 5,qo 16 (.KF .i64 (.t 15)),qk 17 .add 14 16,qn 18 .rem 17 65521,qm 3 18]
def aoI :=[qn 19 .add 9 1,qm 9 19]
def EC:Abs.cH:=sR [3,7,8,9,10] aoF (.seq (.ite (.t 10) .dQ (.exit 0)) (.seq (.bO 1 (sR [3,5,7,8,9] aoG (.cg [3,7,8,9] aoH))) (.cg [3,7,8,9] aoI)))
def aoJ :=[qm 20 3,qm 2 20]
def Cx:Abs.Fn:=⟨1,[.t 2],sR [0] aoC (sR [0,3] aoD (sL [3,7,8,9] aoE 0 [3,7,8,9] false EC (sR [2] aoJ .ret)))⟩
def Xm :=[qo 0 (.mv (.c .undef))]
def Xn :=[qo 1 (.mp (.make) []),qo 2 (.lq [(.bool false),zI,zI,.iP] [(0,1,(.c (.bool false))),(1,1,(.c (.int .i64 4))),(2,1,(.c zI)),(3,1,(.c (.fn fp [] [])))]),⟨none,none,false,.mp (.put none) [(.t 1),(.c (.str [102,105,101,108,100])),(.t 2)]⟩,qo 3 (.lq [(.bool false),zI,zI,.iP] [(0,1,(.c (.bool false))),(1,1,(.c zI)),(2,1,(.c (.int .i64 5))),(3,1,(.c (.fn fw [] [])))]),⟨none,none,false,.mp (.put none) [(.t 1),(.c (.str [116,97,98,108,101])),(.t 3)]⟩,qo 4 (.lq [(.bool false),zI,zI,.iP] [(0,1,(.c (.bool false))),(1,1,(.c (.int .i64 3))),(2,1,(.c zI)),(3,1,(.c (.fn gK [] [])))]),⟨none,none,false,.mp (.put none) [(.t 1),(.c (.str [98,101,100])),(.t 4)]⟩,qo 5 (.lq [(.bool false),zI,zI,.iP] [(0,1,(.c (.bool false))),(1,1,(.c (.int .i64 3))),(2,1,(.c zI)),(3,1,(.c (.fn gb [] [])))]),⟨none,none,false,.mp (.put none) [(.t 1),(.c (.str [119,101,108,108])),(.t 5)]⟩,qo 6 (.lq [(.bool false),zI,zI,.iP] [(0,1,(.c (.bool true))),(1,1,(.c zI)),(2,1,(.c (.int .i64 1))),(3,1,(.c (.fn ft [] [])))]),⟨none,none,false,.mp (.put none) [(.t 1),(.c (.str [109,111,100,101,108])),(.t 6)]⟩,qo 7 (.lq [(.bool false),zI,zI,.iP] [(0,1,(.c (.bool true))),(1,1,(.c (.int .i64 3))),(2,1,(.c (.int .i64 2))),(3,1,(.c (.fn gL [] [])))]),⟨none,none,false,.mp (.put none) [(.t 1),(.c (.str [108,111,103])),(.t 7)]⟩,qo 8 (.lq [(.bool false),zI,zI,.iP] [(0,1,(.c (.bool false))),(1,1,(.c (.int .i64 10))),(2,1,(.c zI)),(3,1,(.c (.fn fX [] [])))]),⟨none,none,false,.mp (.put none) [(.t 1),(.c (.str [114,117,108,101])),(.t 8)]⟩,qo 9 (.lq [(.bool false),zI,zI,.iP] [(0,1,(.c (.bool false))),(1,1,(.c (.int .i64 3))),(2,1,(.c zI)),(3,1,(.c (.fn fU [] [])))]),⟨none,none,false,.mp (.put none) [(.t 1),(.c (.str [107,101,101,112])),(.t 9)]⟩,qo 10 (.lq [(.bool false),zI,zI,.iP] [(0,1,(.c (.bool false))),(1,1,(.c zI)),(2,1,(.c (.int .i64 4))),(3,1,(.c (.fn fu [] [])))]),⟨none,none,false,.mp (.put none) [(.t 1),(.c (.str [113,117,97,107,101])),(.t 10)]⟩,qo 11 (.lq [(.bool false),zI,zI,.iP] [(0,1,(.c (.bool false))),(1,1,(.c zI)),(2,1,(.c (.int .i64 1))),(3,1,(.c (.fn fZ [] [])))]),⟨none,none,false,.mp (.put none) [(.t 1),(.c (.str [116,105,99,107])),(.t 11)]⟩,qo 12 (.lq [(.bool false),zI,zI,.iP] [(0,1,(.c (.bool false))),(1,1,(.c (.int .i64 4))),(2,1,(.c zI)),(3,1,(.c (.fn fW [] [])))]),⟨none,none,false,.mp (.put none) [(.t 1),(.c (.str [114,101,97,100])),(.t 12)]⟩,qo 13 (.lq [(.bool false),zI,zI,.iP] [(0,1,(.c (.bool false))),(1,1,(.c (.int .i64 1))),(2,1,(.c (.int .i64 2))),(3,1,(.c (.fn ga [] [])))]),⟨none,none,false,.mp (.put none) [(.t 1),(.c (.str [117,110,105,116])),(.t 13)]⟩,qo 14 (.lq [(.bool false),zI,zI,.iP] [(0,1,(.c (.bool false))),(1,1,(.c (.int .i64 4))),(2,1,(.c zI)),(3,1,(.c (.fn fY [] [])))]),⟨none,none,false,.mp (.put none) [(.t 1),(.c (.str [115,101,108,108])),(.t 14)]⟩,qm 15 1,qm 0 15]
def sr:Abs.Fn:=⟨0,[.t 0],sR [] Xm (sR [0] Xn .ret)⟩
attribute [simp] Xm Xn
def Xo :=[qm 4 0,qu 5 4]
def Xp :=[qm 6 1,qo 7 (.lq [zI] [(0,1,(.t 6))]),qo 8 (.mki 311 (.t 7))]
def Xq:List Abs.Op:=[]
def rW:Abs.Fn:=⟨2,[],sR [1,5] Xo (.ite (.t 5) (.iG [] Xp ⟨none,none,false,.LW (.t 8)⟩ Xq) .dQ)⟩
attribute [simp] Xo Xp Xq
def Xr :=[qi 2 0]
def Xt :=[qm 6 0,qc 7 iB [6],qm 5 7,qz 8 5 0,qz 9 5 1,qm 3 8,qm 4 9]
def Xu :=[qm 10 4,qo 11 (.isi false (.t 10)),qm 12 11,qg 12 true (qm 13 3),qg 12 true (qc 14 eD [13]),qg 12 true (qm 15 0),qg 12 true (qo 16 (.ri (.seq false) [(.t 14),(.t 15)])),qp 17 12 16,qm 18 17,qg 18 true (qm 19 3),qg 18 true (qo 20 (.call false (.c (.fn ct [] [])) [(.t 19),(.c (.int .i64 (-999999999))),(.c (.int .i64 999999999))])),qp 21 18 20]
def Xv:List Abs.Op:=[]
def Xw :=[qm 23 3,qm 2 23]
def nY:Abs.Fn:=⟨1,[.t 2],sR [0] Xr (sR [0,3,4] Xt (.seq (.iG [3] Xu ⟨some 22,none,false,.call false (.c (.fn bd [] [])) [(.t 21),(.c (.int .i64 4))]⟩ Xv) (sR [2] Xw .ret)))⟩
attribute [simp] Xr Xt Xu Xv Xw
def aoW :=[qi 4 0]
def aoX :=[qm 6 0,qe 7 6,qi 8 0]
def aoY :=[qk 9 .lss 8 7]
def aoZ :=[qm 10 8,qm 5 10]
def ao0 :=[qm 11 1,qm 12 0,qm 13 5,qj 14 1 12 13,ql 15 1 14,qo 16 (.call false (.t 11) [(.t 15)])]
def ao1 :=[qm 17 5,qm 4 17]
def ao2 :=[qn 18 .add 8 1,qm 8 18]
def xz:Abs.cH:=sR [0,1,7,8,9] aoY (.seq (.ite (.t 9) .dQ (.exit 0)) (.seq (.bO 1 (sR [0,1,5,7,8] aoZ (sR [0,1,5,7,8,16] ao0 (.ite (.t 16) (sR [4] ao1 .ret) .dQ)))) (.cg [0,1,7,8] ao2)))
def ao3 :=[qi 4 (-1)]
def oY:Abs.Fn:=⟨2,[.t 4],sR [0,1] aoW (sL [0,1,7,8] aoX 0 [0,1,7,8] false xz (sR [4] ao3 .ret))⟩
def ao4 :=[qb 4 false]
def ao5 :=[qm 5 0,qm 6 1,qc 7 gB [5,6],qn 8 .geq 7 0,qm 4 8]
def nz:Abs.Fn:=⟨2,[.t 4],sR [0,1] ao4 (sR [4] ao5 .ret)⟩
def ao6 :=[qx 2 0,qb 3 false]
def ao7 :=[ql 4 1 1,qa 5 3 2,qo 6 (.call false (.t 4) [(.t 5)]),qu 7 6,qm 3 7]
def tK:Abs.Fn:=⟨2,[.t 3],sR [1,2] ao6 (sR [3] ao7 .ret)⟩
def Xx :=[qi 4 0]
def Xy :=[qo 10 (.mp (.make) []),qm 5 10]
def Xz :=[qm 11 0,qe 12 11,qi 13 0]
def XA :=[qk 14 .lss 13 12]
def XB :=[qj 15 2 11 13,qa 16 2 15,qo 7 (.dY [] [(.str []),.aF]),qs 7 2 7 16]
def XC :=[qm 18 1,qw 19 7 2 7,qo 20 (.call false (.t 18) [(.t 19)]),qm 17 20,qz 21 17 0,qz 22 17 1,qm 8 21,qm 9 22]
def XD :=[qm 23 9,qn 24 .neq 23 0]
def XE :=[qm 25 9,qm 4 25]
def XF :=[qm 26 5,qm 27 8,qo 28 (.mp (.get none (.bool false) false) [(.t 26),(.t 27)])]
def XG :=[qi 4 6]
def Ou :=[qm 29 5,qm 30 8,⟨none,none,false,.mp (.put none) [(.t 29),(.t 30),(.c (.bool true))]⟩]
def Ov :=[qn 31 .add 13 1,qm 13 31]
def gz:Abs.cH:=sR [1,5,11,12,13,14] XA (.seq (.ite (.t 14) .dQ (.exit 0)) (.seq (.bO 1 (sR [1,5,7,11,12,13] XB (sR [1,5,8,9,11,12,13] XC (sE [1,5,8,9,11,12,13,24] XD 24 [4] XE (sE [1,5,8,11,12,13,28] XF 28 [4] XG (.cg [1,5,11,12,13] Ou)))))) (.cg [1,5,11,12,13] Ov)))
def Ow :=[qi 4 0]
def jG:Abs.Fn:=⟨2,[.t 4],sR [0,1] Xx (sR [0,1,5] Xy (sL [1,5,11,12,13] Xz 0 [1,5,11,12,13] false gz (sR [4] Ow .ret)))⟩
attribute [simp] Xx Xy Xz XA XB XC XD XE XF XG Ou Ov Ow
def XH :=[qx 2 0,qo 3 (.mv (.c (.str []))),qi 4 0]
def XI :=[qF 5 0 2,qL 6 1 5,qA 7 4 1,qA 8 2 2,qC 9 iK [7,8],qm 3 6,qm 4 9]
def kS:Abs.Fn:=⟨2,[.t 3,.t 4],sR [1,2] XH (sR [3,4] XI .ret)⟩
attribute [simp] XH XI
def ao8 :=[qi 4 0]
def ao9 :=[qm 6 0,qe 7 6,qi 8 0]
def apa :=[qk 9 .lss 8 7]
def apb :=[qm 10 8,qm 5 10]
def apd :=[qm 11 1,qm 12 0,qm 13 5,qj 14 2 12 13,qa 15 2 14,qo 16 (.call false (.t 11) [(.t 15)])]
def apf :=[qm 17 5,qm 4 17]
def apg :=[qn 18 .add 8 1,qm 8 18]
def tt:Abs.cH:=sR [0,1,7,8,9] apa (.seq (.ite (.t 9) .dQ (.exit 0)) (.seq (.bO 1 (sR [0,1,5,7,8] apb (sR [0,1,5,7,8,16] apd (.ite (.t 16) (sR [4] apf .ret) .dQ)))) (.cg [0,1,7,8] apg)))
def aph :=[qi 4 (-1)]
def n0:Abs.Fn:=⟨2,[.t 4],sR [0,1] ao8 (sL [0,1,7,8] ao9 0 [0,1,7,8] false tt (sR [4] aph .ret))⟩
def api :=[qb 3 false]
def apj :=[ql 4 1 1,qm 5 0,qo 6 (.call false (.t 4) [(.t 5)]),qu 7 6,qm 3 7]
def yT:Abs.Fn:=⟨2,[.t 3],sR [0,1] api (sR [3] apj .ret)⟩
def apk :=[qb 3 false]
def apl :=[ql 4 1 1,qm 5 0,qo 6 (.call false (.t 4) [(.t 5)]),qu 7 6,qm 3 7]
def sN:Abs.Fn:=⟨2,[.t 3],sR [0,1] apk (sR [3] apl .ret)⟩
def XJ :=[qx 2 0,qo 4 (.pq 1)]
def XK :=[qm 6 1,qe 7 6,qi 8 0]
def XL :=[qk 9 .lss 8 7]
def XM :=[qm 10 8,qm 5 10]
def XN :=[qm 11 4,qa 12 11 2,qm 13 1,qm 14 5,qc 15 fJ [12,13,14],qo 16 (.ur 1 1 [zI] [(0,1,(.t 15))]),qy 17 1 8 11 16,qm 4 17]
def XO :=[qn 18 .add 8 1,qm 8 18]
def ij:Abs.cH:=sR [1,2,4,7,8,9] XL (.seq (.ite (.t 9) .dQ (.exit 0)) (.seq (.bO 1 (sR [1,2,4,5,7,8] XM (.cg [1,2,4,7,8] XN))) (.cg [1,2,4,7,8] XO)))
def XP :=[qm 19 4,qm 4 19]
def kf:Abs.Fn:=⟨2,[.t 4],sR [1,2,4] XJ (sL [1,2,4,7,8] XK 0 [1,2,4,7,8] false ij (sR [4] XP .ret))⟩
attribute [simp] XJ XK XL XM XN XO XP
def XQ :=[qx 1 0,qo 2 (.mv (.c .iP))]
def XR :=[qo 3 (.xT jm [] [(.t 1)]),qm 2 3]
def rz:Abs.Fn:=⟨1,[.t 2],sR [1] XQ (sR [2] XR .ret)⟩
attribute [simp] XQ XR
def XS :=[qx 2 0,qi 4 0]
def XT :=[qa 5 11 2,qo 6 (.call false (.c (.fn eo [] [])) [(.t 5),(.c (.int .i64 1))]),qm 7 1,qj 8 1 6 7,ql 9 1 8,qm 4 9]
def oV:Abs.Fn:=⟨2,[.t 4],sR [1,2] XS (sR [4] XT .ret)⟩
attribute [simp] XS XT
def XU :=[qx 2 0,qi 4 0]
def XV :=[qa 5 11 2,qo 6 (.call false (.c (.fn eo [] [])) [(.t 5),(.c (.int .i64 3))]),qm 7 1,qj 8 1 6 7,ql 9 1 8,qm 4 9]
def oR:Abs.Fn:=⟨2,[.t 4],sR [1,2] XU (sR [4] XV .ret)⟩
attribute [simp] XU XV
def apm :=[qx 3 1,qb 4 false]
def apn :=[qm 5 0,qo 6 (.xT ki [] [(.t 3)]),qc 7 eZ [5,6],qu 8 7,qm 4 8]
def ux:Abs.Fn:=⟨2,[.t 4],sR [0,3] apm (sR [4] apn .ret)⟩
def XW :=[qx 1 0,qb 2 false]
def XX :=[qf 3 0 1,ql 4 1 3,qo 5 (.call false (.c (.fn cn [] [])) [(.t 4),(.c (.int .i64 1)),(.c (.int .i64 1000000))]),qm 6 5,qg 6 true (qf 7 1 1),qg 6 true (ql 8 1 7),qg 6 true (qo 9 (.call false (.c (.fn cn [] [])) [(.t 8),(.c zI),(.c (.int .i64 10000000000))])),qp 10 6 9,qm 11 10,qg 11 true (qf 12 2 1),qg 11 true (ql 13 1 12),qg 11 true (qo 14 (.call false (.c (.fn cn [] [])) [(.t 13),(.c zI),(.c (.int .i64 1000000000000))])),qp 15 11 14,qm 2 15]
def oM:Abs.Fn:=⟨1,[.t 2],sR [1] XW (sR [2] XX .ret)⟩
attribute [simp] XW XX
def apo :=[qi 4 0]
def apq :=[qm 6 0,qe 7 6,qi 8 0]
def apr :=[qk 9 .lss 8 7]
def aps :=[qm 10 8,qm 5 10]
def apt :=[qm 11 1,qm 12 0,qm 13 5,qj 14 5 12 13,qa 15 5 14,qo 16 (.call false (.t 11) [(.t 15)])]
def apu :=[qm 17 5,qm 4 17]
def apv :=[qn 18 .add 8 1,qm 8 18]
def uk:Abs.cH:=sR [0,1,7,8,9] apr (.seq (.ite (.t 9) .dQ (.exit 0)) (.seq (.bO 1 (sR [0,1,5,7,8] aps (sR [0,1,5,7,8,16] apt (.ite (.t 16) (sR [4] apu .ret) .dQ)))) (.cg [0,1,7,8] apv)))
def apw :=[qi 4 (-1)]
def pf:Abs.Fn:=⟨2,[.t 4],sR [0,1] apo (sL [0,1,7,8] apq 0 [0,1,7,8] false uk (sR [4] apw .ret))⟩
def apx :=[qi 4 0]
def apy :=[qm 6 0,qe 7 6,qi 8 0]
def apA :=[qk 9 .lss 8 7]
def apB :=[qm 10 8,qm 5 10]
def apC :=[qm 11 1,qm 12 0,qm 13 5,qj 14 2 12 13,qa 15 2 14,qo 16 (.call false (.t 11) [(.t 15)])]
def apD :=[qm 17 5,qm 4 17]
def apE :=[qn 18 .add 8 1,qm 8 18]
def tN:Abs.cH:=sR [0,1,7,8,9] apA (.seq (.ite (.t 9) .dQ (.exit 0)) (.seq (.bO 1 (sR [0,1,5,7,8] apB (sR [0,1,5,7,8,16] apC (.ite (.t 16) (sR [4] apD .ret) .dQ)))) (.cg [0,1,7,8] apE)))
def apF :=[qi 4 (-1)]
def ov:Abs.Fn:=⟨2,[.t 4],sR [0,1] apx (sL [0,1,7,8] apy 0 [0,1,7,8] false tN (sR [4] apF .ret))⟩
def apG :=[qi 4 0]
def apH :=[qm 6 0,qe 7 6,qi 8 0]
def apI :=[qk 9 .lss 8 7]
def apJ :=[qm 10 8,qm 5 10]
def apK :=[qm 11 1,qm 12 0,qm 13 5,qj 14 4 12 13,qa 15 4 14,qo 16 (.call false (.t 11) [(.t 15)])]
def apL :=[qm 17 5,qm 4 17]
def apM :=[qn 18 .add 8 1,qm 8 18]
def sK:Abs.cH:=sR [0,1,7,8,9] apI (.seq (.ite (.t 9) .dQ (.exit 0)) (.seq (.bO 1 (sR [0,1,5,7,8] apJ (sR [0,1,5,7,8,16] apK (.ite (.t 16) (sR [4] apL .ret) .dQ)))) (.cg [0,1,7,8] apM)))
def apN :=[qi 4 (-1)]
def nB:Abs.Fn:=⟨2,[.t 4],sR [0,1] apG (sL [0,1,7,8] apH 0 [0,1,7,8] false sK (sR [4] apN .ret))⟩
def XY :=[qm 7 0,qo 8 (.mo (.t 7)),qf 9 0 8,qf 10 0 9,qf 11 0 10,qa 12 4 11,qo 13 (.lq [zI,zI,zI,zI] []),qo 14 (.eqv true [some .i64,some .i64,some .i64,some .i64] false (.t 12) (.t 13))]
def XZ:List Abs.Op:=[]
def X0 :=[qM 16 2,qO 17 (.dP 1 (.t 16) (.c zI)),qL 18 1 17,qM 19 2,qO 20 (.dP 1 (.t 19) (.c (.int .i64 1))),qL 21 1 20,qM 22 2,qO 23 (.dP 1 (.t 22) (.c (.int .i64 2))),qL 24 1 23,qM 25 2,qO 26 (.dP 1 (.t 25) (.c (.int .i64 3))),qL 27 1 26,qO 28 (.lq [zI,zI,zI,zI] [(0,1,(.t 18)),(1,1,(.t 21)),(2,1,(.t 24)),(3,1,(.t 27))]),qO 6 (.dY [] [zI,zI,zI,zI]),qs 6 4 6 28]
def X2 :=[qw 29 6 4 6,qc 30 jk [29],qn 31 .eql 30 0,qm 32 31,qg 32 true (qf 33 3 6),qg 32 true (qv 34 6 1 33),qg 32 true (qn 35 .geq 34 4),qp 36 32 35]
def X3:List Abs.Op:=[]
def X4 :=[qm 38 0,qw 39 6 4 6,qo 40 (.mo (.t 38)),qf 41 0 40,qf 42 0 41,qf 43 0 42,qt 4 43 39]
def jQ:Abs.Fn:=⟨3,[],.seq (.iG [0,2] XY ⟨some 15,none,false,.call false (.c (.fn bd [] [])) [(.t 14),(.c (.int .i64 8))]⟩ XZ) (sR [0,6] X0 (.seq (.iG [0,6] X2 ⟨some 37,none,false,.call false (.c (.fn bd [] [])) [(.t 36),(.c (.int .i64 1))]⟩ X3) (.cg [] X4)))⟩
attribute [simp] XY XZ X0 X2 X3 X4
def X5 :=[qm 7 0,qo 8 (.mo (.t 7)),qf 9 0 8,qf 10 0 9,qf 11 4 10,ql 12 1 11,qe 13 12,qn 14 .eql 13 0]
def X6:List Abs.Op:=[]
def X7 :=[qo 6 (.pq 5)]
def X8 :=[qm 16 2,qe 17 16,qn 18 .gtr 17 0]
def X9 :=[qM 21 6,qM 22 2,qO 23 (.dP 1 (.t 22) (.c zI)),qL 24 1 23,qM 25 2,qO 26 (.dP 1 (.t 25) (.c (.int .i64 1))),qL 27 1 26,qM 28 2,qO 29 (.dP 1 (.t 28) (.c (.int .i64 2))),qL 30 1 29,qM 31 2,qO 32 (.dP 1 (.t 31) (.c (.int .i64 3))),qL 33 1 32,qM 34 2,qO 35 (.dP 1 (.t 34) (.c (.int .i64 4))),qL 36 1 35,qO 37 (.lq [zI,zI,zI,zI,zI] [(0,1,(.t 24)),(1,1,(.t 27)),(2,1,(.t 30)),(3,1,(.t 33)),(4,1,(.t 36))]),qO 38 (.ur 1 5 [zI,zI,zI,zI,zI] [(0,5,(.t 37))]),qy 39 5 40 21 38,qm 6 39]
def Ya :=[qm 19 2,qo 20 (.JV 1 (.t 19) (some (.c (.int .i64 5))) none none),qm 2 20]
def ka:Abs.cH:=sI [0,2,6,18] X8 18 .dQ (.exit 0) (.seq (.bO 1 (.cg [0,2,6] X9)) (.cg [0,2,6] Ya))
def Yb :=[qm 40 6,qc 41 jx [40]]
def Yc:List Abs.Op:=[]
def Yd :=[qm 43 0,qm 44 6,qo 45 (.mo (.t 43)),qf 46 0 45,qf 47 0 46,qf 48 4 47,qt 1 48 44]
def jT:Abs.Fn:=⟨3,[],.seq (.iG [0,2] X5 ⟨some 15,none,false,.call false (.c (.fn bd [] [])) [(.t 14),(.c (.int .i64 8))]⟩ X6) (sR [0,2,6] X7 (.seq (.bO 0 (.loop [0,2,6] false ka)) (.seq (.seq (.cz [6]) (.iG [0,6] Yb ⟨some 42,none,false,.call false (.c (.fn bU [] [])) [(.t 41)]⟩ Yc)) (.cg [] Yd))))⟩
attribute [simp] X5 X6 X7 X8 X9 Ya Yb Yc Yd
def Ye :=[qm 7 0,qo 8 (.mo (.t 7)),qf 9 0 8,qf 10 0 9,qf 11 0 10,qa 12 4 11,qo 13 (.lq [zI,zI,zI,zI] []),qo 14 (.eqv true [some .i64,some .i64,some .i64,some .i64] true (.t 12) (.t 13)),qm 15 14,qg 15 true (qm 16 0),qg 15 true (qo 17 (.mo (.t 16))),qg 15 true (qf 18 0 17),qg 15 true (qf 19 0 18),qg 15 true (qf 20 4 19),qg 15 true (ql 21 1 20),qg 15 true (qe 22 21),qg 15 true (qn 23 .gtr 22 0),qp 24 15 23,qm 25 24,qg 25 true (qm 26 0),qg 25 true (qo 27 (.mo (.t 26))),qg 25 true (qf 28 18 27),qg 25 true (ql 29 1 28),qg 25 true (qu 30 29),qp 31 25 30]
def Yf:List Abs.Op:=[]
def Yg :=[qm 33 0,qo 34 (.mo (.t 33)),qf 35 0 34,qf 36 0 35,qa 37 9 36,qo 6 (.dY [] [zI,zI,zI,zI,.aF,zI,zI,zI,.aF]),qs 6 9 6 37]
def Yh :=[qM 38 2,qO 39 (.dP 1 (.t 38) (.c zI)),qL 40 1 39,qM 41 2,qO 42 (.dP 1 (.t 41) (.c (.int .i64 1))),qL 43 1 42,qM 44 2,qO 45 (.dP 1 (.t 44) (.c (.int .i64 2))),qL 46 1 45,qF 47 5 6,qS 6 1 47 40,qF 48 6 6,qS 6 1 48 43,qf 49 7 6,qs 6 1 49 46]
def Yi :=[qw 50 6 9 6,qc 51 mG [50]]
def Yj:List Abs.Op:=[]
def Yk :=[qm 53 0,qm 54 0,qw 55 6 9 6,qo 56 (.mo (.t 53)),qf 57 0 56,qf 58 0 57,qt 9 58 55,qo 59 (.mo (.t 54)),qf 60 18 59,⟨none,none,false,.st [] 1 (.t 60) (.c (.bool true))⟩]
def lH:Abs.Fn:=⟨3,[],.seq (.iG [0,2] Ye ⟨some 32,none,false,.call false (.c (.fn bd [] [])) [(.t 31),(.c (.int .i64 8))]⟩ Yf) (sR [0,2,6] Yg (sR [0,6] Yh (.seq (.iG [0,6] Yi ⟨some 52,none,false,.call false (.c (.fn bU [] [])) [(.t 51)]⟩ Yj) (.cg [] Yk))))⟩
attribute [simp] Ye Yf Yg Yh Yi Yj Yk
def Yl :=[qm 7 0,qo 8 (.mo (.t 7)),qf 9 18 8,ql 10 1 9,qm 11 10,qg 11 true (qm 12 0),qg 11 true (qo 13 (.mo (.t 12))),qg 11 true (qf 14 0 13),qg 11 true (qf 15 9 14),qg 11 true (ql 16 1 15),qg 11 true (qe 17 16),qg 11 true (qn 18 .eql 17 0),qp 19 11 18]
def Ym:List Abs.Op:=[]
def Yn :=[qm 21 0,qo 22 (.mo (.t 21)),qf 23 0 22,qf 24 0 23,qa 25 9 24,qo 6 (.dY [] [zI,zI,zI,zI,.aF,zI,zI,zI,.aF]),qs 6 9 6 25]
def Yo :=[qF 26 8 6,qV 27 6 1 26,qo 28 (.call true (.c (.fn eJ [] [])) [(.t 27)]),qM 29 2,qO 30 (.dP 1 (.t 29) (.c zI)),qO 31 (.RS false 1 (.t 30)),qM 32 2,qO 33 (.dP 1 (.t 32) (.c (.int .i64 1))),qO 34 (.RS false 1 (.t 33)),qM 35 2,qO 36 (.dP 1 (.t 35) (.c (.int .i64 2))),qO 37 (.RS false 1 (.t 36)),qO 38 (.lq [zI,zI,zI] [(0,1,(.t 31)),(1,1,(.t 34)),(2,1,(.t 37))]),qO 39 (.ur 1 3 [zI,zI,zI] [(0,3,(.t 38))]),qy 40 3 24 28 39,qf 41 8 6,qs 6 1 41 40]
def Yp :=[qw 42 6 9 6,qc 43 mG [42]]
def Yq:List Abs.Op:=[]
def Yr :=[qm 45 0,qw 46 6 9 6,qo 47 (.mo (.t 45)),qf 48 0 47,qf 49 0 48,qt 9 49 46]
def kI:Abs.Fn:=⟨3,[],.seq (.iG [0,2] Yl ⟨some 20,none,false,.call false (.c (.fn bd [] [])) [(.t 19),(.c (.int .i64 8))]⟩ Ym) (sR [0,2,6] Yn (sR [0,6] Yo (.seq (.seq (.cz [6]) (.iG [0,6] Yp ⟨some 44,none,false,.call false (.c (.fn bU [] [])) [(.t 43)]⟩ Yq)) (.cg [] Yr))))⟩
attribute [simp] Yl Ym Yn Yo Yp Yq Yr
def Yt :=[qx 4 1]
def Yu :=[qm 9 0,qo 10 (.mo (.t 9)),qf 11 18 10,ql 12 1 11,qm 13 12,qg 13 true (qm 14 0),qg 13 true (qo 15 (.mo (.t 14))),qg 13 true (qf 16 0 15),qg 13 true (qf 17 10 16),qg 13 true (ql 18 1 17),qg 13 true (qe 19 18),qg 13 true (qn 20 .eql 19 0),qp 21 13 20]
def Yw:List Abs.Op:=[]
def Yx :=[qm 23 0,qo 24 (.mo (.t 23)),qf 25 0 24,qf 26 9 25,ql 27 1 26,qo 28 (.xT ek [] [(.t 4)]),qc 29 dT [27,28],qu 30 29]
def Yy:List Abs.Op:=[]
def Yz :=[qm 32 0,qo 33 (.mo (.t 32)),qf 34 0 33,qf 35 9 34,ql 36 1 35,qe 37 36,qn 38 .lss 37 40]
def YA:List Abs.Op:=[]
def YB :=[qo 40 (.RS false 1 (.t 4)),qm 41 2,qo 42 (.lq [(.str []),.aF] [(0,1,(.t 40)),(1,1,(.t 41))]),qo 6 (.dY [] [(.str []),.aF]),qs 6 2 6 42]
def YC :=[qM 44 0,qO 45 (.mo (.t 44)),qF 46 0 45,qF 47 0 46,qA 48 9 47,qW 49 6 2 6,qC 50 tS [48,49],qM 43 50,qZ 51 43 0,qZ 52 43 1,qM 7 51,qm 8 52]
def YD :=[qm 53 8]
def Ox:List Abs.Op:=[]
def Oy :=[qM 55 0,qM 56 0,qM 57 0,qO 58 (.mo (.t 57)),qF 59 0 58,qF 60 9 59,qL 61 1 60,qW 62 6 2 6,qO 63 (.lq [(.str []),.aF,(.bool false),zI] [(0,2,(.t 62)),(2,1,(.c (.bool true))),(3,1,(.c zI))]),qO 64 (.ur 1 4 [(.str []),.aF,(.bool false),zI] [(0,4,(.t 63))]),qO 65 (.QC [] 4 56 (.t 61) (.t 64)),qM 66 0,qO 67 (.mo (.t 66)),qF 68 19 67,qO 69 (.RR false 1 (.t 68)),qO 70 (.lq [zI,zI,zI,zI] []),qO 71 (.ur 1 4 [zI,zI,zI,zI] [(0,4,(.t 70))]),qO 72 (.app 4 32 (.t 69) (.t 71)),qO 73 (.mo (.t 55)),qF 74 0 73,qF 75 9 74,⟨none,none,true,.st [(0,4),(10,4)] 1 (.t 75) (.t 65)⟩,qo 76 (.mo (.t 56)),qf 77 19 76,⟨none,none,false,.st [(0,4)] 1 (.t 77) (.t 72)⟩]
def jR:Abs.Fn:=⟨3,[],sR [0,2,4] Yt (.seq (.iG [0,2,4] Yu ⟨some 22,none,false,.call false (.c (.fn bd [] [])) [(.t 21),(.c (.int .i64 8))]⟩ Yw) (.seq (.iG [0,2,4] Yx ⟨some 31,none,false,.call false (.c (.fn bd [] [])) [(.t 30),(.c (.int .i64 6))]⟩ Yy) (.seq (.iG [0,2,4] Yz ⟨some 39,none,false,.call false (.c (.fn bd [] [])) [(.t 38),(.c (.int .i64 3))]⟩ YA) (sR [0,6] YB (sR [0,6,8] YC (.seq (.iG [0,6] YD ⟨some 54,none,false,.call false (.c (.fn bU [] [])) [(.t 53)]⟩ Ox) (.cg [] Oy)))))))⟩
attribute [simp] Yt Yu Yw Yx Yy Yz YA YB YC YD Ox Oy
def YE :=[qx 3 0]
def YF :=[ql 9 1 3,qo 10 (.mo (.t 9)),qf 11 0 10,qf 12 9 11,ql 13 1 12,qe 14 13,qn 15 .gtr 14 0]
def YG:List Abs.Op:=[]
def YH :=[qM 17 1,qM 18 2,qO 19 (.dP 1 (.t 18) (.c zI)),qL 20 1 19,qM 21 2,qO 22 (.dP 1 (.t 21) (.c (.int .i64 1))),qL 23 1 22,qM 24 2,qO 25 (.dP 1 (.t 24) (.c (.int .i64 2))),qL 26 1 25,qO 27 (.lq [zI,zI] [(0,1,(.t 23)),(1,1,(.t 26))]),qO 28 (.lq [(.str []),zI,.aF,.aF,zI,zI] [(0,1,(.t 17)),(1,1,(.t 20)),(4,2,(.t 27))]),qO 6 (.HM [] [(.str []),zI,.aF,.aF,zI,zI]),⟨none,none,false,.st [(2,1),(3,1)] 6 (.t 6) (.t 28)⟩]
def YI :=[qm 29 2,qo 30 (.JV 1 (.t 29) (some (.c (.int .i64 3))) none none),qe 31 30,qi 32 0]
def YJ :=[qk 33 .lss 32 31]
def YK :=[qm 34 32,qj 35 1 30 32,ql 36 1 35,qm 7 34,qm 8 36]
def YL :=[qm 37 7,qn 38 .rem 37 2,qn 39 .eql 38 0]
def YM :=[qf 40 2 6,ql 41 1 40,qm 42 8,qo 43 (.ur 1 1 [zI] [(0,1,(.t 42))]),qy 44 1 8 41 43,qf 45 2 6,⟨none,none,false,.st [(0,1),(1,1)] 1 (.t 45) (.t 44)⟩]
def YN :=[qf 46 3 6,ql 47 1 46,qm 48 8,qo 49 (.ur 1 1 [zI] [(0,1,(.t 48))]),qy 50 1 8 47 49,qf 51 3 6,⟨none,none,false,.st [(0,1)] 1 (.t 51) (.t 50)⟩]
def Oz :=[qn 52 .add 32 1,qm 32 52]
def ig:Abs.cH:=sR [2,3,6,30,31,32,33] YJ (.seq (.ite (.t 33) .dQ (.exit 0)) (.seq (.bO 1 (sR [2,3,6,7,8,30,31,32] YK (sR [2,3,6,8,30,31,32,39] YL (.ite (.t 39) (.cg [2,3,6,30,31,32] YM) (.cg [2,3,6,30,31,32] YN))))) (.cg [2,3,6,30,31,32] Oz)))
def OA :=[qL 53 1 3,qO 54 (.mo (.t 53)),qF 55 0 54,qF 56 0 55,qF 57 0 56,qA 58 4 57,qA 59 6 6,qO 60 (.ur 1 6 [(.str []),zI,.aF,.aF,zI,zI] [(0,6,(.t 59))]),qc 61 jd [58,60]]
def OB:List Abs.Op:=[]
def OC :=[qL 63 1 3,qM 64 2,qO 65 (.dP 1 (.t 64) (.c (.int .i64 1))),qL 66 1 65,qM 67 2,qO 68 (.dP 1 (.t 67) (.c (.int .i64 2))),qL 69 1 68,qO 70 (.lq [zI,zI] [(0,1,(.t 66)),(1,1,(.t 69))]),qO 71 (.xT fq [] [(.t 3),(.t 6)]),qc 72 gn [63,70,71]]
def lI:Abs.Fn:=⟨3,[],sR [1,2,3] YE (.seq (.iG [1,2,3] YF ⟨some 16,none,false,.call false (.c (.fn bd [] [])) [(.t 15),(.c (.int .i64 8))]⟩ YG) (sR [2,3,6] YH (sL [2,3,6,30,31,32] YI 0 [2,3,6,30,31,32] false ig (.seq (.seq (.cz [1000006]) (.iG [2,3,6] OA ⟨some 62,none,false,.call false (.c (.fn bU [] [])) [(.t 61)]⟩ OB)) (.cg [] OC)))))⟩
attribute [simp] YE YF YG YH YI YJ YK YL YM YN Oz OA OB OC
def YO :=[qm 10 0,qo 11 (.mo (.t 10)),qf 12 0 11,qf 13 11 12,ql 14 1 13,qe 15 14,qn 16 .lss 15 20]
def YP:List Abs.Op:=[]
def YQ :=[qm 18 2,qo 19 (.dP 1 (.t 18) (.c (.int .i64 9))),ql 20 1 19,qo 21 (.call false (.c (.fn ct [] [])) [(.t 20),(.c (.int .i64 1)),(.c (.int .i64 2))])]
def YR:List Abs.Op:=[]
def YS :=[qM 23 2,qO 24 (.dP 1 (.t 23) (.c zI)),qL 25 1 24,qM 26 2,qO 27 (.dP 1 (.t 26) (.c (.int .i64 1))),qL 28 1 27,qM 29 2,qO 30 (.dP 1 (.t 29) (.c (.int .i64 2))),qL 31 1 30,qO 32 (.lq [zI,zI,zI] [(0,1,(.t 25)),(1,1,(.t 28)),(2,1,(.t 31))]),qM 33 2,qO 34 (.dP 1 (.t 33) (.c (.int .i64 3))),qL 35 1 34,qM 36 2,qO 37 (.dP 1 (.t 36) (.c (.int .i64 4))),qL 38 1 37,qM 39 2,qO 40 (.dP 1 (.t 39) (.c (.int .i64 5))),qL 41 1 40,qO 42 (.lq [zI,zI,zI] [(0,1,(.t 35)),(1,1,(.t 38)),(2,1,(.t 41))]),qM 43 2,qO 44 (.dP 1 (.t 43) (.c (.int .i64 6))),qL 45 1 44,qM 46 2,qO 47 (.dP 1 (.t 46) (.c (.int .i64 7))),qL 48 1 47,qM 49 2,qO 50 (.dP 1 (.t 49) (.c (.int .i64 8))),qL 51 1 50,qM 52 2,qO 53 (.dP 1 (.t 52) (.c (.int .i64 9))),qL 54 1 53,qO 55 (.KF .u8 (.t 54)),qO 56 (.lq [zI,zI,zI,zI,zI,zI,zI,zI,zI,(.int .u8 0)] [(0,3,(.t 32)),(3,3,(.t 42)),(6,1,(.t 45)),(7,1,(.t 48)),(8,1,(.t 51)),(9,1,(.t 55))]),qO 6 (.dY [] [zI,zI,zI,zI,zI,zI,zI,zI,zI,(.int .u8 0)]),qs 6 10 6 56]
def YT :=[qw 58 6 10 6,qo 59 (.ur 1 10 [zI,zI,zI,zI,zI,zI,zI,zI,zI,(.int .u8 0)] [(0,10,(.t 58))]),qo 60 (.call false (.c (.fn iC [] [])) [(.t 59),(.c .aF),(.c zI)]),qm 57 60,qz 61 57 0,qz 62 57 1,qz 63 57 2,qm 7 61,qm 8 62,qm 9 63]
def YU :=[qm 64 9]
def YV:List Abs.Op:=[]
def YW :=[qM 66 0,qM 67 0,qO 68 (.mo (.t 67)),qF 69 0 68,qF 70 11 69,qL 71 1 70,qW 72 6 10 6,qO 73 (.ur 1 10 [zI,zI,zI,zI,zI,zI,zI,zI,zI,(.int .u8 0)] [(0,10,(.t 72))]),qO 74 (.app 10 80 (.t 71) (.t 73)),qo 75 (.mo (.t 66)),qf 76 0 75,qf 77 11 76,⟨none,none,false,.st [(0,10)] 1 (.t 77) (.t 74)⟩]
def kE:Abs.Fn:=⟨3,[],.seq (.iG [0,2] YO ⟨some 17,none,false,.call false (.c (.fn bd [] [])) [(.t 16),(.c (.int .i64 3))]⟩ YP) (.seq (.iG [0,2] YQ ⟨some 22,none,false,.call false (.c (.fn bd [] [])) [(.t 21),(.c (.int .i64 1))]⟩ YR) (sR [0,6] YS (sR [0,6,9] YT (.seq (.iG [0,6] YU ⟨some 65,none,false,.call false (.c (.fn bU [] [])) [(.t 64)]⟩ YV) (.cg [] YW)))))⟩
attribute [simp] YO YP YQ YR YS YT YU YV YW
def YX :=[qm 9 2,qo 10 (.me (.s2a 3 1) [(.t 9)]),qa 11 3 10,qo 12 (.call false (.c (.fn pn [] [])) [(.c .aF),(.c .aF),(.t 11),(.c zI)]),qm 8 12,qz 13 8 0,qz 14 8 1,qm 6 13,qm 7 14]
def YY :=[qm 15 7]
def YZ:List Abs.Op:=[]
def Y0 :=[qm 17 0,qm 18 2,qo 19 (.me (.s2a 3 1) [(.t 18)]),qa 20 3 19,qo 21 (.mo (.t 17)),qf 22 0 21,qf 23 13 22,qt 3 23 20]
def kB:Abs.Fn:=⟨3,[],sR [0,2,7] YX (.seq (.iG [0,2] YY ⟨some 16,none,false,.call false (.c (.fn bU [] [])) [(.t 15)]⟩ YZ) (.cg [] Y0))⟩
attribute [simp] YX YY YZ Y0
def tF2:List (Nat×uh×Abs.Fn):=[A4 [0,3,2,5,6,4,1,7] cX jc [] [0,2] [2] [] [] [] [] [] [(2,some 1)],A4 [] dc fI [] [2,4] [2] [] [2000] [] [14] [] [(3,some 1),(6,some 3),(11,some 2),(14,some 18)],A0 iY rK,A0 cc my,A0 qd xG,A0 jk oD,A0 jx oZ,A0 j1 vn,A0 fx oL,A0 gi lW,A0 jV mK,A0 eG mu,A0 jN rZ,A0 jZ A7,A0 eo oU,A0 ea mQ,A0 fA mS,A0 vw xK,A0 fy oT,A0 kh pU,A0 iM nM,A0 jt oQ,A0 dO jh,A0 dB iT,A0 gV uK,A0 ew lh,A0 jn oJ,A0 lU oX,A2 [] cK dE [] [2,5],(kK,Cj,nO),A2 [] cj pR [] [0],A3 [] nf pS [] [4] [4] [] [],A3 [] lF rC [] [4] [4] [] [],A3 [] nh pV [] [4] [4] [] [],A0 kL nP,A0 fh nA,A0 kl tc,A0 eW mT,A0 jL rX,A0 ep lJ,A0 ix qR,A3 [] iL nK [] [2,5] [5] [] [],A0 yw Cx,A0 pk sr,A4 [] bd rW [] [] [] [] [] [] [] [] [(1,some 3)],A4 [] lE nY [] [] [] [] [] [] [] [] [(2,some 12)],A0 eu oY,A0 fg nz,A0 lk tK,A3 [] gr jG [] [7] [7] [] [],A0 ej kS,A0 fL n0,A0 oe yT,A0 o4 sN,A2 [] gS kf [] [4],A0 oc rz,A0 jw oV,A0 ju oR,A0 mi ux,A0 jr oM,A0 gC pf,A0 gf ov,A0 fj nB,A4 [] fp jQ [] [0,6] [6] [] [] [] [] [] [(0,some 8),(2,some 8)],A4 [] fw jT [] [0,6] [] [] [] [(5,[6])] [] [] [(0,some 8),(5,some 2)],A4 [] gK lH [] [0,6] [6] [] [] [] [] [] [(0,some 25),(3,some 2)],A4 [] gb kI [] [0,6] [6] [] [2002] [(3,[6])] [29,32,35] [] [(0,some 13),(3,some 2)],A4 [] ft jR [] [0,6] [6] [(7021,[(0,4),(10,4)]),(7024,[(0,4)])] [3007014] [] [4] [(7010,some [])] [(1,some 13),(2,some 8),(3,some 7),(6,some 1)],A4 [] gL lI [] [6] [] [(2013,[(2,1),(3,1)]),(7006,[(0,1),(1,1)]),(8006,[(0,1)])] [] [(10,[1000006])] [] [] [(1,some 7),(10,some 9)],A4 [] fX kE [] [0,6] [6] [(5012,[(0,10)])] [] [] [] [] [(0,some 7),(1,some 4),(4,some 1)],A4 [] fU kB [] [0] [] [] [] [] [] [] [(1,some 1)]]
theorem kF2:(tF2.map fun p=>chk p)=tF2.map fun p=>some p.2.2:=by kernel_rfl
end Go.Proofs.YtfgljaglidhjiaaGreatDoor
