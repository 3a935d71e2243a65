import Derived.Test.YtfgljaglidhjiaaGreatDoorIds
set_option linter.all false
set_option maxRecDepth 100000
namespace Go.Proofs.YtfgljaglidhjiaaGreatDoor
open Go Go.Abs
def VZ :=[qx 2 0,qo 3 (.H8 (.t 1)),qo 4 (.mv (.c .iX))]
def V0 :=[qo 5 (.yq iT [] [(.t 2),(.t 3)]),qm 4 5]
def pZ:Abs.Fn:=⟨2,[.t 4],sR [2,3] VZ (sR [4] V0 .ret)⟩
attribute [simp] VZ V0
def aoF :=[qo 2 (.mv (.c .aG))]
def aoG :=[qm 7 0,qo 8 (.rj (.zD) [(.t 7)]),qo 9 (.bin .shr (.t 8) (.c (.int .u64 8))),qo 10 (.JG .u8 (.t 9)),qm 11 0,qo 12 (.rj (.zD) [(.t 11)]),qo 13 (.JG .u8 (.t 12)),qm 14 0,qc 15 yV [14],qm 3 10,qm 4 13,qm 5 15]
def aoH :=[qm 16 3,qm 17 4,qm 18 3,qo 19 (.un .xor (.t 18)),qm 20 4,qo 21 (.un .xor (.t 20)),qo 22 (.KX 4 1 [(.int .u8 0),(.int .u8 0),(.int .u8 0),(.int .u8 0)] [(0,1,(.t 16)),(1,1,(.t 17)),(2,1,(.t 19)),(3,1,(.t 21))]),qm 23 0,qy 24 1 1 22 23,qm 6 24]
def aoI :=[qm 25 6,qm 26 5,qo 27 (.bin .shr (.t 26) (.c (.int .u64 8))),qo 28 (.JG .u8 (.t 27)),qm 29 5,qo 30 (.JG .u8 (.t 29)),qo 31 (.tH 2 1 [(.int .u8 0),(.int .u8 0)] [(0,1,(.t 28)),(1,1,(.t 30))]),qy 32 1 1 25 31,qm 2 32]
def zn:Abs.Fn:=⟨1,[.t 2],sR [0] aoF (sR [0,3,4,5] aoG (sR [5,6] aoH (sR [2] aoI .ret)))⟩
def V2 :=[qo 4 (.My)]
def V3 :=[qo 6 (.isi false (.t 4))]
def V4 :=[qm 1 4]
def V5 :=[qo 7 (.tas 311 (some (.agg [zI])) (.t 4)),qz 8 7 1,qz 9 7 0]
def V6 :=[qo 2 (.ek [] [zI]),qs 2 1 2 9]
def V7 :=[qf 10 0 2,qv 11 2 1 10,qt 1 0 11]
def V8 :=[qm 3 4]
def V9 :=[qm 5 3]
def Wa:List Abs.Op:=[]
def jm:Abs.Fn:=⟨1,[],sR [0,4] V2 (.bO 0 (sR [0,4,6] V3 (.ite (.t 6) (.cc [] V4) (sR [0,4,8,9] V5 (.ite (.t 8) (sR [0,2] V6 (.cc [] V7)) (sR [3] V8 (.iO [] V9 ⟨none,none,false,.Mw (.t 5)⟩ Wa)))))))⟩
attribute [simp] V2 V3 V4 V5 V6 V7 V8 V9 Wa
def Wb :=[qo 2 (.ek [] [(.bool false),zI,zI,.iX]),qo 3 (.mv (.c (.str []))),qo 4 (.pI 1)]
def Wc :=[qm 10 0,qo 11 (.call false (.c (.fn gK [] [])) [(.t 10),(.c (.str [32]))]),qm 5 11]
def We :=[qo 13 (.call true (.c (.fn pF [] [])) []),qM 14 5,qO 15 (.dT 1 (.t 14) (.c zI)),qO 16 (.Qc false 1 (.t 15)),qO 17 (.mp (.get none (.agg [(.bool false),zI,zI,.iX]) true) [(.t 13),(.t 16)]),qM 12 17,qZ 18 12 0,qZ 19 12 1,qS 2 4 2 18,qm 6 19]
def Wf :=[qm 20 6]
def Wg:List Abs.Op:=[]
def Wh :=[qm 22 5,qo 23 (.Jc 1 (.t 22) (some (.c (.int .i64 1))) none none),qm 5 23]
def Wi :=[qf 24 0 2,qv 25 2 1 24]
def Wj :=[qm 26 5,qe 27 26,qn 28 .gtr 27 0]
def Wk:List Abs.Op:=[]
def Wl :=[qM 30 5,qO 31 (.dT 1 (.t 30) (.c zI)),qL 32 1 31,qM 33 5,qO 34 (.Jc 1 (.t 33) (some (.c (.int .i64 1))) none none),qM 3 32,qm 5 34]
def OI :=[qm 35 5,qe 36 35,qi 37 0]
def OJ :=[qk 38 .lss 37 36]
def OK :=[qj 39 1 35 37,ql 40 1 39,qm 8 40]
def OL :=[qm 41 4,qm 42 8]
def OM :=[qo 44 (.tH 1 1 [zI] [(0,1,(.t 43))]),qy 45 1 8 41 44,qm 4 45]
def ON :=[qn 46 .add 37 1,qm 37 46]
def mY:Abs.cH:=sR [2,3,4,35,36,37,38] OJ (.seq (.ite (.t 38) .dJ (.exit 0)) (.seq (.bO 1 (sR [2,3,4,8,35,36,37] OK (.iO [2,3,4,35,36,37] OL ⟨some 43,none,false,.call false (.c (.fn lR [] [])) [(.t 42)]⟩ OM))) (.cc [2,3,4,35,36,37] ON)))
def OO :=[qm 47 4,qe 48 47,qf 49 1 2,qv 50 2 1 49,qk 51 .sub 48 50,qm 9 51]
def OP :=[qm 52 9,qn 53 .eql 52 0,qm 54 53,qg 54 false (qm 55 9),qg 54 false (qn 56 .gtr 55 0),qg 54 false (qm 57 56),qg 57 true (qf 58 2 2),qg 57 true (qv 59 2 1 58),qg 57 true (qn 60 .gtr 59 0),qg 54 false (qp 61 57 60),qg 54 false (qm 62 61),qg 62 true (qm 63 9),qg 62 true (qf 64 2 2),qg 62 true (qv 65 2 1 64),qg 62 true (qk 66 .rem 63 65),qg 62 true (qn 67 .eql 66 0),qg 54 false (qp 68 62 67),qP 69 54 68]
def OQ:List Abs.Op:=[]
def OR :=[qw 71 2 4 2,qm 72 3,qm 73 4,qs 2 4 2 71,qm 3 72,qm 4 73]
def fN:Abs.Fn:=⟨1,[.v 2 true 4,.t 3,.t 4],sR [0,2,3,4] Wb (sR [2,3,4,5] Wc (sR [2,3,4,5,6] We (.seq (.iO [2,3,4,5] Wf ⟨some 21,none,false,.call false (.c (.fn bd [] [])) [(.t 20),(.c (.int .i64 4))]⟩ Wg) (sR [2,3,4,5] Wh (sI [2,3,4,5,25] Wi 25 (.seq (.iO [2,4,5] Wj ⟨some 29,none,false,.call false (.c (.fn bd [] [])) [(.t 28),(.c (.int .i64 4))]⟩ Wk) (.cc [2,3,4,5] Wl)) .dJ (sL [2,3,4,35,36,37] OI 0 [2,3,4,35,36,37] false mY (sR [2,3,4,9] OO (.seq (.iO [2,3,4] OP ⟨some 70,none,false,.call false (.c (.fn bd [] [])) [(.t 69),(.c (.int .i64 4))]⟩ OQ) (sR [2,3,4] OR .ret)))))))))⟩
attribute [simp] Wb Wc We Wf Wg Wh Wi Wj Wk Wl OI OJ OK OL OM ON OO OP OQ OR
def aoJ :=[qi 4 0]
def aoK :=[qm 6 0,qe 7 6,qi 8 0]
def aoL :=[qk 9 .lss 8 7]
def aoM :=[qm 10 8,qm 5 10]
def aoN :=[qm 11 1,qm 12 0,qm 13 5,qj 14 1 12 13,ql 15 1 14,qo 16 (.call false (.t 11) [(.t 15)])]
def aoO :=[qm 17 5,qm 4 17]
def aoP :=[qn 18 .add 8 1,qm 8 18]
def vX:Abs.cH:=sR [0,1,7,8,9] aoL (.seq (.ite (.t 9) .dJ (.exit 0)) (.seq (.bO 1 (sR [0,1,5,7,8] aoM (sR [0,1,5,7,8,16] aoN (.ite (.t 16) (sR [4] aoO .ret) .dJ)))) (.cc [0,1,7,8] aoP)))
def aoQ :=[qi 4 (-1)]
def rW:Abs.Fn:=⟨2,[.t 4],sR [0,1] aoJ (sL [0,1,7,8] aoK 0 [0,1,7,8] false vX (sR [4] aoQ .ret))⟩
def aoR :=[qb 4 false]
def aoS :=[qm 5 0,qm 6 1,qc 7 eB [5,6],qn 8 .geq 7 0,qm 4 8]
def mL:Abs.Fn:=⟨2,[.t 4],sR [0,1] aoR (sR [4] aoS .ret)⟩
def aoT :=[qb 3 false]
def aoU :=[ql 4 1 1,qm 5 0,qo 6 (.call false (.t 4) [(.t 5)]),qu 7 6,qm 3 7]
def ya:Abs.Fn:=⟨2,[.t 3],sR [0,1] aoT (sR [3] aoU .ret)⟩
def Wn :=[qx 1 0,qi 2 0]
def Wo :=[qa 3 4 1,qc 4 cM [3],qm 2 4]
def oQ:Abs.Fn:=⟨1,[.t 2],sR [1] Wn (sR [2] Wo .ret)⟩
attribute [simp] Wn Wo
def Wp :=[qi 2 0]
def Wq :=[qm 3 0,qc 4 iW [3],qu 5 4]
def Wr :=[qi 2 1]
def Ws :=[qi 2 0]
def pn:Abs.Fn:=⟨1,[.t 2],sR [0] Wp (sE [5] Wq 5 [2] Wr (sR [2] Ws .ret))⟩
attribute [simp] Wp Wq Wr Ws
def aoV :=[qx 3 1,qb 4 false]
def aoW :=[qm 5 0,qo 6 (.yq lI [] [(.t 3)]),qc 7 fk [5,6],qu 8 7,qm 4 8]
def vE:Abs.Fn:=⟨2,[.t 4],sR [0,3] aoV (sR [4] aoW .ret)⟩
def Wt :=[qx 2 0,qb 3 false]
def Wu :=[qf 4 0 2,ql 5 1 4,ql 6 1 1,qe 7 6,qn 8 .sub 7 1,qo 9 (.call false (.c (.fn cj [] [])) [(.t 5),(.c zI),(.t 8)]),qu 10 9,qm 11 10,qg 11 false (ql 12 1 1),qg 11 false (qf 13 0 2),qg 11 false (ql 14 1 13),qg 11 false (qj 15 1 12 14),qg 11 false (ql 16 1 15),qP 17 11 16]
def Wv :=[qb 3 false]
def Ww :=[ql 18 1 1,qf 19 0 2,ql 20 1 19,qj 21 1 18 20,⟨none,none,false,.st [] 1 (.t 21) (.c (.bool true))⟩]
def Wx :=[qf 22 1 2,ql 23 1 22,qo 24 (.call false (.c (.fn cj [] [])) [(.t 23),(.c zI),(.c (.int .i64 3000))]),qm 25 24,qg 25 true (qf 26 2 2),qg 25 true (ql 27 1 26),qg 25 true (qo 28 (.call false (.c (.fn cj [] [])) [(.t 27),(.c zI),(.c (.int .i64 1000000))])),qp 29 25 28,qm 3 29]
def oY:Abs.Fn:=⟨2,[.t 3],sR [1,2] Wt (sE [1,2,17] Wu 17 [3] Wv (sR [2] Ww (sR [3] Wx .ret)))⟩
attribute [simp] Wt Wu Wv Ww Wx
def Wy :=[qi 2 0]
def Wz :=[qa 3 4 0,ql 4 1 1,qc 5 j9 [3,4],qm 2 5]
def mg:Abs.Fn:=⟨2,[.t 2],sR [0,1] Wy (sR [2] Wz .ret)⟩
attribute [simp] Wy Wz
def WA :=[qx 2 0,qi 4 0]
def WB :=[qm 5 1,qe 6 5,qo 7 (.call false (.c (.fn dQ [] [])) [(.t 6),(.c (.int .i64 1)),(.c (.int .i64 40))]),qu 8 7]
def WE :=[qi 4 3]
def WG :=[qm 9 1,qo 10 (.yq ep [] [(.t 2)]),qc 11 gB [9,10],qm 4 11]
def mV:Abs.Fn:=⟨2,[.t 4],sR [1,2] WA (sE [1,2,8] WB 8 [4] WE (sR [4] WG .ret))⟩
attribute [simp] WA WB WE WG
def aoX :=[qb 4 false]
def aoY :=[qm 5 0,qm 6 1,qc 7 fQ [5,6],qn 8 .geq 7 0,qm 4 8]
def mJ:Abs.Fn:=⟨2,[.t 4],sR [0,1] aoX (sR [4] aoY .ret)⟩
def aoZ :=[qx 2 0,qb 3 false]
def ao0 :=[ql 4 1 1,qa 5 2 2,qo 6 (.call false (.t 4) [(.t 5)]),qu 7 6,qm 3 7]
def so:Abs.Fn:=⟨2,[.t 3],sR [1,2] aoZ (sR [3] ao0 .ret)⟩
def ao1 :=[qx 3 1,qb 4 false]
def ao2 :=[qm 5 0,qo 6 (.yq oA [] [(.t 3)]),qc 7 bZ [5,6],qu 8 7,qm 4 8]
def Bq:Abs.Fn:=⟨2,[.t 4],sR [0,3] ao1 (sR [4] ao2 .ret)⟩
def WH :=[qx 2 0,qo 4 (.mv (.c .aG))]
def WI :=[qF 5 9 2,qF 6 1 5,qL 7 1 6,qM 8 1,qF 9 0 2,qA 10 9 9,qC 11 dk [10],qK 12 .mul 8 11,qM 13 1,qN 14 .add 13 1,qF 15 0 2,qA 16 9 15,qC 17 dk [16],qK 18 .mul 14 17,qo 19 (.Jc 1 (.t 7) (some (.t 12)) (some (.t 18)) none),qm 4 19]
def pc:Abs.Fn:=⟨2,[.t 4],sR [1,2] WH (sR [4] WI .ret)⟩
attribute [simp] WH WI
def WJ :=[qb 3 false]
def WK :=[qm 4 0,qo 5 (.Bw 2 1 (.t 1) (.c zI)),ql 6 1 5,qo 7 (.Bw 2 1 (.t 1) (.c (.int .i64 1))),ql 8 1 7,qc 9 cj [4,6,8],qm 3 9]
def na:Abs.Fn:=⟨2,[.t 3],sR [0,1] WJ (sR [3] WK .ret)⟩
attribute [simp] WJ WK
def WN :=[qx 2 0,qi 4 0]
def WQ :=[qM 5 1,qF 6 0 2,qF 7 0 6,qF 8 0 7,qL 9 1 8,qF 10 0 2,qF 11 0 10,qF 12 1 11,qL 13 1 12,qK 14 .mul 9 13,qK 15 .quo 5 14,qF 16 0 2,qF 17 6 16,qL 18 1 17,qk 19 .mul 15 18,qm 4 19]
def nd:Abs.Fn:=⟨2,[.t 4],sR [1,2] WN (sR [4] WQ .ret)⟩
attribute [simp] WN WQ
def WS :=[qi 4 0]
def WT :=[qm 6 0,qm 7 1,qk 8 .quo 6 7,qm 5 8]
def WU :=[qm 9 5,qm 10 1,qk 11 .mul 9 10,qm 12 0,qk 13 .gtr 11 12]
def WW :=[qm 14 5,qn 15 .sub 14 1,qm 5 15]
def WX :=[qm 16 5,qm 4 16]
def yf:Abs.Fn:=⟨2,[.t 4],sR [0,1] WS (sR [0,1,5] WT (sI [5,13] WU 13 (.cc [5] WW) .dJ (sR [4] WX .ret)))⟩
attribute [simp] WS WT WU WW WX
def WY :=[qx 2 0,qi 4 0]
def WZ :=[qa 5 11 2,qo 6 (.call false (.c (.fn ez [] [])) [(.t 5),(.c zI)]),qm 7 1,qj 8 1 6 7,ql 9 1 8,qm 4 9]
def pa:Abs.Fn:=⟨2,[.t 4],sR [1,2] WY (sR [4] WZ .ret)⟩
attribute [simp] WY WZ
def W0 :=[qx 1 0,qi 2 0]
def W3 :=[qf 3 0 1,ql 4 1 3,qm 2 4]
def qH:Abs.Fn:=⟨1,[.t 2],sR [1] W0 (sR [2] W3 .ret)⟩
attribute [simp] W0 W3
def W4 :=[qx 1 0,qi 2 0]
def W5 :=[qf 3 0 1,ql 4 1 3,qn 5 .eql 4 0]
def W6 :=[qi 2 0]
def W7 :=[qf 6 1 1,ql 7 1 6,qf 8 0 1,ql 9 1 8,qk 10 .quo 7 9,qm 2 10]
def nY:Abs.Fn:=⟨1,[.t 2],sR [1] W4 (sE [1,5] W5 5 [2] W6 (sR [2] W7 .ret))⟩
attribute [simp] W4 W5 W6 W7
def W8 :=[qx 1 0,qi 2 0]
def W9 :=[qf 3 2 1,ql 4 1 3,qm 2 4]
def o7:Abs.Fn:=⟨1,[.t 2],sR [1] W8 (sR [2] W9 .ret)⟩
attribute [simp] W8 W9
def ao3 :=[qi 4 0]
def ao4 :=[qm 6 0,qe 7 6,qi 8 0]
def ao5 :=[qk 9 .lss 8 7]
def ao6 :=[qm 10 8,qm 5 10]
def ao7 :=[qm 11 1,qm 12 0,qm 13 5,qj 14 10 12 13,qa 15 10 14,qo 16 (.call false (.t 11) [(.t 15)])]
def ao8 :=[qm 17 5,qm 4 17]
def ao9 :=[qn 18 .add 8 1,qm 8 18]
def tE:Abs.cH:=sR [0,1,7,8,9] ao5 (.seq (.ite (.t 9) .dJ (.exit 0)) (.seq (.bO 1 (sR [0,1,5,7,8] ao6 (sR [0,1,5,7,8,16] ao7 (.ite (.t 16) (sR [4] ao8 .ret) .dJ)))) (.cc [0,1,7,8] ao9)))
def apa :=[qi 4 (-1)]
def jv:Abs.Fn:=⟨2,[.t 4],sR [0,1] ao3 (sL [0,1,7,8] ao4 0 [0,1,7,8] false tE (sR [4] apa .ret))⟩
def apb :=[qi 4 0]
def apd :=[qm 6 0,qe 7 6,qi 8 0]
def apf :=[qk 9 .lss 8 7]
def apg :=[qm 10 8,qm 5 10]
def aph :=[qm 11 1,qm 12 0,qm 13 5,qj 14 2 12 13,qa 15 2 14,qo 16 (.call false (.t 11) [(.t 15)])]
def api :=[qm 17 5,qm 4 17]
def apj :=[qn 18 .add 8 1,qm 8 18]
def sW:Abs.cH:=sR [0,1,7,8,9] apf (.seq (.ite (.t 9) .dJ (.exit 0)) (.seq (.bO 1 (sR [0,1,5,7,8] apg (sR [0,1,5,7,8,16] aph (.ite (.t 16) (sR [4] api .ret) .dJ)))) (.cc [0,1,7,8] apj)))
def apk :=[qi 4 (-1)]
def jc:Abs.Fn:=⟨2,[.t 4],sR [0,1] apb (sL [0,1,7,8] apd 0 [0,1,7,8] false sW (sR [4] apk .ret))⟩
def apl :=[qx 3 1,qb 4 false]
def apm :=[qm 5 0,qo 6 (.yq po [] [(.t 3)]),qc 7 bZ [5,6],qu 8 7,qm 4 8]
def uZ:Abs.Fn:=⟨2,[.t 4],sR [0,3] apl (sR [4] apm .ret)⟩
def Xa :=[qb 2 false]
def Xb :=[qm 3 0,qo 4 (.call false (.c (.fn ch [] [])) [(.t 3),(.c (.int .i64 (-20000))),(.c (.int .i64 20000))]),qm 2 4]
def lG:Abs.Fn:=⟨1,[.t 2],sR [0] Xa (sR [2] Xb .ret)⟩
attribute [simp] Xa Xb
def Xc :=[qb 2 false]
def Xd :=[qm 3 0,qo 4 (.call false (.c (.fn cj [] [])) [(.t 3),(.c (.int .i64 (-100000))),(.c (.int .i64 100000))]),qm 2 4]
def oW:Abs.Fn:=⟨1,[.t 2],sR [0] Xc (sR [2] Xd .ret)⟩
attribute [simp] Xc Xd
def Xe :=[qx 2 0,qi 4 0]
def Xf :=[qa 5 11 2,qo 6 (.call false (.c (.fn ez [] [])) [(.t 5),(.c (.int .i64 2))]),qm 7 1,qj 8 1 6 7,ql 9 1 8,qm 4 9]
def pj:Abs.Fn:=⟨2,[.t 4],sR [1,2] Xe (sR [4] Xf .ret)⟩
attribute [simp] Xe Xf
def Xg :=[qo 2 (.pI 3)]
def Xh :=[qm 3 0,qo 4 (.Sf false false (.t 3))]
def Xi :=[qo 2 (.pI 3)]
def Xj :=[qo 5 (.KX 0 3 [] []),qm 6 0,qy 7 3 24 5 6,qm 2 7]
def dI:Abs.Fn:=⟨1,[.t 2],sR [0] Xg (sE [0,4] Xh 4 [2] Xi (sR [2] Xj .ret))⟩
attribute [simp] Xg Xh Xi Xj
def Xk :=[qx 2 0,qx 3 1,qo 4 (.mv (.c .undef))]
def Xl :=[qo 11 (.mp (.make) []),qo 5 (.H6 [] [.undef]),qt 1 5 11]
def Xm :=[qa 12 11 2,ql 13 1 3,qc 14 gW [12,13],qo 6 (.H6 [] [.aG]),qt 1 6 14]
def Xn :=[qf 15 0 2,qa 16 9 15,qc 17 ow [16]]
def Xo :=[qo 7 (.ek [] [zI,zI]),qs 7 2 7 18]
def Xp :=[qL 19 1 6,qF 20 0 7,qV 21 7 1 20,qJ 22 1 19 21,qL 23 1 22,qA 24 11 2,qF 25 0 7,qV 26 7 1 25,qC 27 fF [24,26],qK 28 .sub 23 27,qL 29 1 6,qF 30 1 7,qV 31 7 1 30,qJ 32 1 29 31,qL 33 1 32,qK 34 .sub 28 33,qA 35 11 2,qF 36 1 7,qV 37 7 1 36,qC 38 fF [35,37],qk 39 .add 34 38,qm 8 39]
def Xq :=[qm 40 8,qn 41 .lss 40 0]
def Xr :=[qf 42 1 7,qv 43 7 1 42,qf 44 0 7,qv 45 7 1 44,qo 46 (.lh [zI,zI] [(0,1,(.t 43)),(1,1,(.t 45))]),qm 47 8,qo 48 (.un .neg (.t 47)),qs 7 2 7 46,qm 8 48]
def Xt :=[qA 49 11 2,qF 50 0 7,qV 51 7 1 50,qC 52 jI [49,51],qA 53 11 2,qF 54 1 7,qV 55 7 1 54,qc 56 jI [53,55],qo 57 (.mn (.t 52) (.t 56)),qm 9 57]
def Xu :=[qm 58 9,qm 59 8,qk 60 .mul 58 59,qn 61 .quo 60 1000,ql 62 1 3,qf 63 0 7,qv 64 7 1 63,qj 65 3 62 64,qf 66 0 65,ql 67 1 66,qn 68 .quo 67 8,qo 69 (.mn (.t 61) (.t 68)),qm 10 69]
def OS :=[qm 70 10,qn 71 .gtr 70 0]
def OT :=[qL 72 1 5,qW 73 7 2 7,qL 74 1 3,qF 75 0 7,qV 76 7 1 75,qJ 77 3 74 76,qA 78 3 77,qM 79 10,qC 80 lS [78,79],⟨none,none,false,.mp (.put (some (true,[some .i64,some .i64]))) [(.t 72),(.t 73),(.t 80)]⟩]
def kA:Abs.cH:=.cc [2,3,5,6,7] Xo
def dO:Abs.cH:=.bO 1 (sR [2,3,5,7,8] Xp (sI [2,3,5,7,8,41] Xq 41 (.cc [2,3,5,7,8] Xr) .dJ (sR [3,5,7,8,9] Xt (sR [3,5,7,10] Xu (sR [3,5,7,10,71] OS (.ite (.t 71) (.cc [] OT) .dJ))))))
def OU :=[ql 81 1 5,qm 4 81]
def Cy:uD:=an7 [(12,[4]),(11,[]),(10,[3,5,7,10,71]),(9,[3,5,7,10]),(8,[3,5,7,8,9]),(7,[2,3,5,7,8]),(6,[2,3,5,7,8,41]),(5,[2,3,5,7,8]),(4,[2,3,5,6,7]),(3,[2,3,4,5,6,17]),(2,[2,3,4,5,6]),(1,[2,3,4,5]),(0,[2,3,4])] [(0,[2,3,4,5,6])] [] [5,6,7] [7] [] []
def n8:Abs.Fn:=⟨2,[.t 4],sR [2,3,4] Xk (sR [2,3,4,5] Xl (sR [2,3,4,5,6] Xm (.seq (sR [2,3,4,5,6,17] Xn (.bO 0 (.Kb [2,3,4,5,6] (.t 17) [18] kA dO))) (sR [4] OU .ret))))⟩
attribute [simp] Xk Xl Xm Xn Xo Xp Xq Xr Xt Xu OS OT OU
def Xv :=[qx 4 1]
def Xw :=[qM 6 0,qO 7 (.mG (.t 6)),qF 8 0 7,qL 9 1 8,qM 10 2,qF 11 0 4,qL 12 1 11,qK 13 .mul 10 12,qk 14 .add 9 13,qo 15 (.mG (.t 6)),qf 16 0 15,qt 1 16 14]
def Xx :=[qM 17 0,qO 18 (.mG (.t 17)),qF 19 1 18,qL 20 1 19,qM 21 2,qF 22 1 4,qL 23 1 22,qK 24 .mul 21 23,qk 25 .add 20 24,qo 26 (.mG (.t 17)),qf 27 1 26,qt 1 27 25]
def Xy :=[qM 28 0,qO 29 (.mG (.t 28)),qF 30 2 29,qL 31 1 30,qM 32 2,qF 33 2 4,qL 34 1 33,qK 35 .mul 32 34,qk 36 .add 31 35,qo 37 (.mG (.t 28)),qf 38 2 37,qt 1 38 36]
def qB:Abs.Fn:=⟨3,[],sR [0,2,4] Xv (sR [0,2,4] Xw (sR [0,2,4] Xx (.cc [] Xy)))⟩
attribute [simp] Xv Xw Xx Xy
def Xz :=[qx 2 0,qo 4 (.ek [] [zI,zI,zI])]
def XA :=[qm 5 1,qo 6 (.un .neg (.t 5)),qm 7 1,qo 8 (.un .neg (.t 7)),qf 9 1 2,ql 10 1 9,qk 11 .mul 8 10,qm 12 1,qo 13 (.un .neg (.t 12)),qf 14 2 2,ql 15 1 14,qk 16 .mul 13 15,qo 17 (.lh [zI,zI,zI] [(0,1,(.t 6)),(1,1,(.t 11)),(2,1,(.t 16))]),qs 4 3 4 17]
def qD:Abs.Fn:=⟨2,[.v 4 true 3],sR [1,2,4] Xz (sR [4] XA .ret)⟩
attribute [simp] Xz XA
def XB :=[qx 2 0,qo 4 (.ek [] [zI,zI,zI])]
def XC :=[qM 5 1,qF 6 1 2,qL 7 1 6,qM 8 1,qK 9 .mul 7 8,qF 10 0 2,qL 11 1 10,qK 12 .quo 9 11,qF 13 2 2,qL 14 1 13,qM 15 1,qK 16 .mul 14 15,qF 17 0 2,qL 18 1 17,qK 19 .quo 16 18,qo 20 (.lh [zI,zI,zI] [(0,1,(.t 5)),(1,1,(.t 12)),(2,1,(.t 19))]),qs 4 3 4 20]
def rO:Abs.Fn:=⟨2,[.v 4 true 3],sR [1,2,4] XB (sR [4] XC .ret)⟩
attribute [simp] XB XC
def XD :=[qx 2 0,qo 4 (.ek [] [zI,zI,zI])]
def XE :=[qA 5 11 2,qM 6 1,qC 7 jG [5,6],qA 8 11 2,qM 9 1,qC 10 jG [8,9],qF 11 0 2,qF 12 7 11,qL 13 1 12,qk 14 .mul 10 13,qo 15 (.lh [zI,zI,zI] [(0,1,(.t 7)),(1,1,(.t 14))]),qs 4 3 4 15]
def qQ:Abs.Fn:=⟨2,[.v 4 true 3],sR [1,2,4] XD (sR [4] XE .ret)⟩
attribute [simp] XD XE
def XF :=[qx 2 0,qb 4 false]
def XG :=[qm 5 1,qe 6 5,qf 7 0 2,qa 8 9 7,qc 9 dk [8],qk 10 .eql 6 9,qm 11 10,qg 11 true (qm 12 1),qg 11 true (qo 13 (.call false (.c (.fn mC [] [])) [(.t 12),(.c (.fn jE [] []))])),qp 14 11 13,qm 4 14]
def n9:Abs.Fn:=⟨2,[.t 4],sR [1,2] XF (sR [4] XG .ret)⟩
attribute [simp] XF XG
def apt :=[qb 4 false]
def apu :=[qm 5 0,qm 6 1,qc 7 gJ [5,6],qn 8 .geq 7 0,qm 4 8]
def nL:Abs.Fn:=⟨2,[.t 4],sR [0,1] apt (sR [4] apu .ret)⟩
def apv :=[qx 2 0,qb 3 false]
def apw :=[ql 4 1 1,qa 5 5 2,qo 6 (.call false (.t 4) [(.t 5)]),qu 7 6,qm 3 7]
def tu:Abs.Fn:=⟨2,[.t 3],sR [1,2] apv (sR [3] apw .ret)⟩
def apx :=[qb 4 false]
def apy :=[qm 5 0,qm 6 1,qc 7 gl [5,6],qn 8 .geq 7 0,qm 4 8]
def nf:Abs.Fn:=⟨2,[.t 4],sR [0,1] apx (sR [4] apy .ret)⟩
def apA :=[qx 2 0,qb 3 false]
def apB :=[ql 4 1 1,qa 5 2 2,qo 6 (.call false (.t 4) [(.t 5)]),qu 7 6,qm 3 7]
def sk:Abs.Fn:=⟨2,[.t 3],sR [1,2] apA (sR [3] apB .ret)⟩
def apC :=[qb 4 false]
def apD :=[qm 5 0,qm 6 1,qc 7 fp [5,6],qn 8 .geq 7 0,qm 4 8]
def lW:Abs.Fn:=⟨2,[.t 4],sR [0,1] apC (sR [4] apD .ret)⟩
def apE :=[qx 2 0,qb 3 false]
def apF :=[ql 4 1 1,qa 5 4 2,qo 6 (.call false (.t 4) [(.t 5)]),qu 7 6,qm 3 7]
def rp:Abs.Fn:=⟨2,[.t 3],sR [1,2] apE (sR [3] apF .ret)⟩
def XH :=[qf 7 1 1,ql 8 1 7,qe 9 8,qi 10 0]
def XI :=[qk 11 .lss 10 9]
def XJ :=[qj 12 2 8 10,qa 13 2 12,qo 5 (.ek [] [zI,zI]),qs 5 2 5 13]
def XK :=[ql 14 1 2,qf 15 0 5,qv 16 5 1 15,qo 17 (.mn (.t 14) (.t 16)),qm 6 17]
def XL :=[qm 18 0,qw 19 5 2 5,qm 20 6,qo 21 (.call false (.t 18) [(.t 19),(.t 20)]),qu 22 21]
def XM :=[ql 23 1 2,qm 24 6,qk 25 .sub 23 24,qt 1 2 25]
def XN :=[qn 26 .add 10 1,qm 10 26]
def lA:Abs.cH:=sR [0,2,8,9,10,11] XI (.seq (.ite (.t 11) .dJ (.exit 0)) (.seq (.bO 1 (sR [0,2,5,8,9,10] XJ (sR [0,2,5,6,8,9,10] XK (sI [0,2,6,8,9,10,22] XL 22 .ret .dJ (.cc [0,2,8,9,10] XM))))) (.cc [0,2,8,9,10] XN)))
def nW:Abs.Fn:=⟨3,[],sR [0,2,8,9,10] XH (.bO 0 (.loop [0,2,8,9,10] false lA))⟩
attribute [simp] XH XI XJ XK XL XM XN
def apG :=[qi 2 0]
def apH :=[qi 3 1]
def apI :=[qm 6 0,qo 7 (.me (.s2b) [(.t 6)]),qe 8 7,qi 9 0]
def apJ :=[qk 10 .lss 9 8]
def apK :=[qj 11 1 7 9,ql 12 1 11,qm 5 12]
def apL :=[qm 13 3,qo 14 (.bin .mul (.c (.int .i64 31)) (.t 13)),qm 15 5,qo 16 (.JG .i64 (.t 15)),qk 17 .add 14 16,qn 18 .rem 17 65521,qm 3 18]
def apM :=[qn 19 .add 9 1,qm 9 19]
def EO:Abs.cH:=sR [3,7,8,9,10] apJ (.seq (.ite (.t 10) .dJ (.exit 0)) (.seq (.bO 1 (sR [3,5,7,8,9] apK (.cc [3,7,8,9] apL))) (.cc [3,7,8,9] apM)))
def apN :=[qm 20 3,qm 2 20]
def CK:Abs.Fn:=⟨1,[.t 2],sR [0] apG (sR [0,3] apH (sL [3,7,8,9] apI 0 [3,7,8,9] false EO (sR [2] apN .ret)))⟩
def XO :=[qo 0 (.mv (.c .undef))]
def XP :=[qo 1 (.mp (.make) []),qo 2 (.lh [(.bool false),zI,zI,.iX] [(0,1,(.c (.bool false))),(1,1,(.c (.int .i64 4))),(2,1,(.c zI)),(3,1,(.c (.fn fx [] [])))]),⟨none,none,false,.mp (.put none) [(.t 1),(.c (.str [102,105,101,108,100])),(.t 2)]⟩,qo 3 (.lh [(.bool false),zI,zI,.iX] [(0,1,(.c (.bool false))),(1,1,(.c zI)),(2,1,(.c (.int .i64 5))),(3,1,(.c (.fn fC [] [])))]),⟨none,none,false,.mp (.put none) [(.t 1),(.c (.str [116,97,98,108,101])),(.t 3)]⟩,qo 4 (.lh [(.bool false),zI,zI,.iX] [(0,1,(.c (.bool false))),(1,1,(.c (.int .i64 3))),(2,1,(.c zI)),(3,1,(.c (.fn gO [] [])))]),⟨none,none,false,.mp (.put none) [(.t 1),(.c (.str [98,101,100])),(.t 4)]⟩,qo 5 (.lh [(.bool false),zI,zI,.iX] [(0,1,(.c (.bool false))),(1,1,(.c (.int .i64 3))),(2,1,(.c zI)),(3,1,(.c (.fn gk [] [])))]),⟨none,none,false,.mp (.put none) [(.t 1),(.c (.str [119,101,108,108])),(.t 5)]⟩,qo 6 (.lh [(.bool false),zI,zI,.iX] [(0,1,(.c (.bool true))),(1,1,(.c zI)),(2,1,(.c (.int .i64 1))),(3,1,(.c (.fn fA [] [])))]),⟨none,none,false,.mp (.put none) [(.t 1),(.c (.str [109,111,100,101,108])),(.t 6)]⟩,qo 7 (.lh [(.bool false),zI,zI,.iX] [(0,1,(.c (.bool true))),(1,1,(.c (.int .i64 3))),(2,1,(.c (.int .i64 2))),(3,1,(.c (.fn gP [] [])))]),⟨none,none,false,.mp (.put none) [(.t 1),(.c (.str [108,111,103])),(.t 7)]⟩,qo 8 (.lh [(.bool false),zI,zI,.iX] [(0,1,(.c (.bool false))),(1,1,(.c (.int .i64 10))),(2,1,(.c zI)),(3,1,(.c (.fn gg [] [])))]),⟨none,none,false,.mp (.put none) [(.t 1),(.c (.str [114,117,108,101])),(.t 8)]⟩,qo 9 (.lh [(.bool false),zI,zI,.iX] [(0,1,(.c (.bool false))),(1,1,(.c (.int .i64 3))),(2,1,(.c zI)),(3,1,(.c (.fn ga [] [])))]),⟨none,none,false,.mp (.put none) [(.t 1),(.c (.str [107,101,101,112])),(.t 9)]⟩,qo 10 (.lh [(.bool false),zI,zI,.iX] [(0,1,(.c (.bool false))),(1,1,(.c zI)),(2,1,(.c (.int .i64 4))),(3,1,(.c (.fn fB [] [])))]),⟨none,none,false,.mp (.put none) [(.t 1),(.c (.str [113,117,97,107,101])),(.t 10)]⟩,qo 11 (.lh [(.bool false),zI,zI,.iX] [(0,1,(.c (.bool false))),(1,1,(.c zI)),(2,1,(.c (.int .i64 1))),(3,1,(.c (.fn gi [] [])))]),⟨none,none,false,.mp (.put none) [(.t 1),(.c (.str [116,105,99,107])),(.t 11)]⟩,qo 12 (.lh [(.bool false),zI,zI,.iX] [(0,1,(.c (.bool false))),(1,1,(.c (.int .i64 4))),(2,1,(.c zI)),(3,1,(.c (.fn gf [] [])))]),⟨none,none,false,.mp (.put none) [(.t 1),(.c (.str [114,101,97,100])),(.t 12)]⟩,qo 13 (.lh [(.bool false),zI,zI,.iX] [(0,1,(.c (.bool false))),(1,1,(.c (.int .i64 1))),(2,1,(.c (.int .i64 2))),(3,1,(.c (.fn gj [] [])))]),⟨none,none,false,.mp (.put none) [(.t 1),(.c (.str [117,110,105,116])),(.t 13)]⟩,qo 14 (.lh [(.bool false),zI,zI,.iX] [(0,1,(.c (.bool false))),(1,1,(.c (.int .i64 4))),(2,1,(.c zI)),(3,1,(.c (.fn gh [] [])))]),⟨none,none,false,.mp (.put none) [(.t 1),(.c (.str [115,101,108,108])),(.t 14)]⟩,qm 15 1,qm 0 15]
def sJ:Abs.Fn:=⟨0,[.t 0],sR [] XO (sR [0] XP .ret)⟩
attribute [simp] XO XP
def XQ :=[qm 4 0,qu 5 4]
def XR :=[qm 6 1,qo 7 (.lh [zI] [(0,1,(.t 6))]),qo 8 (.mki 311 (.t 7))]
def XS:List Abs.Op:=[]
def sj:Abs.Fn:=⟨2,[],sR [1,5] XQ (.ite (.t 5) (.iO [] XR ⟨none,none,false,.Mw (.t 8)⟩ XS) .dJ)⟩
attribute [simp] XQ XR XS
def XT :=[qi 2 0]
def XU :=[qm 6 0,qc 7 iJ [6],qm 5 7,qz 8 5 0,qz 9 5 1,qm 3 8,qm 4 9]
def XV :=[qm 10 4,qo 11 (.isi false (.t 10)),qm 12 11,qg 12 true (qm 13 3),qg 12 true (qc 14 eG [13]),qg 12 true (qm 15 0),qg 12 true (qo 16 (.rj (.seq false) [(.t 14),(.t 15)])),qp 17 12 16,qm 18 17,qg 18 true (qm 19 3),qg 18 true (qo 20 (.call false (.c (.fn cA [] [])) [(.t 19),(.c (.int .i64 (-999999999))),(.c (.int .i64 999999999))])),qp 21 18 20]
def XW:List Abs.Op:=[]
def XX :=[qm 23 3,qm 2 23]
def oo:Abs.Fn:=⟨1,[.t 2],sR [0] XT (sR [0,3,4] XU (.seq (.iO [3] XV ⟨some 22,none,false,.call false (.c (.fn bd [] [])) [(.t 21),(.c (.int .i64 4))]⟩ XW) (sR [2] XX .ret)))⟩
attribute [simp] XT XU XV XW XX
def ap0 :=[qi 4 0]
def ap1 :=[qm 6 0,qe 7 6,qi 8 0]
def ap2 :=[qk 9 .lss 8 7]
def ap3 :=[qm 10 8,qm 5 10]
def ap4 :=[qm 11 1,qm 12 0,qm 13 5,qj 14 1 12 13,ql 15 1 14,qo 16 (.call false (.t 11) [(.t 15)])]
def ap5 :=[qm 17 5,qm 4 17]
def ap6 :=[qn 18 .add 8 1,qm 8 18]
def xO:Abs.cH:=sR [0,1,7,8,9] ap2 (.seq (.ite (.t 9) .dJ (.exit 0)) (.seq (.bO 1 (sR [0,1,5,7,8] ap3 (sR [0,1,5,7,8,16] ap4 (.ite (.t 16) (sR [4] ap5 .ret) .dJ)))) (.cc [0,1,7,8] ap6)))
def ap7 :=[qi 4 (-1)]
def pk:Abs.Fn:=⟨2,[.t 4],sR [0,1] ap0 (sL [0,1,7,8] ap1 0 [0,1,7,8] false xO (sR [4] ap7 .ret))⟩
def ap8 :=[qb 4 false]
def ap9 :=[qm 5 0,qm 6 1,qc 7 gI [5,6],qn 8 .geq 7 0,qm 4 8]
def nK:Abs.Fn:=⟨2,[.t 4],sR [0,1] ap8 (sR [4] ap9 .ret)⟩
def aqa :=[qx 2 0,qb 3 false]
def aqb :=[ql 4 1 1,qa 5 3 2,qo 6 (.call false (.t 4) [(.t 5)]),qu 7 6,qm 3 7]
def tW:Abs.Fn:=⟨2,[.t 3],sR [1,2] aqa (sR [3] aqb .ret)⟩
def XY :=[qi 4 0]
def XZ :=[qo 10 (.mp (.make) []),qm 5 10]
def X2 :=[qm 11 0,qe 12 11,qi 13 0]
def X3 :=[qk 14 .lss 13 12]
def X4 :=[qj 15 2 11 13,qa 16 2 15,qo 7 (.ek [] [(.str []),.aG]),qs 7 2 7 16]
def X7 :=[qm 18 1,qw 19 7 2 7,qo 20 (.call false (.t 18) [(.t 19)]),qm 17 20,qz 21 17 0,qz 22 17 1,qm 8 21,qm 9 22]
def X8 :=[qm 23 9,qn 24 .neq 23 0]
def X9 :=[qm 25 9,qm 4 25]
def Ya :=[qm 26 5,qm 27 8,qo 28 (.mp (.get none (.bool false) false) [(.t 26),(.t 27)])]
def Yb :=[qi 4 6]
def OV :=[qm 29 5,qm 30 8,⟨none,none,false,.mp (.put none) [(.t 29),(.t 30),(.c (.bool true))]⟩]
def OW :=[qn 31 .add 13 1,qm 13 31]
def gG:Abs.cH:=sR [1,5,11,12,13,14] X3 (.seq (.ite (.t 14) .dJ (.exit 0)) (.seq (.bO 1 (sR [1,5,7,11,12,13] X4 (sR [1,5,8,9,11,12,13] X7 (sE [1,5,8,9,11,12,13,24] X8 24 [4] X9 (sE [1,5,8,11,12,13,28] Ya 28 [4] Yb (.cc [1,5,11,12,13] OV)))))) (.cc [1,5,11,12,13] OW)))
def OX :=[qi 4 0]
def jR:Abs.Fn:=⟨2,[.t 4],sR [0,1] XY (sR [0,1,5] XZ (sL [1,5,11,12,13] X2 0 [1,5,11,12,13] false gG (sR [4] OX .ret)))⟩
attribute [simp] XY XZ X2 X3 X4 X7 X8 X9 Ya Yb OV OW OX
def Yc :=[qx 2 0,qo 3 (.mv (.c (.str []))),qi 4 0]
def Yd :=[qF 5 0 2,qL 6 1 5,qA 7 4 1,qA 8 2 2,qC 9 iS [7,8],qm 3 6,qm 4 9]
def lk:Abs.Fn:=⟨2,[.t 3,.t 4],sR [1,2] Yc (sR [3,4] Yd .ret)⟩
attribute [simp] Yc Yd
def aqc :=[qi 4 0]
def aqd :=[qm 6 0,qe 7 6,qi 8 0]
def aqe :=[qk 9 .lss 8 7]
def aqf :=[qm 10 8,qm 5 10]
def aqg :=[qm 11 1,qm 12 0,qm 13 5,qj 14 2 12 13,qa 15 2 14,qo 16 (.call false (.t 11) [(.t 15)])]
def aqh :=[qm 17 5,qm 4 17]
def aqi :=[qn 18 .add 8 1,qm 8 18]
def tD:Abs.cH:=sR [0,1,7,8,9] aqe (.seq (.ite (.t 9) .dJ (.exit 0)) (.seq (.bO 1 (sR [0,1,5,7,8] aqf (sR [0,1,5,7,8,16] aqg (.ite (.t 16) (sR [4] aqh .ret) .dJ)))) (.cc [0,1,7,8] aqi)))
def aqj :=[qi 4 (-1)]
def ot:Abs.Fn:=⟨2,[.t 4],sR [0,1] aqc (sL [0,1,7,8] aqd 0 [0,1,7,8] false tD (sR [4] aqj .ret))⟩
def aqk :=[qb 3 false]
def aql :=[ql 4 1 1,qm 5 0,qo 6 (.call false (.t 4) [(.t 5)]),qu 7 6,qm 3 7]
def zo:Abs.Fn:=⟨2,[.t 3],sR [0,1] aqk (sR [3] aql .ret)⟩
def aqm :=[qb 3 false]
def aqn :=[ql 4 1 1,qm 5 0,qo 6 (.call false (.t 4) [(.t 5)]),qu 7 6,qm 3 7]
def sX:Abs.Fn:=⟨2,[.t 3],sR [0,1] aqm (sR [3] aqn .ret)⟩
def Ye :=[qx 2 0,qo 4 (.pI 1)]
def Yf :=[qm 6 1,qe 7 6,qi 8 0]
def Yg :=[qk 9 .lss 8 7]
def Yh :=[qm 10 8,qm 5 10]
def Yi :=[qm 11 4,qa 12 11 2,qm 13 1,qm 14 5,qc 15 fO [12,13,14],qo 16 (.tH 1 1 [zI] [(0,1,(.t 15))]),qy 17 1 8 11 16,qm 4 17]
def Yj :=[qn 18 .add 8 1,qm 8 18]
def iA:Abs.cH:=sR [1,2,4,7,8,9] Yg (.seq (.ite (.t 9) .dJ (.exit 0)) (.seq (.bO 1 (sR [1,2,4,5,7,8] Yh (.cc [1,2,4,7,8] Yi))) (.cc [1,2,4,7,8] Yj)))
def Yk :=[qm 19 4,qm 4 19]
def kB:Abs.Fn:=⟨2,[.t 4],sR [1,2,4] Ye (sL [1,2,4,7,8] Yf 0 [1,2,4,7,8] false iA (sR [4] Yk .ret))⟩
attribute [simp] Ye Yf Yg Yh Yi Yj Yk
def Yl :=[qx 1 0,qo 2 (.mv (.c .iX))]
def Ym :=[qo 3 (.yq jB [] [(.t 1)]),qm 2 3]
def rL:Abs.Fn:=⟨1,[.t 2],sR [1] Yl (sR [2] Ym .ret)⟩
attribute [simp] Yl Ym
def Yn :=[qx 2 0,qi 4 0]
def Yo :=[qa 5 11 2,qo 6 (.call false (.c (.fn ez [] [])) [(.t 5),(.c (.int .i64 1))]),qm 7 1,qj 8 1 6 7,ql 9 1 8,qm 4 9]
def pf:Abs.Fn:=⟨2,[.t 4],sR [1,2] Yn (sR [4] Yo .ret)⟩
attribute [simp] Yn Yo
def Yp :=[qx 2 0,qi 4 0]
def Yq :=[qa 5 11 2,qo 6 (.call false (.c (.fn ez [] [])) [(.t 5),(.c (.int .i64 3))]),qm 7 1,qj 8 1 6 7,ql 9 1 8,qm 4 9]
def o8:Abs.Fn:=⟨2,[.t 4],sR [1,2] Yp (sR [4] Yq .ret)⟩
attribute [simp] Yp Yq
def aqo :=[qx 3 1,qb 4 false]
def aqp :=[qm 5 0,qo 6 (.yq kF [] [(.t 3)]),qc 7 fe [5,6],qu 8 7,qm 4 8]
def uL:Abs.Fn:=⟨2,[.t 4],sR [0,3] aqo (sR [4] aqp .ret)⟩
def Yr :=[qx 1 0,qb 2 false]
def Yt :=[qf 3 0 1,ql 4 1 3,qo 5 (.call false (.c (.fn cj [] [])) [(.t 4),(.c (.int .i64 1)),(.c (.int .i64 1000000))]),qm 6 5,qg 6 true (qf 7 1 1),qg 6 true (ql 8 1 7),qg 6 true (qo 9 (.call false (.c (.fn cj [] [])) [(.t 8),(.c zI),(.c (.int .i64 10000000000))])),qp 10 6 9,qm 11 10,qg 11 true (qf 12 2 1),qg 11 true (ql 13 1 12),qg 11 true (qo 14 (.call false (.c (.fn cj [] [])) [(.t 13),(.c zI),(.c (.int .i64 1000000000000))])),qp 15 11 14,qm 2 15]
def oZ:Abs.Fn:=⟨1,[.t 2],sR [1] Yr (sR [2] Yt .ret)⟩
attribute [simp] Yr Yt
def aqq :=[qi 4 0]
def aqr :=[qm 6 0,qe 7 6,qi 8 0]
def aqs :=[qk 9 .lss 8 7]
def aqt :=[qm 10 8,qm 5 10]
def aqu :=[qm 11 1,qm 12 0,qm 13 5,qj 14 5 12 13,qa 15 5 14,qo 16 (.call false (.t 11) [(.t 15)])]
def aqv :=[qm 17 5,qm 4 17]
def aqw :=[qn 18 .add 8 1,qm 8 18]
def uG:Abs.cH:=sR [0,1,7,8,9] aqs (.seq (.ite (.t 9) .dJ (.exit 0)) (.seq (.bO 1 (sR [0,1,5,7,8] aqt (sR [0,1,5,7,8,16] aqu (.ite (.t 16) (sR [4] aqv .ret) .dJ)))) (.cc [0,1,7,8] aqw)))
def aqx :=[qi 4 (-1)]
def pB:Abs.Fn:=⟨2,[.t 4],sR [0,1] aqq (sL [0,1,7,8] aqr 0 [0,1,7,8] false uG (sR [4] aqx .ret))⟩
def aqy :=[qi 4 0]
def aqz :=[qm 6 0,qe 7 6,qi 8 0]
def aqA :=[qk 9 .lss 8 7]
def aqB :=[qm 10 8,qm 5 10]
def aqC :=[qm 11 1,qm 12 0,qm 13 5,qj 14 2 12 13,qa 15 2 14,qo 16 (.call false (.t 11) [(.t 15)])]
def aqD :=[qm 17 5,qm 4 17]
def aqE :=[qn 18 .add 8 1,qm 8 18]
def tZ:Abs.cH:=sR [0,1,7,8,9] aqA (.seq (.ite (.t 9) .dJ (.exit 0)) (.seq (.bO 1 (sR [0,1,5,7,8] aqB (sR [0,1,5,7,8,16] aqC (.ite (.t 16) (sR [4] aqD .ret) .dJ)))) (.cc [0,1,7,8] aqE)))
def aqF :=[qi 4 (-1)]
def oK:Abs.Fn:=⟨2,[.t 4],sR [0,1] aqy (sL [0,1,7,8] aqz 0 [0,1,7,8] false tZ (sR [4] aqF .ret))⟩
def aqG :=[qi 4 0]
def aqH :=[qm 6 0,qe 7 6,qi 8 0]
def aqI :=[qk 9 .lss 8 7]
def aqJ :=[qm 10 8,qm 5 10]
def aqK :=[qm 11 1,qm 12 0,qm 13 5,qj 14 4 12 13,qa 15 4 14,qo 16 (.call false (.t 11) [(.t 15)])]
def aqL :=[qm 17 5,qm 4 17]
def aqM :=[qn 18 .add 8 1,qm 8 18]
def sV:Abs.cH:=sR [0,1,7,8,9] aqI (.seq (.ite (.t 9) .dJ (.exit 0)) (.seq (.bO 1 (sR [0,1,5,7,8] aqJ (sR [0,1,5,7,8,16] aqK (.ite (.t 16) (sR [4] aqL .ret) .dJ)))) (.cc [0,1,7,8] aqM)))
def aqN :=[qi 4 (-1)]
def nM:Abs.Fn:=⟨2,[.t 4],sR [0,1] aqG (sL [0,1,7,8] aqH 0 [0,1,7,8] false sV (sR [4] aqN .ret))⟩
def Yu :=[qm 7 0,qo 8 (.mG (.t 7)),qf 9 0 8,qf 10 0 9,qf 11 0 10,qa 12 4 11,qo 13 (.lh [zI,zI,zI,zI] []),qo 14 (.eqv true [some .i64,some .i64,some .i64,some .i64] false (.t 12) (.t 13))]
def Yw:List Abs.Op:=[]
def Yx :=[qM 16 2,qO 17 (.dT 1 (.t 16) (.c zI)),qL 18 1 17,qM 19 2,qO 20 (.dT 1 (.t 19) (.c (.int .i64 1))),qL 21 1 20,qM 22 2,qO 23 (.dT 1 (.t 22) (.c (.int .i64 2))),qL 24 1 23,qM 25 2,qO 26 (.dT 1 (.t 25) (.c (.int .i64 3))),qL 27 1 26,qO 28 (.lh [zI,zI,zI,zI] [(0,1,(.t 18)),(1,1,(.t 21)),(2,1,(.t 24)),(3,1,(.t 27))]),qO 6 (.ek [] [zI,zI,zI,zI]),qs 6 4 6 28]
def Yy :=[qw 29 6 4 6,qc 30 jy [29],qn 31 .eql 30 0,qm 32 31,qg 32 true (qf 33 3 6),qg 32 true (qv 34 6 1 33),qg 32 true (qn 35 .geq 34 4),qp 36 32 35]
def Yz:List Abs.Op:=[]
def YA :=[qm 38 0,qw 39 6 4 6,qo 40 (.mG (.t 38)),qf 41 0 40,qf 42 0 41,qf 43 0 42,qt 4 43 39]
def j4:Abs.Fn:=⟨3,[],.seq (.iO [0,2] Yu ⟨some 15,none,false,.call false (.c (.fn bd [] [])) [(.t 14),(.c (.int .i64 8))]⟩ Yw) (sR [0,6] Yx (.seq (.iO [0,6] Yy ⟨some 37,none,false,.call false (.c (.fn bd [] [])) [(.t 36),(.c (.int .i64 1))]⟩ Yz) (.cc [] YA)))⟩
attribute [simp] Yu Yw Yx Yy Yz YA
def YB :=[qm 7 0,qo 8 (.mG (.t 7)),qf 9 0 8,qf 10 0 9,qf 11 4 10,ql 12 1 11,qe 13 12,qn 14 .eql 13 0]
def YC:List Abs.Op:=[]
def YD :=[qo 6 (.pI 5)]
def YE :=[qm 16 2,qe 17 16,qn 18 .gtr 17 0]
def YF :=[qM 21 6,qM 22 2,qO 23 (.dT 1 (.t 22) (.c zI)),qL 24 1 23,qM 25 2,qO 26 (.dT 1 (.t 25) (.c (.int .i64 1))),qL 27 1 26,qM 28 2,qO 29 (.dT 1 (.t 28) (.c (.int .i64 2))),qL 30 1 29,qM 31 2,qO 32 (.dT 1 (.t 31) (.c (.int .i64 3))),qL 33 1 32,qM 34 2,qO 35 (.dT 1 (.t 34) (.c (.int .i64 4))),qL 36 1 35,qO 37 (.lh [zI,zI,zI,zI,zI] [(0,1,(.t 24)),(1,1,(.t 27)),(2,1,(.t 30)),(3,1,(.t 33)),(4,1,(.t 36))]),qO 38 (.tH 1 5 [zI,zI,zI,zI,zI] [(0,5,(.t 37))]),qy 39 5 40 21 38,qm 6 39]
def YG :=[qm 19 2,qo 20 (.Jc 1 (.t 19) (some (.c (.int .i64 5))) none none),qm 2 20]
def kr:Abs.cH:=sI [0,2,6,18] YE 18 .dJ (.exit 0) (.seq (.bO 1 (.cc [0,2,6] YF)) (.cc [0,2,6] YG))
def YH :=[qm 40 6,qc 41 jJ [40]]
def YI:List Abs.Op:=[]
def YJ :=[qm 43 0,qm 44 6,qo 45 (.mG (.t 43)),qf 46 0 45,qf 47 0 46,qf 48 4 47,qt 1 48 44]
def j7:Abs.Fn:=⟨3,[],.seq (.iO [0,2] YB ⟨some 15,none,false,.call false (.c (.fn bd [] [])) [(.t 14),(.c (.int .i64 8))]⟩ YC) (sR [0,2,6] YD (.seq (.bO 0 (.loop [0,2,6] false kr)) (.seq (.seq (.cr [6]) (.iO [0,6] YH ⟨some 42,none,false,.call false (.c (.fn bU [] [])) [(.t 41)]⟩ YI)) (.cc [] YJ))))⟩
attribute [simp] YB YC YD YE YF YG YH YI YJ
def YK :=[qm 7 0,qo 8 (.mG (.t 7)),qf 9 0 8,qf 10 0 9,qf 11 0 10,qa 12 4 11,qo 13 (.lh [zI,zI,zI,zI] []),qo 14 (.eqv true [some .i64,some .i64,some .i64,some .i64] true (.t 12) (.t 13)),qm 15 14,qg 15 true (qm 16 0),qg 15 true (qo 17 (.mG (.t 16))),qg 15 true (qf 18 0 17),qg 15 true (qf 19 0 18),qg 15 true (qf 20 4 19),qg 15 true (ql 21 1 20),qg 15 true (qe 22 21),qg 15 true (qn 23 .gtr 22 0),qp 24 15 23,qm 25 24,qg 25 true (qm 26 0),qg 25 true (qo 27 (.mG (.t 26))),qg 25 true (qf 28 18 27),qg 25 true (ql 29 1 28),qg 25 true (qu 30 29),qp 31 25 30]
def YL:List Abs.Op:=[]
def YM :=[qm 33 0,qo 34 (.mG (.t 33)),qf 35 0 34,qf 36 0 35,qa 37 9 36,qo 6 (.ek [] [zI,zI,zI,zI,.aG,zI,zI,zI,.aG]),qs 6 9 6 37]
def YN :=[qM 38 2,qO 39 (.dT 1 (.t 38) (.c zI)),qL 40 1 39,qM 41 2,qO 42 (.dT 1 (.t 41) (.c (.int .i64 1))),qL 43 1 42,qM 44 2,qO 45 (.dT 1 (.t 44) (.c (.int .i64 2))),qL 46 1 45,qF 47 5 6,qS 6 1 47 40,qF 48 6 6,qS 6 1 48 43,qf 49 7 6,qs 6 1 49 46]
def YO :=[qw 50 6 9 6,qc 51 mS [50]]
def YP:List Abs.Op:=[]
def YQ :=[qm 53 0,qm 54 0,qw 55 6 9 6,qo 56 (.mG (.t 53)),qf 57 0 56,qf 58 0 57,qt 9 58 55,qo 59 (.mG (.t 54)),qf 60 18 59,⟨none,none,false,.st [] 1 (.t 60) (.c (.bool true))⟩]
def lU:Abs.Fn:=⟨3,[],.seq (.iO [0,2] YK ⟨some 32,none,false,.call false (.c (.fn bd [] [])) [(.t 31),(.c (.int .i64 8))]⟩ YL) (sR [0,2,6] YM (sR [0,6] YN (.seq (.iO [0,6] YO ⟨some 52,none,false,.call false (.c (.fn bU [] [])) [(.t 51)]⟩ YP) (.cc [] YQ))))⟩
attribute [simp] YK YL YM YN YO YP YQ
def YR :=[qm 7 0,qo 8 (.mG (.t 7)),qf 9 18 8,ql 10 1 9,qm 11 10,qg 11 true (qm 12 0),qg 11 true (qo 13 (.mG (.t 12))),qg 11 true (qf 14 0 13),qg 11 true (qf 15 9 14),qg 11 true (ql 16 1 15),qg 11 true (qe 17 16),qg 11 true (qn 18 .eql 17 0),qp 19 11 18]
def YS:List Abs.Op:=[]
def YT :=[qm 21 0,qo 22 (.mG (.t 21)),qf 23 0 22,qf 24 0 23,qa 25 9 24,qo 6 (.ek [] [zI,zI,zI,zI,.aG,zI,zI,zI,.aG]),qs 6 9 6 25]
def YU :=[qF 26 8 6,qV 27 6 1 26,qo 28 (.call true (.c (.fn eL [] [])) [(.t 27)]),qM 29 2,qO 30 (.dT 1 (.t 29) (.c zI)),qO 31 (.Qc false 1 (.t 30)),qM 32 2,qO 33 (.dT 1 (.t 32) (.c (.int .i64 1))),qO 34 (.Qc false 1 (.t 33)),qM 35 2,qO 36 (.dT 1 (.t 35) (.c (.int .i64 2))),qO 37 (.Qc false 1 (.t 36)),qO 38 (.lh [zI,zI,zI] [(0,1,(.t 31)),(1,1,(.t 34)),(2,1,(.t 37))]),qO 39 (.tH 1 3 [zI,zI,zI] [(0,3,(.t 38))]),qy 40 3 24 28 39,qf 41 8 6,qs 6 1 41 40]
def YV :=[qw 42 6 9 6,qc 43 mS [42]]
def YW:List Abs.Op:=[]
def YX :=[qm 45 0,qw 46 6 9 6,qo 47 (.mG (.t 45)),qf 48 0 47,qf 49 0 48,qt 9 49 46]
def kU:Abs.Fn:=⟨3,[],.seq (.iO [0,2] YR ⟨some 20,none,false,.call false (.c (.fn bd [] [])) [(.t 19),(.c (.int .i64 8))]⟩ YS) (sR [0,2,6] YT (sR [0,6] YU (.seq (.seq (.cr [6]) (.iO [0,6] YV ⟨some 44,none,false,.call false (.c (.fn bU [] [])) [(.t 43)]⟩ YW)) (.cc [] YX))))⟩
attribute [simp] YR YS YT YU YV YW YX
def YY :=[qx 4 1]
def YZ :=[qm 9 0,qo 10 (.mG (.t 9)),qf 11 18 10,ql 12 1 11,qm 13 12,qg 13 true (qm 14 0),qg 13 true (qo 15 (.mG (.t 14))),qg 13 true (qf 16 0 15),qg 13 true (qf 17 10 16),qg 13 true (ql 18 1 17),qg 13 true (qe 19 18),qg 13 true (qn 20 .eql 19 0),qp 21 13 20]
def Y0:List Abs.Op:=[]
def Y2 :=[qm 23 0,qo 24 (.mG (.t 23)),qf 25 0 24,qf 26 9 25,ql 27 1 26,qo 28 (.yq eu [] [(.t 4)]),qc 29 dW [27,28],qu 30 29]
def Y3:List Abs.Op:=[]
def Y4 :=[qm 32 0,qo 33 (.mG (.t 32)),qf 34 0 33,qf 35 9 34,ql 36 1 35,qe 37 36,qn 38 .lss 37 40]
def Y5:List Abs.Op:=[]
def Y6 :=[qo 40 (.Qc false 1 (.t 4)),qm 41 2,qo 42 (.lh [(.str []),.aG] [(0,1,(.t 40)),(1,1,(.t 41))]),qo 6 (.ek [] [(.str []),.aG]),qs 6 2 6 42]
def Y7 :=[qM 44 0,qO 45 (.mG (.t 44)),qF 46 0 45,qF 47 0 46,qA 48 9 47,qW 49 6 2 6,qC 50 uf [48,49],qM 43 50,qZ 51 43 0,qZ 52 43 1,qM 7 51,qm 8 52]
def Y8 :=[qm 53 8]
def OY:List Abs.Op:=[]
def OZ :=[qM 55 0,qM 56 0,qM 57 0,qO 58 (.mG (.t 57)),qF 59 0 58,qF 60 9 59,qL 61 1 60,qW 62 6 2 6,qO 63 (.lh [(.str []),.aG,(.bool false),zI] [(0,2,(.t 62)),(2,1,(.c (.bool true))),(3,1,(.c zI))]),qO 64 (.tH 1 4 [(.str []),.aG,(.bool false),zI] [(0,4,(.t 63))]),qO 65 (.Q0 [] 4 56 (.t 61) (.t 64)),qM 66 0,qO 67 (.mG (.t 66)),qF 68 19 67,qO 69 (.Sg false 1 (.t 68)),qO 70 (.lh [zI,zI,zI,zI] []),qO 71 (.tH 1 4 [zI,zI,zI,zI] [(0,4,(.t 70))]),qO 72 (.app 4 32 (.t 69) (.t 71)),qO 73 (.mG (.t 55)),qF 74 0 73,qF 75 9 74,⟨none,none,true,.st [(0,4),(10,4)] 1 (.t 75) (.t 65)⟩,qo 76 (.mG (.t 56)),qf 77 19 76,⟨none,none,false,.st [(0,4)] 1 (.t 77) (.t 72)⟩]
def j5:Abs.Fn:=⟨3,[],sR [0,2,4] YY (.seq (.iO [0,2,4] YZ ⟨some 22,none,false,.call false (.c (.fn bd [] [])) [(.t 21),(.c (.int .i64 8))]⟩ Y0) (.seq (.iO [0,2,4] Y2 ⟨some 31,none,false,.call false (.c (.fn bd [] [])) [(.t 30),(.c (.int .i64 6))]⟩ Y3) (.seq (.iO [0,2,4] Y4 ⟨some 39,none,false,.call false (.c (.fn bd [] [])) [(.t 38),(.c (.int .i64 3))]⟩ Y5) (sR [0,6] Y6 (sR [0,6,8] Y7 (.seq (.iO [0,6] Y8 ⟨some 54,none,false,.call false (.c (.fn bU [] [])) [(.t 53)]⟩ OY) (.cc [] OZ)))))))⟩
attribute [simp] YY YZ Y0 Y2 Y3 Y4 Y5 Y6 Y7 Y8 OY OZ
def Y9 :=[qx 3 0]
def Za :=[ql 9 1 3,qo 10 (.mG (.t 9)),qf 11 0 10,qf 12 9 11,ql 13 1 12,qe 14 13,qn 15 .gtr 14 0]
def Zb:List Abs.Op:=[]
def Zc :=[qM 17 1,qM 18 2,qO 19 (.dT 1 (.t 18) (.c zI)),qL 20 1 19,qM 21 2,qO 22 (.dT 1 (.t 21) (.c (.int .i64 1))),qL 23 1 22,qM 24 2,qO 25 (.dT 1 (.t 24) (.c (.int .i64 2))),qL 26 1 25,qO 27 (.lh [zI,zI] [(0,1,(.t 23)),(1,1,(.t 26))]),qO 28 (.lh [(.str []),zI,.aG,.aG,zI,zI] [(0,1,(.t 17)),(1,1,(.t 20)),(4,2,(.t 27))]),qO 6 (.H6 [] [(.str []),zI,.aG,.aG,zI,zI]),⟨none,none,false,.st [(2,1),(3,1)] 6 (.t 6) (.t 28)⟩]
def Zd :=[qm 29 2,qo 30 (.Jc 1 (.t 29) (some (.c (.int .i64 3))) none none),qe 31 30,qi 32 0]
def Ze :=[qk 33 .lss 32 31]
def Zf :=[qm 34 32,qj 35 1 30 32,ql 36 1 35,qm 7 34,qm 8 36]
def Zg :=[qm 37 7,qn 38 .rem 37 2,qn 39 .eql 38 0]
def Zh :=[qf 40 2 6,ql 41 1 40,qm 42 8,qo 43 (.tH 1 1 [zI] [(0,1,(.t 42))]),qy 44 1 8 41 43,qf 45 2 6,⟨none,none,false,.st [(0,1),(1,1)] 1 (.t 45) (.t 44)⟩]
def Zi :=[qf 46 3 6,ql 47 1 46,qm 48 8,qo 49 (.tH 1 1 [zI] [(0,1,(.t 48))]),qy 50 1 8 47 49,qf 51 3 6,⟨none,none,false,.st [(0,1)] 1 (.t 51) (.t 50)⟩]
def O0 :=[qn 52 .add 32 1,qm 32 52]
def iy:Abs.cH:=sR [2,3,6,30,31,32,33] Ze (.seq (.ite (.t 33) .dJ (.exit 0)) (.seq (.bO 1 (sR [2,3,6,7,8,30,31,32] Zf (sR [2,3,6,8,30,31,32,39] Zg (.ite (.t 39) (.cc [2,3,6,30,31,32] Zh) (.cc [2,3,6,30,31,32] Zi))))) (.cc [2,3,6,30,31,32] O0)))
def O1 :=[qL 53 1 3,qO 54 (.mG (.t 53)),qF 55 0 54,qF 56 0 55,qF 57 0 56,qA 58 4 57,qA 59 6 6,qO 60 (.tH 1 6 [(.str []),zI,.aG,.aG,zI,zI] [(0,6,(.t 59))]),qc 61 jn [58,60]]
def O2:List Abs.Op:=[]
def O3 :=[qL 63 1 3,qM 64 2,qO 65 (.dT 1 (.t 64) (.c (.int .i64 1))),qL 66 1 65,qM 67 2,qO 68 (.dT 1 (.t 67) (.c (.int .i64 2))),qL 69 1 68,qO 70 (.lh [zI,zI] [(0,1,(.t 66)),(1,1,(.t 69))]),qO 71 (.yq fy [] [(.t 3),(.t 6)]),qc 72 gw [63,70,71]]
def lV:Abs.Fn:=⟨3,[],sR [1,2,3] Y9 (.seq (.iO [1,2,3] Za ⟨some 16,none,false,.call false (.c (.fn bd [] [])) [(.t 15),(.c (.int .i64 8))]⟩ Zb) (sR [2,3,6] Zc (sL [2,3,6,30,31,32] Zd 0 [2,3,6,30,31,32] false iy (.seq (.seq (.cr [1000006]) (.iO [2,3,6] O1 ⟨some 62,none,false,.call false (.c (.fn bU [] [])) [(.t 61)]⟩ O2)) (.cc [] O3)))))⟩
attribute [simp] Y9 Za Zb Zc Zd Ze Zf Zg Zh Zi O0 O1 O2 O3
def Zj :=[qm 10 0,qo 11 (.mG (.t 10)),qf 12 0 11,qf 13 11 12,ql 14 1 13,qe 15 14,qn 16 .lss 15 20]
def Zk:List Abs.Op:=[]
def Zl :=[qm 18 2,qo 19 (.dT 1 (.t 18) (.c (.int .i64 9))),ql 20 1 19,qo 21 (.call false (.c (.fn cA [] [])) [(.t 20),(.c (.int .i64 1)),(.c (.int .i64 2))])]
def Zm:List Abs.Op:=[]
def Zn :=[qM 23 2,qO 24 (.dT 1 (.t 23) (.c zI)),qL 25 1 24,qM 26 2,qO 27 (.dT 1 (.t 26) (.c (.int .i64 1))),qL 28 1 27,qM 29 2,qO 30 (.dT 1 (.t 29) (.c (.int .i64 2))),qL 31 1 30,qO 32 (.lh [zI,zI,zI] [(0,1,(.t 25)),(1,1,(.t 28)),(2,1,(.t 31))]),qM 33 2,qO 34 (.dT 1 (.t 33) (.c (.int .i64 3))),qL 35 1 34,qM 36 2,qO 37 (.dT 1 (.t 36) (.c (.int .i64 4))),qL 38 1 37,qM 39 2,qO 40 (.dT 1 (.t 39) (.c (.int .i64 5))),qL 41 1 40,qO 42 (.lh [zI,zI,zI] [(0,1,(.t 35)),(1,1,(.t 38)),(2,1,(.t 41))]),qM 43 2,qO 44 (.dT 1 (.t 43) (.c (.int .i64 6))),qL 45 1 44,qM 46 2,qO 47 (.dT 1 (.t 46) (.c (.int .i64 7))),qL 48 1 47,qM 49 2,qO 50 (.dT 1 (.t 49) (.c (.int .i64 8))),qL 51 1 50,qM 52 2,qO 53 (.dT 1 (.t 52) (.c (.int .i64 9))),qL 54 1 53,qO 55 (.JG .u8 (.t 54)),qO 56 (.lh [zI,zI,zI,zI,zI,zI,zI,zI,zI,(.int .u8 0)] [(0,3,(.t 32)),(3,3,(.t 42)),(6,1,(.t 45)),(7,1,(.t 48)),(8,1,(.t 51)),(9,1,(.t 55))]),qO 6 (.ek [] [zI,zI,zI,zI,zI,zI,zI,zI,zI,(.int .u8 0)]),qs 6 10 6 56]
def Zo :=[qw 58 6 10 6,qo 59 (.tH 1 10 [zI,zI,zI,zI,zI,zI,zI,zI,zI,(.int .u8 0)] [(0,10,(.t 58))]),qo 60 (.call false (.c (.fn iK [] [])) [(.t 59),(.c .aG),(.c zI)]),qm 57 60,qz 61 57 0,qz 62 57 1,qz 63 57 2,qm 7 61,qm 8 62,qm 9 63]
def Zp :=[qm 64 9]
def Zq:List Abs.Op:=[]
def Zr :=[qM 66 0,qM 67 0,qO 68 (.mG (.t 67)),qF 69 0 68,qF 70 11 69,qL 71 1 70,qW 72 6 10 6,qO 73 (.tH 1 10 [zI,zI,zI,zI,zI,zI,zI,zI,zI,(.int .u8 0)] [(0,10,(.t 72))]),qO 74 (.app 10 80 (.t 71) (.t 73)),qo 75 (.mG (.t 66)),qf 76 0 75,qf 77 11 76,⟨none,none,false,.st [(0,10)] 1 (.t 77) (.t 74)⟩]
def kQ:Abs.Fn:=⟨3,[],.seq (.iO [0,2] Zj ⟨some 17,none,false,.call false (.c (.fn bd [] [])) [(.t 16),(.c (.int .i64 3))]⟩ Zk) (.seq (.iO [0,2] Zl ⟨some 22,none,false,.call false (.c (.fn bd [] [])) [(.t 21),(.c (.int .i64 1))]⟩ Zm) (sR [0,6] Zn (sR [0,6,9] Zo (.seq (.iO [0,6] Zp ⟨some 65,none,false,.call false (.c (.fn bU [] [])) [(.t 64)]⟩ Zq) (.cc [] Zr)))))⟩
attribute [simp] Zj Zk Zl Zm Zn Zo Zp Zq Zr
def tF2:List (Nat×uD×Abs.Fn):=[A2 [] nw pZ [] [3],A2 [] va zn [] [22],A4 [0,3,2,5,6,4,1,7] cZ jm [] [0,2] [2] [] [] [] [] [] [(2,some 1)],A4 [] dj fN [] [2,4] [2] [] [2000] [] [14] [] [(3,some 1),(6,some 3),(11,some 2),(14,some 18)],A0 jh rW,A0 bZ mL,A0 qY ya,A0 jy oQ,A0 jJ pn,A0 kf vE,A0 fD oY,A0 gp mg,A0 j9 mV,A0 eJ mJ,A0 jW so,A0 ke Bq,A0 ez pc,A0 ed na,A0 fF nd,A0 vL yf,A0 fE pa,A0 kE qH,A0 iU nY,A0 jF o7,A0 dS jv,A0 dD jc,A0 gZ uZ,A0 eC lG,A0 jC oW,A0 mc pj,A2 [] cN dI [] [2,5],(kW,Cy,n8),A2 [] cg qB [] [0],A3 [] nz qD [] [4] [4] [] [],A3 [] lS rO [] [4] [4] [] [],A3 [] nB qQ [] [4] [4] [] [],A0 kX n9,A0 fm nL,A0 kH tu,A0 fa nf,A0 jU sk,A0 eA lW,A0 iG rp,A3 [] iT nW [] [2,5] [5] [] [],A0 yV CK,A0 pF sJ,A4 [] bd sj [] [] [] [] [] [] [] [] [(1,some 3)],A4 [] lR oo [] [] [] [] [] [] [] [] [(2,some 12)],A0 eB pk,A0 fk nK,A0 lI tW,A3 [] gB jR [] [7] [7] [] [],A0 ep lk,A0 fQ ot,A0 oA zo,A0 po sX,A2 [] gW kB [] [4],A0 ow rL,A0 jI pf,A0 jG o8,A0 mC uL,A0 jE oZ,A0 gJ pB,A0 gl oK,A0 fp nM,A4 [] fx j4 [] [0,6] [6] [] [] [] [] [] [(0,some 8),(2,some 8)],A4 [] fC j7 [] [0,6] [] [] [] [(5,[6])] [] [] [(0,some 8),(5,some 2)],A4 [] gO lU [] [0,6] [6] [] [] [] [] [] [(0,some 25),(3,some 2)],A4 [] gk kU [] [0,6] [6] [] [2002] [(3,[6])] [29,32,35] [] [(0,some 13),(3,some 2)],A4 [] fA j5 [] [0,6] [6] [(7021,[(0,4),(10,4)]),(7024,[(0,4)])] [3007014] [] [4] [(7010,some [])] [(1,some 13),(2,some 8),(3,some 7),(6,some 1)],A4 [] gP lV [] [6] [] [(2013,[(2,1),(3,1)]),(7006,[(0,1),(1,1)]),(8006,[(0,1)])] [] [(10,[1000006])] [] [] [(1,some 7),(10,some 9)],A4 [] gg kQ [] [0,6] [6] [(5012,[(0,10)])] [] [] [] [] [(0,some 7),(1,some 4),(4,some 1)]]
theorem kF2:(tF2.map fun p=>chk p)=tF2.map fun p=>some p.2.2:=by kernel_rfl
end Go.Proofs.YtfgljaglidhjiaaGreatDoor
