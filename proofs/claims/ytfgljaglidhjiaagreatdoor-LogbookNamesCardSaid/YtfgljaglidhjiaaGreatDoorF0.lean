/- The code of functions of the program, in the small instruction set; each is what the translation makes of it. -/
import Derived.Test.YtfgljaglidhjiaaGreatDoorIds
set_option linter.unusedVariables false
set_option linter.unusedSimpArgs false
set_option maxRecDepth 100000
namespace Go.Proofs.YtfgljaglidhjiaaGreatDoor
open Go Go.Abs
/-! 13 fumarole/fumarolelaw12.LogbookNames -/
def f13r0 : List Abs.Op := [qb 0 false]
def f13r1 : List Abs.Op := [qc 22 i_law12_day [], qc 23 i_logbook_Run [22], qm 21 23, qz 24 21 0, qz 25 21 1, qz 26 21 2, qo 1 (.alcv [] [(.int .i64 0), (.int .i64 0), (.int .i64 0), (.int .i64 0), .nils, (.int .i64 0), (.int .i64 0), (.int .i64 0), .nils, .nils, .nils, .nils, .nils, (.int .i64 0), (.int .i64 0), (.int .i64 0), .nils, .nils]), qs 1 18 1 24, qm 2 25, qm 3 26]
def f13r2 : List Abs.Op := [qm 27 3, qn 28 .neq 27 0, qm 29 28, qg 29 false (qm 30 2), qg 29 false (qe 31 30), qg 29 false (qn 32 .neq 31 13), qP 33 29 32, qm 34 33, qg 34 false (qf 35 9 1), qg 34 false (qv 36 1 1 35), qg 34 false (qe 37 36), qg 34 false (qn 38 .neq 37 2), qP 39 34 38, qm 40 39, qg 40 false (qf 41 9 1), qg 40 false (qv 42 1 1 41), qg 40 false (qo 43 (.idxS 4 (.t 42) (.c (.int .i64 1)))), qg 40 false (qf 44 3 43), qg 40 false (ql 45 1 44), qg 40 false (qn 46 .neq 45 6), qP 47 40 46, qm 48 47, qg 48 false (qf 49 9 1), qg 48 false (qv 50 1 1 49), qg 48 false (qo 51 (.idxS 4 (.t 50) (.c (.int .i64 1)))), qg 48 false (qf 52 2 51), qg 48 false (ql 53 1 52), qP 54 48 53, qm 55 54, qg 55 false (qf 56 9 1), qg 55 false (qv 57 1 1 56), qg 55 false (qo 58 (.idxS 4 (.t 57) (.c (.int .i64 0)))), qg 55 false (qf 59 2 58), qg 55 false (ql 60 1 59), qg 55 false (qu 61 60), qP 62 55 61, qm 63 62, qg 63 false (qf 64 10 1), qg 63 false (qv 65 1 1 64), qg 63 false (qe 66 65), qg 63 false (qn 67 .neq 66 2), qP 68 63 67, qm 69 68, qg 69 false (qf 70 10 1), qg 69 false (qv 71 1 1 70), qg 69 false (qo 72 (.idxS 1 (.t 71) (.c (.int .i64 0)))), qg 69 false (ql 73 1 72), qg 69 false (qo 74 (.bsi 1 1 [(.int .i64 0)] [(0, 1, (.c (.int .i64 (-50))))])), qg 69 false (qc 75 i_law12_ints [73, 74]), qg 69 false (qu 76 75), qP 77 69 76, qm 78 77, qg 78 false (qf 79 10 1), qg 78 false (qv 80 1 1 79), qg 78 false (qo 81 (.idxS 1 (.t 80) (.c (.int .i64 1)))), qg 78 false (ql 82 1 81), qg 78 false (qo 83 (.bsi 1 1 [(.int .i64 0)] [(0, 1, (.c (.int .i64 50)))])), qg 78 false (qc 84 i_law12_ints [82, 83]), qg 78 false (qu 85 84), qP 86 78 85, qm 87 86, qg 87 false (qf 88 13 1), qg 87 false (qw 89 1 3 88), qg 87 false (qo 90 (.bld [(.int .i64 0), (.int .i64 0), (.int .i64 0)] [(0, 1, (.c (.int .i64 1000))), (1, 1, (.c (.int .i64 500))), (2, 1, (.c (.int .i64 0)))])), qg 87 false (qo 91 (.eqv true [some .i64, some .i64, some .i64] true (.t 89) (.t 90))), qP 92 87 91]
def f13r3 : List Abs.Op := [qb 0 false]
def f13r4 : List Abs.Op := [qi 4 0]
def f13r5 : List Abs.Op := [qm 93 4, qm 94 2, qe 95 94, qk 96 .lss 93 95]
def f13r6 : List Abs.Op := [qm 99 2, qm 100 4, qj 101 1 99 100, ql 102 1 101, qn 103 .neq 102 0]
def f13r7 : List Abs.Op := [qb 0 false]
def f13r8 : List Abs.Op := [qm 97 4, qn 98 .add 97 1, qm 4 98]
def f_law12_LogbookNames_l9 : Abs.Cmd :=
  (.seq (.seq (.reg [2, 4, 96] f13r5) (.ite (.t 96) .nop (.exit 0))) (.seq (.blk 1 (.seq (.reg [2, 4, 103] f13r6) (.ite (.t 103) (.seq (.reg [0] f13r7) .ret) .nop))) (.reg [2, 4] f13r8)))

def f13r10 : List Abs.Op := [qo 104 (.call true (.c (.fn i_law12_day [] [])) []), qo 105 (.bsi 14 1 [(.str []), (.str []), (.str []), (.str []), (.str []), (.str []), (.str []), (.str []), (.str []), (.str []), (.str []), (.str []), (.str []), (.str [])] [(0, 1, (.c (.str [102, 105, 101, 108, 100, 32, 50, 32, 49, 32, 49, 32, 52]))), (1, 1, (.c (.str [119, 101, 108, 108, 32, 49, 32, 48, 32, 48]))), (2, 1, (.c (.str [109, 111, 100, 101, 108, 32, 97, 32, 49]))), (3, 1, (.c (.str [114, 101, 97, 100, 32, 49, 32, 48, 32, 48, 32, 57]))), (4, 1, (.c (.str [116, 105, 99, 107, 32, 49, 32, 50]))), (5, 1, (.c (.str [115, 101, 108, 108, 32, 49, 32, 48, 32, 48, 32, 51]))), (6, 1, (.c (.str [107, 101, 101, 112, 32, 49, 32, 50, 32, 51]))), (7, 1, (.c (.str [114, 117, 108, 101, 32, 48, 32, 48, 32, 48, 32, 57, 32, 57, 32, 57, 32, 50, 48, 32, 53, 32, 49, 32, 51]))), (8, 1, (.c (.str [108, 111, 103, 32, 116, 50, 32, 48, 32, 48, 32, 48]))), (9, 1, (.c (.str [116, 105, 99, 107, 32, 48, 49]))), (10, 1, (.c (.str [110, 111, 116, 104, 105, 110, 103]))), (11, 1, (.c (.str [114, 101, 97, 100, 32, 50, 32, 48, 32, 48, 32, 52, 57]))), (12, 1, (.c (.str [116, 105, 99, 107, 32, 49]))), (13, 1, (.c (.str [117, 110, 105, 116, 32, 48])))]), qy 106 1 16 104 105, qm 5 106]
def f13r11 : List Abs.Op := [qm 108 5, qc 109 i_logbook_Run [108], qm 107 109, qz 110 107 0, qz 111 107 1, qz 112 107 2, qo 6 (.alcv [] [(.int .i64 0), (.int .i64 0), (.int .i64 0), (.int .i64 0), .nils, (.int .i64 0), (.int .i64 0), (.int .i64 0), .nils, .nils, .nils, .nils, .nils, (.int .i64 0), (.int .i64 0), (.int .i64 0), .nils, .nils]), qs 6 18 6 110, qm 2 111, qm 7 112]
def f13r12 : List Abs.Op := [qo 113 (.bsi 14 1 [(.int .i64 0), (.int .i64 0), (.int .i64 0), (.int .i64 0), (.int .i64 0), (.int .i64 0), (.int .i64 0), (.int .i64 0), (.int .i64 0), (.int .i64 0), (.int .i64 0), (.int .i64 0), (.int .i64 0), (.int .i64 0)] [(0, 1, (.c (.int .i64 8))), (1, 1, (.c (.int .i64 8))), (2, 1, (.c (.int .i64 8))), (3, 1, (.c (.int .i64 0))), (4, 1, (.c (.int .i64 8))), (5, 1, (.c (.int .i64 8))), (6, 1, (.c (.int .i64 1))), (7, 1, (.c (.int .i64 1))), (8, 1, (.c (.int .i64 1))), (9, 1, (.c (.int .i64 4))), (10, 1, (.c (.int .i64 4))), (11, 1, (.c (.int .i64 8))), (12, 1, (.c (.int .i64 8))), (13, 1, (.c (.int .i64 1)))]), qm 8 113]
def f13r13 : List Abs.Op := [qm 114 7, qn 115 .neq 114 0, qm 116 115, qg 116 false (qm 117 2), qg 116 false (qe 118 117), qg 116 false (qm 119 8), qg 116 false (qe 120 119), qg 116 false (qo 121 (.bin .add (.c (.int .i64 13)) (.t 120))), qg 116 false (qk 122 .neq 118 121), qP 123 116 122]
def f13r14 : List Abs.Op := [qb 0 false]
def f13r15 : List Abs.Op := [qi 9 0]
def f13r16 : List Abs.Op := [qm 124 9, qm 125 8, qe 126 125, qk 127 .lss 124 126]
def f13r17 : List Abs.Op := [qM 130 2, qM 131 9, qO 132 (.bin .add (.c (.int .i64 13)) (.t 131)), qJ 133 1 130 132, qL 134 1 133, qM 135 8, qM 136 9, qJ 137 1 135 136, qL 138 1 137, qk 139 .neq 134 138]
def f13r18 : List Abs.Op := [qb 0 false]
def f13r19 : List Abs.Op := [qm 128 9, qn 129 .add 128 1, qm 9 129]
def f_law12_LogbookNames_l20 : Abs.Cmd :=
  (.seq (.seq (.reg [2, 8, 9, 127] f13r16) (.ite (.t 127) .nop (.exit 2))) (.seq (.blk 3 (.seq (.reg [2, 8, 9, 139] f13r17) (.ite (.t 139) (.seq (.reg [0] f13r18) .ret) .nop))) (.reg [2, 8, 9] f13r19)))

def f13r21 : List Abs.Op := [qc 141 i_law12_day [], qo 142 (.call false (.c (.fn i_logbook_Fate [] [])) [(.t 141), (.c (.str [97]))]), qm 140 142, qz 143 140 0, qz 144 140 1, qo 10 (.alcv [] [(.int .i64 0), (.int .i64 0), (.int .i64 0), (.int .i64 0)]), qs 10 4 10 143, qm 11 144]
def f13r22 : List Abs.Op := [qc 146 i_law12_day [], qo 147 (.call false (.c (.fn i_logbook_Fate [] [])) [(.t 146), (.c (.str [99]))]), qm 145 147, qz 148 145 0, qz 149 145 1, qo 12 (.alcv [] [(.int .i64 0), (.int .i64 0), (.int .i64 0), (.int .i64 0)]), qs 12 4 12 148, qm 13 149]
def f13r23 : List Abs.Op := [qc 151 i_law12_day [], qo 152 (.call false (.c (.fn i_logbook_Depends [] [])) [(.t 151), (.c (.int .i64 13))]), qm 150 152, qz 153 150 0, qz 154 150 1, qm 14 153, qm 15 154]
def f13r24 : List Abs.Op := [qo 156 (.mks 1 16 [(.str [])] (.c (.int .i64 101)) (.c (.int .i64 101))), qc 157 i_logbook_Run [156], qm 155 157, qz 158 155 0, qz 159 155 1, qz 160 155 2, qo 16 (.alcv [] [(.int .i64 0), (.int .i64 0), (.int .i64 0), (.int .i64 0), .nils, (.int .i64 0), (.int .i64 0), (.int .i64 0), .nils, .nils, .nils, .nils, .nils, (.int .i64 0), (.int .i64 0), (.int .i64 0), .nils, .nils]), qs 16 18 16 158, qm 17 159, qm 18 160]
def f13r25 : List Abs.Op := [qo 162 (.bsm 14 1 [(.int .u8 0), (.int .u8 0), (.int .u8 0), (.int .u8 0), (.int .u8 0), (.int .u8 0), (.int .u8 0), (.int .u8 0), (.int .u8 0), (.int .u8 0), (.int .u8 0), (.int .u8 0), (.int .u8 0), (.int .u8 0)] [(0, 1, (.c (.int .u8 0))), (1, 1, (.c (.int .u8 1))), (2, 1, (.c (.int .u8 255))), (3, 1, (.c (.int .u8 254))), (4, 1, (.c (.int .u8 97))), (5, 1, (.c (.int .u8 0))), (6, 1, (.c (.int .u8 128))), (7, 1, (.c (.int .u8 0))), (8, 1, (.c (.int .u8 1))), (9, 1, (.c (.int .u8 255))), (10, 1, (.c (.int .u8 254))), (11, 1, (.c (.int .u8 97))), (12, 1, (.c (.int .u8 0))), (13, 1, (.c (.int .u8 129)))]), qo 163 (.cvz (.t 162)), qc 164 i_logbook_Recover [163], qm 161 164, qz 165 161 0, qz 166 161 1, qm 19 165, qm 20 166]
def f13r26 : List Abs.Op := [qm 167 11, qn 168 .eql 167 7, qm 169 168, qg 169 true (qm 170 13), qg 169 true (qn 171 .eql 170 5), qp 172 169 171, qm 173 172, qg 173 true (qm 174 15), qg 173 true (qn 175 .eql 174 2), qp 176 173 175, qm 177 176, qg 177 true (qm 178 18), qg 177 true (qn 179 .eql 178 3), qp 180 177 179, qm 181 180, qg 181 true (qm 182 19), qg 181 true (qo 183 (.bsi 1 1 [(.str [])] [(0, 1, (.c (.str [97])))])), qg 181 true (qc 184 i_law12_texts [182, 183]), qp 185 181 184, qm 186 185, qg 186 true (qm 187 20), qg 186 true (qn 188 .eql 187 7), qp 189 186 188, qm 190 189, qg 190 true (qc 191 i_law12_awake []), qp 192 190 191, qm 0 192]
def a_law12_LogbookNames : Ann := ⟨[(24, [0]), (23, [11, 13, 15, 18, 19, 20]), (22, [11, 13, 15, 18]), (21, [11, 13, 15]), (20, [11, 13]), (19, [11]), (16, [2, 8, 9]), (18, [0]), (17, [2, 8, 9, 139]), (15, [2, 8, 9, 127]), (14, [2, 8, 9]), (13, [0]), (12, [2, 8, 123]), (11, [2, 7, 8]), (10, [2, 7]), (9, [5]), (6, [2, 4]), (8, [0]), (7, [2, 4, 103]), (5, [2, 4, 96]), (4, [2, 4]), (3, [0]), (2, [2, 92]), (1, [1, 2, 3]), (0, [])], [(2, [2, 8, 9]), (0, [2, 4])], [], [1, 6, 10, 12, 16, 162], [1, 6, 10, 12, 16], [], [9000], [(10, [5])], [], [], []⟩
def f_law12_LogbookNames : Abs.Fn := ⟨0, [.t 0],
  (.seq (.reg [] f13r0) (.seq (.reg [1, 2, 3] f13r1) (.seq (.seq (.reg [2, 92] f13r2) (.ite (.t 92) (.seq (.reg [0] f13r3) .ret) .nop)) (.seq (.seq (.reg [2, 4] f13r4) (.blk 0 (.loop [2, 4] false f_law12_LogbookNames_l9))) (.seq (.reg [5] f13r10) (.seq (.seq (.frz [5]) (.reg [2, 7] f13r11)) (.seq (.reg [2, 7, 8] f13r12) (.seq (.seq (.reg [2, 8, 123] f13r13) (.ite (.t 123) (.seq (.reg [0] f13r14) .ret) .nop)) (.seq (.seq (.reg [2, 8, 9] f13r15) (.blk 2 (.loop [2, 8, 9] false f_law12_LogbookNames_l20))) (.seq (.reg [11] f13r21) (.seq (.reg [11, 13] f13r22) (.seq (.reg [11, 13, 15] f13r23) (.seq (.reg [11, 13, 15, 18] f13r24) (.seq (.reg [11, 13, 15, 18, 19, 20] f13r25) (.seq (.reg [0] f13r26) .ret)))))))))))))))⟩
theorem e_law12_LogbookNames_l9 : type_of% f_law12_LogbookNames_l9.eq_1 := by_rfl f_law12_LogbookNames_l9.eq_1
theorem e_law12_LogbookNames_l20 : type_of% f_law12_LogbookNames_l20.eq_1 := by_rfl f_law12_LogbookNames_l20.eq_1
theorem e_law12_LogbookNames : type_of% f_law12_LogbookNames.eq_1 := by_rfl f_law12_LogbookNames.eq_1
theorem ok_law12_LogbookNames : fnC Tryz.prog a_law12_LogbookNames Tryz.f13 = some f_law12_LogbookNames := by kernel_rfl

/-! 17 fumarole/fumarolelaw12.awake -/
def f17r0 : List Abs.Op := [qb 0 false]
def f17r1 : List Abs.Op := [qc 10 i_law12_day [], qc 11 i_logbook_Report [10], qm 9 11, qz 12 9 0, qz 13 9 1, qm 1 12, qm 2 13]
def f17r2 : List Abs.Op := [qo 15 (.bsi 1 1 [(.str [])] [(0, 1, (.c (.str [97])))]), qc 16 i_logbook_Write [15], qm 14 16, qz 17 14 0, qz 18 14 1, qm 3 17, qm 4 18]
def f17r3 : List Abs.Op := [qc 20 i_law12_day [], qo 21 (.call false (.c (.fn i_logbook_Fate [] [])) [(.t 20), (.c (.str [98]))]), qm 19 21, qz 22 19 0, qz 23 19 1, qo 5 (.alcv [] [(.int .i64 0), (.int .i64 0), (.int .i64 0), (.int .i64 0)]), qs 5 4 5 22, qm 6 23]
def f17r4 : List Abs.Op := [qc 25 i_law12_day [], qo 26 (.call false (.c (.fn i_logbook_Depends [] [])) [(.t 25), (.c (.int .i64 3))]), qm 24 26, qz 27 24 0, qz 28 24 1, qm 7 27, qm 8 28]
def f17r5 : List Abs.Op := [qm 29 2, qn 30 .eql 29 0, qm 31 30, qg 31 true (qm 32 1), qg 31 true (qo 33 (.pur (.seq false) [(.t 32), (.c (.str [116, 105, 99, 107, 115, 32, 50, 32, 99, 111, 108, 111, 117, 114, 32, 49, 32, 119, 101, 108, 108, 115, 32, 49, 10, 109, 111, 100, 101, 108, 32, 97, 32, 108, 101, 102, 116, 10, 109, 111, 100, 101, 108, 32, 98, 32, 115, 116, 114, 117, 99, 107, 32, 54, 10, 115, 97, 108, 101, 32, 48, 32, 116, 105, 99, 107, 32, 50, 32, 119, 101, 108, 108, 32, 48, 32, 119, 111, 114, 107, 32, 52, 48, 48, 48, 46, 46, 52, 48, 48, 48, 32, 109, 111, 110, 101, 121, 32, 49, 50, 48, 48, 48, 46, 46, 49, 50, 48, 48, 48, 10]))])), qp 34 31 33, qm 35 34, qg 35 true (qm 36 4), qg 35 true (qn 37 .eql 36 0), qp 38 35 37, qm 39 38, qg 39 true (qm 40 3), qg 39 true (qo 41 (.me (.b2s) [(.t 40)])), qg 39 true (qo 42 (.pur (.seq false) [(.t 41), (.c (.str [0, 1, 255, 254, 97, 0, 128]))])), qp 43 39 42, qm 44 43, qg 44 true (qm 45 6), qg 44 true (qn 46 .eql 45 0), qp 47 44 46, qm 48 47, qg 48 true (qw 49 5 4 5), qg 48 true (qo 50 (.bld [(.int .i64 0), (.int .i64 0), (.int .i64 0), (.int .i64 0)] [(0, 1, (.c (.int .i64 6))), (1, 1, (.c (.int .i64 500))), (2, 1, (.c (.int .i64 390))), (3, 1, (.c (.int .i64 410)))])), qg 48 true (qo 51 (.eqv true [some .i64, some .i64, some .i64, some .i64] false (.t 49) (.t 50))), qp 52 48 51, qm 53 52, qg 53 true (qm 54 8), qg 53 true (qn 55 .eql 54 0), qp 56 53 55, qm 57 56, qg 57 true (qm 58 7), qg 57 true (qo 59 (.bsi 3 1 [(.int .i64 0), (.int .i64 0), (.int .i64 0)] [(0, 1, (.c (.int .i64 9))), (1, 1, (.c (.int .i64 10))), (2, 1, (.c (.int .i64 12)))])), qg 57 true (qc 60 i_law12_ints [58, 59]), qp 61 57 60, qm 0 61]
def a_law12_awake : Ann := ⟨[(5, [0]), (4, [1, 2, 3, 4, 5, 6, 7, 8]), (3, [1, 2, 3, 4, 5, 6]), (2, [1, 2, 3, 4]), (1, [1, 2]), (0, [])], [], [], [5], [5], [], [], [], [], [], []⟩
def f_law12_awake : Abs.Fn := ⟨0, [.t 0],
  (.seq (.reg [] f17r0) (.seq (.reg [1, 2] f17r1) (.seq (.reg [1, 2, 3, 4] f17r2) (.seq (.reg [1, 2, 3, 4, 5, 6] f17r3) (.seq (.reg [1, 2, 3, 4, 5, 6, 7, 8] f17r4) (.seq (.reg [0] f17r5) .ret))))))⟩
theorem e_law12_awake : type_of% f_law12_awake.eq_1 := by_rfl f_law12_awake.eq_1
theorem ok_law12_awake : fnC Tryz.prog a_law12_awake Tryz.f17 = some f_law12_awake := by kernel_rfl

/-! 18 fumarole/logbook.Fate -/
def f18r0 : List Abs.Op := [qx 3 1, qo 4 (.alcv [] [(.int .i64 0), (.int .i64 0), (.int .i64 0), (.int .i64 0)]), qi 5 0]
def f18r1 : List Abs.Op := [qm 10 0, qc 11 i_logbook_check [10], qm 6 11]
def f18r2 : List Abs.Op := [qm 12 6, qn 13 .neq 12 0]
def f18r3 : List Abs.Op := [qo 14 (.bld [(.int .i64 0), (.int .i64 0), (.int .i64 0), (.int .i64 0)] []), qm 15 6, qs 4 4 4 14, qm 5 15]
def f18r4 : List Abs.Op := [qm 17 0, qo 18 (.call true (.c (.fn i_logbook_run [] [])) [(.t 17)]), qm 16 18, qz 19 16 0, qz 20 16 1, qm 7 19, qm 8 20]
def f18r5 : List Abs.Op := [qm 21 7, qo 22 (.nck (.t 21)), qf 23 0 22, qf 24 9 23, ql 25 1 24, qo 26 (.mkf i_logbook_Fate_1 [] [(.t 3)]), qc 27 i_slices_IndexFunc_logbook_Entry [25, 26], qm 9 27]
def f18r6 : List Abs.Op := [qm 29 9, qn 30 .lss 29 0, qm 28 30]
def f18r7 : List Abs.Op := [qo 31 (.bld [(.int .i64 0), (.int .i64 0), (.int .i64 0), (.int .i64 0)] []), qs 4 4 4 31, qi 5 5]
def f18r8 : List Abs.Op := [qm 33 7, qo 34 (.nck (.t 33)), qf 35 0 34, qf 36 9 35, ql 37 1 36, qm 38 9, qj 39 4 37 38, qf 40 2 39, ql 41 1 40, qm 32 41]
def f18r9 : List Abs.Op := [qo 42 (.bld [(.int .i64 0), (.int .i64 0), (.int .i64 0), (.int .i64 0)] []), qs 4 4 4 42, qi 5 7]
def f18r10 : List Abs.Op := [qm 43 7, qo 44 (.nck (.t 43)), qf 45 19 44, ql 46 1 45, qm 47 9, qj 48 4 46 47, qa 49 4 48, qs 4 4 4 49, qi 5 0]
def a_logbook_Fate : Ann := ⟨[(10, [4, 5]), (7, [4, 5]), (9, [4, 5]), (8, [4, 7, 9, 32]), (6, [4, 7, 9, 28]), (5, [4, 7, 9]), (4, [3, 4, 7]), (3, [4, 5]), (2, [0, 3, 4, 6, 13]), (1, [0, 3, 4, 6]), (0, [0, 3, 4])], [], [], [4], [4], [], [4001], [], [], [], []⟩
def f_logbook_Fate : Abs.Fn := ⟨2, [.v 4 true 4, .t 5],
  (.seq (.reg [0, 3, 4] f18r0) (.seq (.seq (.reg [0, 3, 4, 6] f18r1) (.seq (.reg [0, 3, 4, 6, 13] f18r2) (.ite (.t 13) (.seq (.reg [4, 5] f18r3) .ret) .nop))) (.seq (.reg [3, 4, 7] f18r4) (.seq (.reg [4, 7, 9] f18r5) (.seq (.blk 0 (.seq (.reg [4, 7, 9, 28] f18r6) (.ite (.t 28) (.seq (.reg [4, 5] f18r7) .ret) (.seq (.reg [4, 7, 9, 32] f18r8) (.ite (.t 32) (.seq (.reg [4, 5] f18r9) .ret) .nop))))) (.seq (.reg [4, 5] f18r10) .ret))))))⟩
theorem e_logbook_Fate : type_of% f_logbook_Fate.eq_1 := by_rfl f_logbook_Fate.eq_1
theorem ok_logbook_Fate : fnC Tryz.prog a_logbook_Fate Tryz.f18 = some f_logbook_Fate := by kernel_rfl

/-! 22 fumarole/logbook.Depends -/
def f22r0 : List Abs.Op := [qo 4 (.mv (.c .nils)), qi 5 0]
def f22r1 : List Abs.Op := [qm 13 0, qc 14 i_logbook_check [13], qm 6 14]
def f22r2 : List Abs.Op := [qm 15 6, qn 16 .neq 15 0]
def f22r3 : List Abs.Op := [qm 17 6, qo 4 (.mv (.c .nils)), qm 5 17]
def f22r4 : List Abs.Op := [qm 18 1, qm 19 0, qe 20 19, qn 21 .sub 20 1, qo 22 (.call false (.c (.fn i_logbook_within [] [])) [(.t 18), (.c (.int .i64 0)), (.t 21)]), qu 23 22]
def f22r5 : List Abs.Op := [qo 4 (.mv (.c .nils)), qi 5 2]
def f22r6 : List Abs.Op := [qm 25 0, qo 26 (.call true (.c (.fn i_logbook_run [] [])) [(.t 25)]), qm 24 26, qz 27 24 0, qz 28 24 1, qm 7 27, qm 8 28]
def f22r7 : List Abs.Op := [qm 30 0, qo 31 (.call true (.c (.fn i_slices_Clone_string [] [])) [(.t 30)]), qm 32 1, qm 33 1, qn 34 .add 33 1, qc 35 i_slices_Delete_string [31, 32, 34], qo 36 (.call true (.c (.fn i_logbook_run [] [])) [(.t 35)]), qm 29 36, qz 37 29 0, qz 38 29 1, qm 9 37, qm 10 38]
def f22r8 : List Abs.Op := [qo 11 (.nilb 1)]
def f22r9 : List Abs.Op := [qm 39 1, qn 40 .add 39 1, qm 12 40]
def f22r10 : List Abs.Op := [qm 41 12, qm 42 0, qe 43 42, qk 44 .lss 41 43]
def f22r11 : List Abs.Op := [qM 47 8, qM 48 12, qJ 49 1 47 48, qL 50 1 49, qM 51 10, qM 52 12, qN 53 .sub 52 1, qJ 54 1 51 53, qL 55 1 54, qk 56 .neq 50 55]
def f22r12 : List Abs.Op := [qm 57 11, qm 58 12, qo 59 (.bsi 1 1 [(.int .i64 0)] [(0, 1, (.t 58))]), qy 60 1 8 57 59, qm 11 60]
def f22r13 : List Abs.Op := [qm 45 12, qn 46 .add 45 1, qm 12 46]
def f_logbook_Depends_l14 : Abs.Cmd :=
  (.seq (.seq (.reg [0, 8, 10, 11, 12, 44] f22r10) (.ite (.t 44) .nop (.exit 0))) (.seq (.blk 1 (.seq (.reg [0, 8, 10, 11, 12, 56] f22r11) (.ite (.t 56) (.reg [0, 8, 10, 11, 12] f22r12) .nop))) (.reg [0, 8, 10, 11, 12] f22r13)))

def f22r15 : List Abs.Op := [qm 61 11, qm 4 61, qi 5 0]
def a_logbook_Depends : Ann := ⟨[(14, [4, 5]), (11, [0, 8, 10, 11, 12]), (13, [0, 8, 10, 11, 12]), (12, [0, 8, 10, 11, 12, 56]), (10, [0, 8, 10, 11, 12, 44]), (9, [0, 8, 10, 11, 12]), (8, [0, 1, 8, 10, 11]), (7, [0, 1, 8, 10]), (6, [0, 1, 8]), (5, [4, 5]), (4, [0, 1, 23]), (3, [4, 5]), (2, [0, 1, 6, 16]), (1, [0, 1, 6]), (0, [0, 1])], [(0, [0, 8, 10, 11, 12])], [], [11], [], [], [6001, 7001, 7006], [], [], [], []⟩
def f_logbook_Depends : Abs.Fn := ⟨2, [.t 4, .t 5],
  (.seq (.reg [0, 1] f22r0) (.seq (.seq (.reg [0, 1, 6] f22r1) (.seq (.reg [0, 1, 6, 16] f22r2) (.ite (.t 16) (.seq (.reg [4, 5] f22r3) .ret) .nop))) (.seq (.seq (.reg [0, 1, 23] f22r4) (.ite (.t 23) (.seq (.reg [4, 5] f22r5) .ret) .nop)) (.seq (.reg [0, 1, 8] f22r6) (.seq (.reg [0, 1, 8, 10] f22r7) (.seq (.reg [0, 1, 8, 10, 11] f22r8) (.seq (.seq (.reg [0, 8, 10, 11, 12] f22r9) (.blk 0 (.loop [0, 8, 10, 11, 12] false f_logbook_Depends_l14))) (.seq (.reg [4, 5] f22r15) .ret))))))))⟩
theorem e_logbook_Depends_l14 : type_of% f_logbook_Depends_l14.eq_1 := by_rfl f_logbook_Depends_l14.eq_1
theorem e_logbook_Depends : type_of% f_logbook_Depends.eq_1 := by_rfl f_logbook_Depends.eq_1
theorem ok_logbook_Depends : fnC Tryz.prog a_logbook_Depends Tryz.f22 = some f_logbook_Depends := by kernel_rfl

/-! 23 fumarole/fumarolelaw12.ints -/
def f23r0 : List Abs.Op := [qb 4 false]
def f23r1 : List Abs.Op := [qm 6 0, qe 7 6, qm 8 1, qe 9 8, qk 10 .neq 7 9]
def f23r2 : List Abs.Op := [qb 4 false]
def f23r3 : List Abs.Op := [qi 5 0]
def f23r4 : List Abs.Op := [qm 11 5, qm 12 0, qe 13 12, qk 14 .lss 11 13]
def f23r5 : List Abs.Op := [qM 17 0, qM 18 5, qJ 19 1 17 18, qL 20 1 19, qM 21 1, qM 22 5, qJ 23 1 21 22, qL 24 1 23, qk 25 .neq 20 24]
def f23r6 : List Abs.Op := [qb 4 false]
def f23r7 : List Abs.Op := [qm 15 5, qn 16 .add 15 1, qm 5 16]
def f_law12_ints_l8 : Abs.Cmd :=
  (.seq (.seq (.reg [0, 1, 5, 14] f23r4) (.ite (.t 14) .nop (.exit 0))) (.seq (.blk 1 (.seq (.reg [0, 1, 5, 25] f23r5) (.ite (.t 25) (.seq (.reg [4] f23r6) .ret) .nop))) (.reg [0, 1, 5] f23r7)))

def f23r9 : List Abs.Op := [qb 4 true]
def a_law12_ints : Ann := ⟨[(8, [4]), (5, [0, 1, 5]), (7, [4]), (6, [0, 1, 5, 25]), (4, [0, 1, 5, 14]), (3, [0, 1, 5]), (2, [4]), (1, [0, 1, 10]), (0, [0, 1])], [(0, [0, 1, 5])], [], [], [], [], [], [], [], [], []⟩
def f_law12_ints : Abs.Fn := ⟨2, [.t 4],
  (.seq (.reg [0, 1] f23r0) (.seq (.seq (.reg [0, 1, 10] f23r1) (.ite (.t 10) (.seq (.reg [4] f23r2) .ret) .nop)) (.seq (.seq (.reg [0, 1, 5] f23r3) (.blk 0 (.loop [0, 1, 5] false f_law12_ints_l8))) (.seq (.reg [4] f23r9) .ret))))⟩
theorem e_law12_ints_l8 : type_of% f_law12_ints_l8.eq_1 := by_rfl f_law12_ints_l8.eq_1
theorem e_law12_ints : type_of% f_law12_ints.eq_1 := by_rfl f_law12_ints.eq_1
theorem ok_law12_ints : fnC Tryz.prog a_law12_ints Tryz.f23 = some f_law12_ints := by kernel_rfl

/-! 25 fumarole/logbook.Report -/
def f25r0 : List Abs.Op := [qo 2 (.mv (.c (.str []))), qi 3 0]
def f25r1 : List Abs.Op := [qm 14 0, qc 15 i_logbook_check [14], qm 4 15]
def f25r2 : List Abs.Op := [qm 16 4, qn 17 .neq 16 0]
def f25r3 : List Abs.Op := [qm 18 4, qo 2 (.mv (.c (.str []))), qm 3 18]
def f25r4 : List Abs.Op := [qm 20 0, qo 21 (.call true (.c (.fn i_logbook_run [] [])) [(.t 20)]), qm 19 21, qz 22 19 0, qz 23 19 1, qm 5 22, qm 6 23]
def f25r5 : List Abs.Op := [qo 7 (.mp (.bld 166 5) [])]
def f25r6 : List Abs.Op := [qo 24 (.mkf i_logbook_Report_1 [] [(.t 7)]), qm 8 24]
def f25r7 : List Abs.Op := [qo 9 (.mv (.c (.fn i_strconv_Itoa [] [])))]
def f25r8 : List Abs.Op := [qM 25 8, qM 26 9, qM 27 5, qO 28 (.nck (.t 27)), qF 29 0 28, qF 30 10 29, qL 31 1 30, qE 32 31, qO 33 (.call false (.t 26) [(.t 32)]), qM 34 9, qM 35 5, qC 36 i_logbook_book_colour [35], qO 37 (.cvt .i64 (.t 36)), qO 38 (.call false (.t 34) [(.t 37)]), qM 39 9, qM 40 5, qO 41 (.nck (.t 40)), qF 42 0 41, qF 43 0 42, qF 44 8 43, qL 45 1 44, qE 46 45, qO 47 (.call false (.t 39) [(.t 46)]), qO 48 (.bsi 6 1 [(.str []), (.str []), (.str []), (.str []), (.str []), (.str [])] [(0, 1, (.c (.str [116, 105, 99, 107, 115]))), (1, 1, (.t 33)), (2, 1, (.c (.str [99, 111, 108, 111, 117, 114]))), (3, 1, (.t 38)), (4, 1, (.c (.str [119, 101, 108, 108, 115]))), (5, 1, (.t 47))]), qo 49 (.call false (.t 25) [(.t 48)])]
def f25r9 : List Abs.Op := [qm 50 5, qo 51 (.nck (.t 50)), qf 52 0 51, qf 53 9 52, ql 54 1 53, qe 55 54, qi 56 0]
def f25r10 : List Abs.Op := [qk 57 .lss 56 55]
def f25r11 : List Abs.Op := [qj 58 4 54 56, qa 59 4 58, qo 11 (.alcv [] [(.str []), .nils, (.bool false), (.int .i64 0)]), qs 11 4 11 59]
def f25r12 : List Abs.Op := [qf 60 2 11, qv 61 11 1 60]
def f25r13 : List Abs.Op := [qm 62 8, qf 63 0 11, qf 64 0 63, qv 65 11 1 64, qo 66 (.bsi 3 1 [(.str []), (.str []), (.str [])] [(0, 1, (.c (.str [109, 111, 100, 101, 108]))), (1, 1, (.t 65)), (2, 1, (.c (.str [108, 101, 102, 116])))]), qo 67 (.call false (.t 62) [(.t 66)])]
def f25r14 : List Abs.Op := [qM 68 8, qF 69 0 11, qF 70 0 69, qV 71 11 1 70, qM 72 9, qF 73 3 11, qV 74 11 1 73, qO 75 (.call false (.t 72) [(.t 74)]), qO 76 (.bsi 4 1 [(.str []), (.str []), (.str []), (.str [])] [(0, 1, (.c (.str [109, 111, 100, 101, 108]))), (1, 1, (.t 71)), (2, 1, (.c (.str [115, 116, 114, 117, 99, 107]))), (3, 1, (.t 75))]), qo 77 (.call false (.t 68) [(.t 76)])]
def f25r15 : List Abs.Op := [qn 78 .add 56 1, qm 56 78]
def f_logbook_Report_l16 : Abs.Cmd :=
  (.seq (.reg [5, 7, 8, 9, 54, 55, 56, 57] f25r10) (.seq (.ite (.t 57) .nop (.exit 0)) (.seq (.blk 1 (.seq (.reg [5, 7, 8, 9, 11, 54, 55, 56] f25r11) (.seq (.reg [5, 7, 8, 9, 11, 54, 55, 56, 61] f25r12) (.ite (.t 61) (.reg [5, 7, 8, 9, 54, 55, 56] f25r13) (.reg [5, 7, 8, 9, 54, 55, 56] f25r14))))) (.reg [5, 7, 8, 9, 54, 55, 56] f25r15))))

def f25r17 : List Abs.Op := [qm 79 5, qo 80 (.nck (.t 79)), qf 81 0 80, qf 82 17 81, ql 83 1 82, qe 84 83, qi 85 0]
def f25r18 : List Abs.Op := [qk 86 .lss 85 84]
def f25r19 : List Abs.Op := [qm 87 85, qj 88 6 83 85, qa 89 6 88, qo 13 (.alcv [] [(.int .i64 0), (.int .i64 0), (.int .i64 0), (.int .i64 0), (.int .i64 0), (.int .i64 0)]), qm 12 87, qs 13 6 13 89]
def f25r20 : List Abs.Op := [qM 90 8, qM 91 9, qM 92 12, qO 93 (.call false (.t 91) [(.t 92)]), qM 94 9, qF 95 0 13, qV 96 13 1 95, qO 97 (.call false (.t 94) [(.t 96)]), qM 98 9, qF 99 1 13, qV 100 13 1 99, qO 101 (.call false (.t 98) [(.t 100)]), qF 102 2 13, qW 103 13 2 102, qC 104 i_logbook_Range_text [103], qF 105 4 13, qW 106 13 2 105, qC 107 i_logbook_Range_text [106], qO 108 (.bsi 10 1 [(.str []), (.str []), (.str []), (.str []), (.str []), (.str []), (.str []), (.str []), (.str []), (.str [])] [(0, 1, (.c (.str [115, 97, 108, 101]))), (1, 1, (.t 93)), (2, 1, (.c (.str [116, 105, 99, 107]))), (3, 1, (.t 97)), (4, 1, (.c (.str [119, 101, 108, 108]))), (5, 1, (.t 101)), (6, 1, (.c (.str [119, 111, 114, 107]))), (7, 1, (.t 104)), (8, 1, (.c (.str [109, 111, 110, 101, 121]))), (9, 1, (.t 107))]), qo 109 (.call false (.t 90) [(.t 108)])]
def f25r21 : List Abs.Op := [qn 110 .add 85 1, qm 85 110]
def f_logbook_Report_l22 : Abs.Cmd :=
  (.seq (.reg [7, 8, 9, 83, 84, 85, 86] f25r18) (.seq (.ite (.t 86) .nop (.exit 2)) (.seq (.blk 3 (.seq (.reg [7, 8, 9, 12, 13, 83, 84, 85] f25r19) (.reg [7, 8, 9, 83, 84, 85] f25r20))) (.reg [7, 8, 9, 83, 84, 85] f25r21))))

def f25r23 : List Abs.Op := [qc 111 i_strings_Builder_String [7], qm 2 111, qi 3 0]
def a_logbook_Report : Ann := ⟨[(21, [2, 3]), (20, [7, 8, 9, 83, 84, 85]), (19, [7, 8, 9, 83, 84, 85]), (18, [7, 8, 9, 12, 13, 83, 84, 85]), (17, [7, 8, 9, 83, 84, 85, 86]), (16, [7, 8, 9, 83, 84, 85]), (15, [5, 7, 8, 9, 54, 55, 56]), (13, [5, 7, 8, 9, 54, 55, 56]), (14, [5, 7, 8, 9, 54, 55, 56]), (12, [5, 7, 8, 9, 11, 54, 55, 56, 61]), (11, [5, 7, 8, 9, 11, 54, 55, 56]), (10, [5, 7, 8, 9, 54, 55, 56, 57]), (9, [5, 7, 8, 9, 54, 55, 56]), (8, [5, 7, 8, 9]), (7, [5, 7, 8, 9]), (6, [5, 7, 8]), (5, [5, 7]), (4, [5]), (3, [2, 3]), (2, [0, 4, 17]), (1, [0, 4]), (0, [0])], [(2, [7, 8, 9, 83, 84, 85]), (0, [5, 7, 8, 9, 54, 55, 56])], [], [7, 11, 13], [11, 13], [], [4001, 2005000], [], [], [], []⟩
def f_logbook_Report : Abs.Fn := ⟨1, [.t 2, .t 3],
  (.seq (.reg [0] f25r0) (.seq (.seq (.reg [0, 4] f25r1) (.seq (.reg [0, 4, 17] f25r2) (.ite (.t 17) (.seq (.reg [2, 3] f25r3) .ret) .nop))) (.seq (.reg [5] f25r4) (.seq (.reg [5, 7] f25r5) (.seq (.reg [5, 7, 8] f25r6) (.seq (.reg [5, 7, 8, 9] f25r7) (.seq (.reg [5, 7, 8, 9] f25r8) (.seq (.seq (.reg [5, 7, 8, 9, 54, 55, 56] f25r9) (.blk 0 (.loop [5, 7, 8, 9, 54, 55, 56] false f_logbook_Report_l16))) (.seq (.seq (.reg [7, 8, 9, 83, 84, 85] f25r17) (.blk 2 (.loop [7, 8, 9, 83, 84, 85] false f_logbook_Report_l22))) (.seq (.reg [2, 3] f25r23) .ret))))))))))⟩
theorem e_logbook_Report_l16 : type_of% f_logbook_Report_l16.eq_1 := by_rfl f_logbook_Report_l16.eq_1
theorem e_logbook_Report_l22 : type_of% f_logbook_Report_l22.eq_1 := by_rfl f_logbook_Report_l22.eq_1
theorem e_logbook_Report : type_of% f_logbook_Report.eq_1 := by_rfl f_logbook_Report.eq_1
theorem ok_logbook_Report : fnC Tryz.prog a_logbook_Report Tryz.f25 = some f_logbook_Report := by kernel_rfl

/-! 27 fumarole/logbook.Run -/
def f27r0 : List Abs.Op := [qo 2 (.alcv [] [(.int .i64 0), (.int .i64 0), (.int .i64 0), (.int .i64 0), .nils, (.int .i64 0), (.int .i64 0), (.int .i64 0), .nils, .nils, .nils, .nils, .nils, (.int .i64 0), (.int .i64 0), (.int .i64 0), .nils, .nils]), qo 3 (.mv (.c .nils)), qi 4 0]
def f27r1 : List Abs.Op := [qm 8 0, qc 9 i_logbook_check [8], qm 5 9]
def f27r2 : List Abs.Op := [qm 10 5, qn 11 .neq 10 0]
def f27r3 : List Abs.Op := [qo 12 (.bld [(.int .i64 0), (.int .i64 0), (.int .i64 0), (.int .i64 0), .nils, (.int .i64 0), (.int .i64 0), (.int .i64 0), .nils, .nils, .nils, .nils, .nils, (.int .i64 0), (.int .i64 0), (.int .i64 0), .nils, .nils] []), qm 13 5, qs 2 18 2 12, qo 3 (.mv (.c .nils)), qm 4 13]
def f27r4 : List Abs.Op := [qm 15 0, qo 16 (.call true (.c (.fn i_logbook_run [] [])) [(.t 15)]), qm 14 16, qz 17 14 0, qz 18 14 1, qm 6 17, qm 7 18]
def f27r5 : List Abs.Op := [qm 19 6, qo 20 (.nck (.t 19)), qf 21 0 20, qa 22 18 21, qm 23 7, qs 2 18 2 22, qm 3 23, qi 4 0]
def a_logbook_Run : Ann := ⟨[(5, [2, 3, 4]), (4, [2, 6, 7]), (3, [2, 3, 4]), (2, [0, 2, 5, 11]), (1, [0, 2, 5]), (0, [0, 2])], [], [], [2], [2], [], [4001], [], [], [], []⟩
def f_logbook_Run : Abs.Fn := ⟨1, [.v 2 true 18, .t 3, .t 4],
  (.seq (.reg [0, 2] f27r0) (.seq (.seq (.reg [0, 2, 5] f27r1) (.seq (.reg [0, 2, 5, 11] f27r2) (.ite (.t 11) (.seq (.reg [2, 3, 4] f27r3) .ret) .nop))) (.seq (.reg [2, 6, 7] f27r4) (.seq (.reg [2, 3, 4] f27r5) .ret))))⟩
theorem e_logbook_Run : type_of% f_logbook_Run.eq_1 := by_rfl f_logbook_Run.eq_1
theorem ok_logbook_Run : fnC Tryz.prog a_logbook_Run Tryz.f27 = some f_logbook_Run := by kernel_rfl

/-! 30 fumarole/field.Sum -/
def f30r0 : List Abs.Op := [qx 3 0, qx 4 1, qx 5 2, qi 6 0, qi 7 0]
def f30r1 : List Abs.Op := [qa 9 4 3, qo 10 (.mkf i_field_Field_shape [(.t 9)] []), qo 11 (.mkf i_field_Sum_1 [] [(.t 3), (.t 4)]), qo 12 (.mkf i_field_Sum_2 [] [(.t 3), (.t 5)]), qo 13 (.bsi 3 1 [.nilf, .nilf, .nilf] [(0, 1, (.t 10)), (1, 1, (.t 11)), (2, 1, (.t 12))]), qc 14 i_field_first [13], qm 8 14]
def f30r2 : List Abs.Op := [qm 15 8, qn 16 .neq 15 0]
def f30r3 : List Abs.Op := [qm 17 8, qi 6 0, qm 7 17]
def f30r4 : List Abs.Op := [qA 18 4 3, qA 19 6 5, qC 20 i_field_Field_weighs [18, 19], qA 21 2 4, qo 22 (.call false (.t 20) [(.t 21)]), qm 6 22, qi 7 0]
def a_field_Sum : Ann := ⟨[(4, [6, 7]), (3, [6, 7]), (2, [3, 4, 5, 8, 16]), (1, [3, 4, 5, 8]), (0, [3, 4, 5])], [], [], [], [], [], [], [], [], [], []⟩
def f_field_Sum : Abs.Fn := ⟨3, [.t 6, .t 7],
  (.seq (.reg [3, 4, 5] f30r0) (.seq (.seq (.reg [3, 4, 5, 8] f30r1) (.seq (.reg [3, 4, 5, 8, 16] f30r2) (.ite (.t 16) (.seq (.reg [6, 7] f30r3) .ret) .nop))) (.seq (.reg [6, 7] f30r4) .ret)))⟩
theorem e_field_Sum : type_of% f_field_Sum.eq_1 := by_rfl f_field_Sum.eq_1
theorem ok_field_Sum : fnC Tryz.prog a_field_Sum Tryz.f30 = some f_field_Sum := by kernel_rfl

/-! 31 fumarole/rock.Strikes -/
def f31r0 : List Abs.Op := [qx 4 0, qo 8 (.nilb 1), qo 9 (.nilb 3), qo 10 (.alc [] [(.int .i64 0)])]
def f31r1 : List Abs.Op := [qa 22 9 4, qm 23 1, qm 24 2, qc 25 i_rock_ready [22, 23, 24], qm 11 25]
def f31r2 : List Abs.Op := [qm 26 11, qn 27 .neq 26 0]
def f31r3 : List Abs.Op := [qm 28 11, qo 8 (.nilb 1), qo 9 (.nilb 3), qt 1 10 28]
def f31r4 : List Abs.Op := [qm 29 3, qe 30 29, qn 31 .gtr 30 40]
def f31r5 : List Abs.Op := [qo 8 (.nilb 1), qo 9 (.nilb 3), ⟨none, none, false, .st [] 1 (.t 10) (.c (.int .i64 3))⟩]
def f31r6 : List Abs.Op := [qm 32 3, qe 33 32, qi 34 0]
def f31r7 : List Abs.Op := [qk 35 .lss 34 33]
def f31r8 : List Abs.Op := [qj 36 5 32 34, qa 37 5 36, qo 13 (.alcv [] [(.int .i64 0), (.int .u8 0), (.int .i64 0), (.int .i64 0), (.int .i64 0)]), qs 13 5 13 37]
def f31r9 : List Abs.Op := [qa 38 9 4, qw 39 13 5 13, qm 40 2, qe 41 40, qc 42 i_rock_Bed_reading [38, 39, 41], qm 14 42]
def f31r10 : List Abs.Op := [qm 43 14, qn 44 .neq 43 0]
def f31r11 : List Abs.Op := [qm 45 14, qo 8 (.nilb 1), qo 9 (.nilb 3), qt 1 10 45]
def f31r12 : List Abs.Op := [qn 46 .add 34 1, qm 34 46]
def f_rock_Strikes_l13 : Abs.Cmd :=
  (.seq (.reg [1, 2, 3, 4, 8, 9, 10, 32, 33, 34, 35] f31r7) (.seq (.ite (.t 35) .nop (.exit 0)) (.seq (.blk 1 (.seq (.reg [1, 2, 3, 4, 8, 9, 10, 13, 32, 33, 34] f31r8) (.seq (.reg [1, 2, 3, 4, 8, 9, 10, 14, 32, 33, 34] f31r9) (.seq (.reg [1, 2, 3, 4, 8, 9, 10, 14, 32, 33, 34, 44] f31r10) (.ite (.t 44) (.seq (.reg [8, 9, 10] f31r11) .ret) .nop))))) (.reg [1, 2, 3, 4, 8, 9, 10, 32, 33, 34] f31r12))))

def f31r14 : List Abs.Op := [qa 47 9 4, qm 48 1, qm 49 2]
def f31r15 : List Abs.Op := [qm 15 50]
def f31r16 : List Abs.Op := [qm 51 1, qe 52 51, qi 53 0]
def f31r17 : List Abs.Op := [qk 54 .lss 53 52]
def f31r18 : List Abs.Op := [qm 55 53, qj 56 2 51 53, qa 57 2 56, qo 17 (.alcv [] [(.str []), .nils]), qm 16 55, qs 17 2 17 57]
def f31r19 : List Abs.Op := [qm 58 3, qe 59 58, qm 18 59]
def f31r20 : List Abs.Op := [qm 60 3, qe 61 60, qi 62 0]
def f31r21 : List Abs.Op := [qk 63 .lss 62 61]
def f31r22 : List Abs.Op := [qm 64 62, qj 65 5 60 62, qa 66 5 65, qo 20 (.alcv [] [(.int .i64 0), (.int .u8 0), (.int .i64 0), (.int .i64 0), (.int .i64 0)]), qm 19 64, qs 20 5 20 66]
def f31r23 : List Abs.Op := [qF 67 3 20, qW 68 20 2 67, qA 69 9 4, qW 70 17 2 17, qO 71 (.bld [(.int .i64 0), (.int .i64 0), (.int .i64 0), (.int .i64 0), .nils, (.int .i64 0), (.int .i64 0), (.int .i64 0), .nils, (.str []), .nils] [(0, 9, (.t 69)), (9, 2, (.t 70))]), qM 72 15, qM 73 16, qJ 74 2 72 73, qA 75 2 74, qW 76 20 5 20, qC 77 i_rock_bedded_value [71, 75, 76], qc 78 i_rock_Range_miss [68, 77], qm 21 78]
def f31r24 : List Abs.Op := [qm 79 21, qn 80 .neq 79 0, qm 81 80, qg 81 true (qm 82 18), qg 81 true (qm 83 3), qg 81 true (qe 84 83), qg 81 true (qk 85 .eql 82 84), qp 86 81 85]
def f31r25 : List Abs.Op := [qm 87 19, qm 18 87]
def f31r26 : List Abs.Op := [qm 88 9, qm 89 16, qm 90 19, qm 91 21, qo 92 (.bld [(.int .i64 0), (.int .i64 0), (.int .i64 0)] [(0, 1, (.t 89)), (1, 1, (.t 90)), (2, 1, (.t 91))]), qo 93 (.bsi 1 3 [(.int .i64 0), (.int .i64 0), (.int .i64 0)] [(0, 3, (.t 92))]), qy 94 3 24 88 93, qm 9 94]
def f31r27 : List Abs.Op := [qn 95 .add 62 1, qm 62 95]
def f_rock_Strikes_l28 : Abs.Cmd :=
  (.seq (.reg [3, 4, 8, 9, 10, 15, 16, 17, 18, 51, 52, 53, 60, 61, 62, 63] f31r21) (.seq (.ite (.t 63) .nop (.exit 4)) (.seq (.blk 5 (.seq (.reg [3, 4, 8, 9, 10, 15, 16, 17, 18, 19, 20, 51, 52, 53, 60, 61, 62] f31r22) (.seq (.reg [3, 4, 8, 9, 10, 15, 16, 17, 18, 19, 21, 51, 52, 53, 60, 61, 62] f31r23) (.seq (.reg [3, 4, 8, 9, 10, 15, 16, 17, 18, 19, 21, 51, 52, 53, 60, 61, 62, 86] f31r24) (.ite (.t 86) (.seq (.reg [3, 4, 8, 9, 10, 15, 16, 17, 18, 19, 21, 51, 52, 53, 60, 61, 62] f31r25) (.reg [3, 4, 8, 9, 10, 15, 16, 17, 18, 51, 52, 53, 60, 61, 62] f31r26)) .nop))))) (.reg [3, 4, 8, 9, 10, 15, 16, 17, 18, 51, 52, 53, 60, 61, 62] f31r27))))

def f31r29 : List Abs.Op := [qm 96 18, qm 97 3, qe 98 97, qk 99 .eql 96 98]
def f31r30 : List Abs.Op := [qm 100 8, qm 101 16, qo 102 (.bsi 1 1 [(.int .i64 0)] [(0, 1, (.t 101))]), qy 103 1 8 100 102, qm 8 103]
def f31r31 : List Abs.Op := [qn 104 .add 53 1, qm 53 104]
def f_rock_Strikes_l32 : Abs.Cmd :=
  (.seq (.reg [3, 4, 8, 9, 10, 15, 51, 52, 53, 54] f31r17) (.seq (.ite (.t 54) .nop (.exit 2)) (.seq (.blk 3 (.seq (.reg [3, 4, 8, 9, 10, 15, 16, 17, 51, 52, 53] f31r18) (.seq (.reg [3, 4, 8, 9, 10, 15, 16, 17, 18, 51, 52, 53] f31r19) (.seq (.seq (.reg [3, 4, 8, 9, 10, 15, 16, 17, 18, 51, 52, 53, 60, 61, 62] f31r20) (.blk 4 (.loop [3, 4, 8, 9, 10, 15, 16, 17, 18, 51, 52, 53, 60, 61, 62] false f_rock_Strikes_l28))) (.seq (.reg [3, 4, 8, 9, 10, 15, 16, 51, 52, 53, 99] f31r29) (.ite (.t 99) (.reg [3, 4, 8, 9, 10, 15, 51, 52, 53] f31r30) .nop)))))) (.reg [3, 4, 8, 9, 10, 15, 51, 52, 53] f31r31))))

def f31r33 : List Abs.Op := [qm 105 8, qm 106 9, qm 8 105, qm 9 106, ⟨none, none, false, .st [] 1 (.t 10) (.c (.int .i64 0))⟩]
def f_rock_Strikes_b34 : Abs.Cmd :=
  (.seq (.treg [1, 3, 4, 8, 9, 10, 15] f31r14 ⟨some 50, none, false, .call false (.c (.fn i_rock_runs [] [])) [(.t 47), (.t 48), (.t 49)]⟩ f31r15) (.seq (.seq (.reg [3, 4, 8, 9, 10, 15, 51, 52, 53] f31r16) (.blk 2 (.loop [3, 4, 8, 9, 10, 15, 51, 52, 53] false f_rock_Strikes_l32))) (.seq (.reg [8, 9, 10] f31r33) .ret)))

def a_rock_Strikes : Ann := ⟨[(30, [8, 9, 10]), (29, [3, 4, 8, 9, 10, 15, 51, 52, 53]), (28, [3, 4, 8, 9, 10, 15, 51, 52, 53]), (27, [3, 4, 8, 9, 10, 15, 16, 51, 52, 53, 99]), (26, [3, 4, 8, 9, 10, 15, 16, 17, 18, 51, 52, 53, 60, 61, 62]), (25, [3, 4, 8, 9, 10, 15, 16, 17, 18, 51, 52, 53, 60, 61, 62]), (24, [3, 4, 8, 9, 10, 15, 16, 17, 18, 19, 21, 51, 52, 53, 60, 61, 62]), (23, [3, 4, 8, 9, 10, 15, 16, 17, 18, 19, 21, 51, 52, 53, 60, 61, 62, 86]), (22, [3, 4, 8, 9, 10, 15, 16, 17, 18, 19, 21, 51, 52, 53, 60, 61, 62]), (21, [3, 4, 8, 9, 10, 15, 16, 17, 18, 19, 20, 51, 52, 53, 60, 61, 62]), (20, [3, 4, 8, 9, 10, 15, 16, 17, 18, 51, 52, 53, 60, 61, 62, 63]), (19, [3, 4, 8, 9, 10, 15, 16, 17, 18, 51, 52, 53, 60, 61, 62]), (18, [3, 4, 8, 9, 10, 15, 16, 17, 18, 51, 52, 53]), (17, [3, 4, 8, 9, 10, 15, 16, 17, 51, 52, 53]), (16, [3, 4, 8, 9, 10, 15, 51, 52, 53, 54]), (15, [3, 4, 8, 9, 10, 15, 51, 52, 53]), (14, [1, 3, 4, 8, 9, 10, 15]), (13, [1, 2, 3, 4, 8, 9, 10]), (12, [1, 2, 3, 4, 8, 9, 10, 32, 33, 34]), (11, [8, 9, 10]), (10, [1, 2, 3, 4, 8, 9, 10, 14, 32, 33, 34, 44]), (9, [1, 2, 3, 4, 8, 9, 10, 14, 32, 33, 34]), (8, [1, 2, 3, 4, 8, 9, 10, 13, 32, 33, 34]), (7, [1, 2, 3, 4, 8, 9, 10, 32, 33, 34, 35]), (6, [1, 2, 3, 4, 8, 9, 10, 32, 33, 34]), (5, [8, 9, 10]), (4, [1, 2, 3, 4, 8, 9, 10, 31]), (3, [8, 9, 10]), (2, [1, 2, 3, 4, 8, 9, 10, 11, 27]), (1, [1, 2, 3, 4, 8, 9, 10, 11]), (0, [1, 2, 3, 4, 8, 9, 10])], [(4, [3, 4, 8, 9, 10, 15, 16, 17, 18, 51, 52, 53, 60, 61, 62]), (2, [3, 4, 8, 9, 10, 15, 51, 52, 53]), (0, [1, 2, 3, 4, 8, 9, 10, 32, 33, 34])], [0], [8, 9, 10, 13, 17, 20], [13, 17, 20], [], [], [(0, [0, 1000002])], [], [], [(14, some 3)]⟩
def f_rock_Strikes : Abs.Fn := ⟨4, [.t 8, .t 9, .c 10 false 1],
  (.seq (.seq (.frz [0, 1000002]) (.reg [1, 2, 3, 4, 8, 9, 10] f31r0)) (.seq (.seq (.reg [1, 2, 3, 4, 8, 9, 10, 11] f31r1) (.seq (.reg [1, 2, 3, 4, 8, 9, 10, 11, 27] f31r2) (.ite (.t 27) (.seq (.reg [8, 9, 10] f31r3) .ret) .nop))) (.seq (.seq (.reg [1, 2, 3, 4, 8, 9, 10, 31] f31r4) (.ite (.t 31) (.seq (.reg [8, 9, 10] f31r5) .ret) .nop)) (.seq (.seq (.reg [1, 2, 3, 4, 8, 9, 10, 32, 33, 34] f31r6) (.blk 0 (.loop [1, 2, 3, 4, 8, 9, 10, 32, 33, 34] true f_rock_Strikes_l13))) (.dfr (.c (.fn i_rock_caught [] [])) [(.t 10)] f_rock_Strikes_b34)))))⟩
theorem e_rock_Strikes_l13 : type_of% f_rock_Strikes_l13.eq_1 := by_rfl f_rock_Strikes_l13.eq_1
theorem e_rock_Strikes_l28 : type_of% f_rock_Strikes_l28.eq_1 := by_rfl f_rock_Strikes_l28.eq_1
theorem e_rock_Strikes_l32 : type_of% f_rock_Strikes_l32.eq_1 := by_rfl f_rock_Strikes_l32.eq_1
theorem e_rock_Strikes_b34 : type_of% f_rock_Strikes_b34.eq_1 := by_rfl f_rock_Strikes_b34.eq_1
theorem e_rock_Strikes : type_of% f_rock_Strikes.eq_1 := by_rfl f_rock_Strikes.eq_1
theorem ok_rock_Strikes : fnC Tryz.prog a_rock_Strikes Tryz.f31 = some f_rock_Strikes := by kernel_rfl

/-! 32 fumarole/tremor.Light -/
def f32r0 : List Abs.Op := [qo 6 (.mv (.c (.int .u8 0))), qo 7 (.mv (.c (.int .u8 0))), qi 8 0]
def f32r1 : List Abs.Op := [qm 17 0, qe 18 17, qn 19 .gtr 18 20, qm 16 19]
def f32r2 : List Abs.Op := [qo 6 (.mv (.c (.int .u8 0))), qo 7 (.mv (.c (.int .u8 0))), qi 8 3]
def f32r3 : List Abs.Op := [qm 21 0, qo 22 (.call false (.c (.fn i_tremor_all_tremor_Rule [] [])) [(.t 21), (.c (.fn i_tremor_Rule_valid [] []))]), qu 23 22, qm 20 23]
def f32r4 : List Abs.Op := [qo 6 (.mv (.c (.int .u8 0))), qo 7 (.mv (.c (.int .u8 0))), qi 8 1]
def f32r5 : List Abs.Op := [qm 25 1, qe 26 25, qn 27 .gtr 26 200, qm 24 27]
def f32r6 : List Abs.Op := [qo 6 (.mv (.c (.int .u8 0))), qo 7 (.mv (.c (.int .u8 0))), qi 8 3]
def f32r7 : List Abs.Op := [qm 29 1, qo 30 (.call false (.c (.fn i_tremor_all_tremor_Event [] [])) [(.t 29), (.c (.fn i_tremor_Event_valid [] []))]), qu 31 30, qm 28 31]
def f32r8 : List Abs.Op := [qo 6 (.mv (.c (.int .u8 0))), qo 7 (.mv (.c (.int .u8 0))), qi 8 1]
def f32r9 : List Abs.Op := [qm 33 2, qo 34 (.call false (.c (.fn i_tremor_within [] [])) [(.t 33), (.c (.int .i64 0)), (.c (.int .i64 1000000))]), qu 35 34, qm 32 35]
def f32r10 : List Abs.Op := [qo 6 (.mv (.c (.int .u8 0))), qo 7 (.mv (.c (.int .u8 0))), qi 8 2]
def f32r11 : List Abs.Op := [qm 36 0, qe 37 36, qi 38 0]
def f32r12 : List Abs.Op := [qk 39 .lss 38 37]
def f32r13 : List Abs.Op := [qj 40 10 36 38, qa 41 10 40, qo 10 (.alcv [] [(.int .i64 0), (.int .i64 0), (.int .i64 0), (.int .i64 0), (.int .i64 0), (.int .i64 0), (.int .i64 0), (.int .i64 0), (.int .i64 0), (.int .u8 0)]), qs 10 10 10 41]
def f32r14 : List Abs.Op := [qi 11 0, qi 12 0]
def f32r15 : List Abs.Op := [qw 42 10 10 10, qo 43 (.mkf i_tremor_Rule_counts [(.t 42)] []), qm 13 43]
def f32r16 : List Abs.Op := [qm 44 1, qe 45 44, qi 46 0]
def f32r17 : List Abs.Op := [qk 47 .lss 46 45]
def f32r18 : List Abs.Op := [qj 48 2 44 46, qa 49 2 48, qo 15 (.alcv [] [(.int .i64 0), .nils]), qs 15 2 15 49]
def f32r19 : List Abs.Op := [qf 50 0 15, qv 51 15 1 50, qm 52 2, qk 53 .gtr 51 52, qm 54 53, qg 54 false (qf 55 0 15), qg 54 false (qv 56 15 1 55), qg 54 false (qm 57 2), qg 54 false (qf 58 7 10), qg 54 false (qv 59 10 1 58), qg 54 false (qk 60 .sub 57 59), qg 54 false (qk 61 .leq 56 60), qP 62 54 61]
def f32r20 : List Abs.Op := [qf 63 1 15, qv 64 15 1 63, qm 65 13, qc 66 i_slices_ContainsFunc_tremor_Spot [64, 65]]
def f32r21 : List Abs.Op := [qm 67 11, qn 68 .add 67 1, qm 11 68]
def f32r22 : List Abs.Op := [qf 69 1 15, qv 70 15 1 69, qm 71 13, qc 72 i_tremor_all_tremor_Spot [70, 71]]
def f32r23 : List Abs.Op := [qm 73 12, qn 74 .add 73 1, qm 12 74]
def f32r24 : List Abs.Op := [qn 75 .add 46 1, qm 46 75]
def f_tremor_Light_l25 : Abs.Cmd :=
  (.seq (.reg [1, 2, 6, 7, 10, 11, 12, 13, 36, 37, 38, 44, 45, 46, 47] f32r17) (.seq (.ite (.t 47) .nop (.exit 3)) (.seq (.blk 4 (.seq (.reg [1, 2, 6, 7, 10, 11, 12, 13, 15, 36, 37, 38, 44, 45, 46] f32r18) (.seq (.seq (.reg [1, 2, 6, 7, 10, 11, 12, 13, 15, 36, 37, 38, 44, 45, 46, 62] f32r19) (.ite (.t 62) (.exit 4) .nop)) (.seq (.seq (.reg [1, 2, 6, 7, 10, 11, 12, 13, 15, 36, 37, 38, 44, 45, 46, 66] f32r20) (.ite (.t 66) (.reg [1, 2, 6, 7, 10, 11, 12, 13, 15, 36, 37, 38, 44, 45, 46] f32r21) .nop)) (.seq (.reg [1, 2, 6, 7, 10, 11, 12, 13, 36, 37, 38, 44, 45, 46, 72] f32r22) (.ite (.t 72) (.reg [1, 2, 6, 7, 10, 11, 12, 13, 36, 37, 38, 44, 45, 46] f32r23) .nop)))))) (.reg [1, 2, 6, 7, 10, 11, 12, 13, 36, 37, 38, 44, 45, 46] f32r24))))

def f32r26 : List Abs.Op := [qm 76 11, qf 77 8 10, qv 78 10 1 77, qk 79 .geq 76 78]
def f32r27 : List Abs.Op := [qm 80 6, qf 81 9 10, qv 82 10 1 81, qo 83 (.mx (.t 80) (.t 82)), qm 6 83]
def f32r28 : List Abs.Op := [qm 84 12, qf 85 8 10, qv 86 10 1 85, qk 87 .geq 84 86]
def f32r29 : List Abs.Op := [qm 88 7, qf 89 9 10, qv 90 10 1 89, qo 91 (.mx (.t 88) (.t 90)), qm 7 91]
def f32r30 : List Abs.Op := [qn 92 .add 38 1, qm 38 92]
def f_tremor_Light_l31 : Abs.Cmd :=
  (.seq (.reg [1, 2, 6, 7, 36, 37, 38, 39] f32r12) (.seq (.ite (.t 39) .nop (.exit 1)) (.seq (.blk 2 (.seq (.reg [1, 2, 6, 7, 10, 36, 37, 38] f32r13) (.seq (.reg [1, 2, 6, 7, 10, 11, 12, 36, 37, 38] f32r14) (.seq (.reg [1, 2, 6, 7, 10, 11, 12, 13, 36, 37, 38] f32r15) (.seq (.seq (.reg [1, 2, 6, 7, 10, 11, 12, 13, 36, 37, 38, 44, 45, 46] f32r16) (.blk 3 (.loop [1, 2, 6, 7, 10, 11, 12, 13, 36, 37, 38, 44, 45, 46] false f_tremor_Light_l25))) (.seq (.seq (.reg [1, 2, 6, 7, 10, 12, 36, 37, 38, 79] f32r26) (.ite (.t 79) (.reg [1, 2, 6, 7, 10, 12, 36, 37, 38] f32r27) .nop)) (.seq (.reg [1, 2, 6, 7, 10, 36, 37, 38, 87] f32r28) (.ite (.t 87) (.reg [1, 2, 6, 7, 36, 37, 38] f32r29) .nop)))))))) (.reg [1, 2, 6, 7, 36, 37, 38] f32r30))))

def f32r32 : List Abs.Op := [qm 93 6, qm 94 7, qm 6 93, qm 7 94, qi 8 0]
def a_tremor_Light : Ann := ⟨[(30, [6, 7, 8]), (29, [1, 2, 6, 7, 36, 37, 38]), (28, [1, 2, 6, 7, 36, 37, 38]), (27, [1, 2, 6, 7, 10, 36, 37, 38, 87]), (26, [1, 2, 6, 7, 10, 12, 36, 37, 38]), (25, [1, 2, 6, 7, 10, 12, 36, 37, 38, 79]), (24, [1, 2, 6, 7, 10, 11, 12, 13, 36, 37, 38, 44, 45, 46]), (23, [1, 2, 6, 7, 10, 11, 12, 13, 36, 37, 38, 44, 45, 46]), (22, [1, 2, 6, 7, 10, 11, 12, 13, 36, 37, 38, 44, 45, 46, 72]), (21, [1, 2, 6, 7, 10, 11, 12, 13, 15, 36, 37, 38, 44, 45, 46]), (20, [1, 2, 6, 7, 10, 11, 12, 13, 15, 36, 37, 38, 44, 45, 46, 66]), (19, [1, 2, 6, 7, 10, 11, 12, 13, 15, 36, 37, 38, 44, 45, 46, 62]), (18, [1, 2, 6, 7, 10, 11, 12, 13, 15, 36, 37, 38, 44, 45, 46]), (17, [1, 2, 6, 7, 10, 11, 12, 13, 36, 37, 38, 44, 45, 46, 47]), (16, [1, 2, 6, 7, 10, 11, 12, 13, 36, 37, 38, 44, 45, 46]), (15, [1, 2, 6, 7, 10, 11, 12, 13, 36, 37, 38]), (14, [1, 2, 6, 7, 10, 11, 12, 36, 37, 38]), (13, [1, 2, 6, 7, 10, 36, 37, 38]), (12, [1, 2, 6, 7, 36, 37, 38, 39]), (11, [1, 2, 6, 7, 36, 37, 38]), (2, [6, 7, 8]), (4, [6, 7, 8]), (6, [6, 7, 8]), (8, [6, 7, 8]), (10, [6, 7, 8]), (9, [0, 1, 2, 6, 7, 32]), (7, [0, 1, 2, 6, 7, 28]), (5, [0, 1, 2, 6, 7, 24]), (3, [0, 1, 2, 6, 7, 20]), (1, [0, 1, 2, 6, 7, 16]), (0, [0, 1, 2, 6, 7])], [(3, [1, 2, 6, 7, 10, 11, 12, 13, 36, 37, 38, 44, 45, 46]), (1, [1, 2, 6, 7, 36, 37, 38])], [], [10, 15], [10, 15], [], [], [], [], [], []⟩
def f_tremor_Light : Abs.Fn := ⟨3, [.t 6, .t 7, .t 8],
  (.seq (.reg [0, 1, 2, 6, 7] f32r0) (.seq (.blk 0 (.seq (.reg [0, 1, 2, 6, 7, 16] f32r1) (.ite (.t 16) (.seq (.reg [6, 7, 8] f32r2) .ret) (.seq (.reg [0, 1, 2, 6, 7, 20] f32r3) (.ite (.t 20) (.seq (.reg [6, 7, 8] f32r4) .ret) (.seq (.reg [0, 1, 2, 6, 7, 24] f32r5) (.ite (.t 24) (.seq (.reg [6, 7, 8] f32r6) .ret) (.seq (.reg [0, 1, 2, 6, 7, 28] f32r7) (.ite (.t 28) (.seq (.reg [6, 7, 8] f32r8) .ret) (.seq (.reg [0, 1, 2, 6, 7, 32] f32r9) (.ite (.t 32) (.seq (.reg [6, 7, 8] f32r10) .ret) .nop))))))))))) (.seq (.seq (.reg [1, 2, 6, 7, 36, 37, 38] f32r11) (.blk 1 (.loop [1, 2, 6, 7, 36, 37, 38] false f_tremor_Light_l31))) (.seq (.reg [6, 7, 8] f32r32) .ret))))⟩
theorem e_tremor_Light_l25 : type_of% f_tremor_Light_l25.eq_1 := by_rfl f_tremor_Light_l25.eq_1
theorem e_tremor_Light_l31 : type_of% f_tremor_Light_l31.eq_1 := by_rfl f_tremor_Light_l31.eq_1
theorem e_tremor_Light : type_of% f_tremor_Light.eq_1 := by_rfl f_tremor_Light.eq_1
theorem ok_tremor_Light : fnC Tryz.prog a_tremor_Light Tryz.f32 = some f_tremor_Light := by kernel_rfl

/-! 33 fumarole/rock.Play -/
def f33r0 : List Abs.Op := [qx 3 0, qx 4 1, qo 6 (.alcv [] [.nils, .nils]), qo 7 (.alc [] [(.int .i64 0)])]
def f33r1 : List Abs.Op := [qa 10 9 3, qa 11 2 4, qc 12 i_rock_bed [10, 11], qm 9 12, qz 13 9 0, qz 14 9 1, qo 8 (.alcv [] [(.int .i64 0), (.int .i64 0), (.int .i64 0), (.int .i64 0), .nils, (.int .i64 0), (.int .i64 0), (.int .i64 0), .nils, (.str []), .nils]), qs 8 11 8 13, qt 1 7 14]
def f33r2 : List Abs.Op := [ql 15 1 7, qn 16 .eql 15 0]
def f33r3 : List Abs.Op := [qa 17 9 3, qm 18 2, qc 19 i_rock_Bed_plan [17, 18], qt 1 7 19]
def f33r4 : List Abs.Op := [ql 20 1 7, qn 21 .neq 20 0]
def f33r5 : List Abs.Op := [qO 22 (.bld [.nils, .nils] []), qL 23 1 7, qS 6 2 6 22, qt 1 7 23]
def f33r6 : List Abs.Op := [qw 24 8 11 8, qm 25 2]
def f33r7 : List Abs.Op := [qs 6 2 6 26, ⟨none, none, false, .st [] 1 (.t 7) (.c (.int .i64 0))⟩]
def f_rock_Play_b8 : Abs.Cmd :=
  (.seq (.treg [6, 7] f33r6 ⟨some 26, none, false, .call false (.c (.fn i_rock_bedded_run [] [])) [(.t 24), (.t 25)]⟩ f33r7) .ret)

def a_rock_Play : Ann := ⟨[(7, [6, 7]), (6, [2, 6, 7, 8]), (5, [6, 7]), (4, [2, 6, 7, 8, 21]), (3, [2, 6, 7, 8]), (2, [2, 3, 6, 7, 8, 16]), (1, [2, 3, 6, 7, 8]), (0, [2, 3, 4, 6, 7])], [], [], [6, 7, 8], [6, 8], [], [], [(0, [0])], [], [], [(7, some 2)]⟩
def f_rock_Play : Abs.Fn := ⟨3, [.v 6 true 2, .c 7 false 1],
  (.seq (.seq (.frz [0]) (.reg [2, 3, 4, 6, 7] f33r0)) (.seq (.reg [2, 3, 6, 7, 8] f33r1) (.seq (.seq (.reg [2, 3, 6, 7, 8, 16] f33r2) (.ite (.t 16) (.reg [2, 6, 7, 8] f33r3) .nop)) (.seq (.seq (.reg [2, 6, 7, 8, 21] f33r4) (.ite (.t 21) (.seq (.reg [6, 7] f33r5) .ret) .nop)) (.dfr (.c (.fn i_rock_caught [] [])) [(.t 7)] f_rock_Play_b8)))))⟩
theorem e_rock_Play_b8 : type_of% f_rock_Play_b8.eq_1 := by_rfl f_rock_Play_b8.eq_1
theorem e_rock_Play : type_of% f_rock_Play.eq_1 := by_rfl f_rock_Play.eq_1
theorem ok_rock_Play : fnC Tryz.prog a_rock_Play Tryz.f33 = some f_rock_Play := by kernel_rfl

/-! 34 fumarole/steam.Flash -/
def f34r0 : List Abs.Op := [qx 5 2, qo 6 (.alcv [] [(.int .i64 0), (.int .i64 0), (.int .i64 0), (.int .i64 0), (.int .i64 0), (.int .i64 0), (.int .i64 0), (.int .i64 0), (.int .i64 0), (.int .i64 0)]), qi 7 0]
def f34r1 : List Abs.Op := [qm 9 0, qc 10 i_steam_Table_valid [9], qu 11 10, qm 8 11]
def f34r2 : List Abs.Op := [qo 12 (.bld [(.int .i64 0), (.int .i64 0), (.int .i64 0), (.int .i64 0), (.int .i64 0), (.int .i64 0), (.int .i64 0), (.int .i64 0), (.int .i64 0), (.int .i64 0)] []), qs 6 10 6 12, qi 7 1]
def f34r3 : List Abs.Op := [qm 14 0, qm 15 1, qc 16 i_steam_Table_has [14, 15], qu 17 16, qm 13 17]
def f34r4 : List Abs.Op := [qo 18 (.bld [(.int .i64 0), (.int .i64 0), (.int .i64 0), (.int .i64 0), (.int .i64 0), (.int .i64 0), (.int .i64 0), (.int .i64 0), (.int .i64 0), (.int .i64 0)] []), qs 6 10 6 18, qi 7 2]
def f34r5 : List Abs.Op := [qa 20 4 5, qc 21 i_steam_Stream_valid [20], qu 22 21, qm 19 22]
def f34r6 : List Abs.Op := [qo 23 (.bld [(.int .i64 0), (.int .i64 0), (.int .i64 0), (.int .i64 0), (.int .i64 0), (.int .i64 0), (.int .i64 0), (.int .i64 0), (.int .i64 0), (.int .i64 0)] []), qs 6 10 6 23, qi 7 1]
def f34r7 : List Abs.Op := [qM 24 0, qM 25 1, qC 26 i_steam_Table_at [24, 25], qA 27 4 5, qc 28 i_steam_flash_of [26, 27], qs 6 10 6 28, qi 7 0]
def a_steam_Flash : Ann := ⟨[(7, [6, 7]), (2, [6, 7]), (4, [6, 7]), (6, [6, 7]), (5, [0, 1, 5, 6, 19]), (3, [0, 1, 5, 6, 13]), (1, [0, 1, 5, 6, 8]), (0, [0, 1, 5, 6])], [], [], [6], [6], [], [], [], [], [], []⟩
def f_steam_Flash : Abs.Fn := ⟨3, [.v 6 true 10, .t 7],
  (.seq (.reg [0, 1, 5, 6] f34r0) (.seq (.blk 0 (.seq (.reg [0, 1, 5, 6, 8] f34r1) (.ite (.t 8) (.seq (.reg [6, 7] f34r2) .ret) (.seq (.reg [0, 1, 5, 6, 13] f34r3) (.ite (.t 13) (.seq (.reg [6, 7] f34r4) .ret) (.seq (.reg [0, 1, 5, 6, 19] f34r5) (.ite (.t 19) (.seq (.reg [6, 7] f34r6) .ret) .nop))))))) (.seq (.reg [6, 7] f34r7) .ret)))⟩
theorem e_steam_Flash : type_of% f_steam_Flash.eq_1 := by_rfl f_steam_Flash.eq_1
theorem ok_steam_Flash : fnC Tryz.prog a_steam_Flash Tryz.f34 = some f_steam_Flash := by kernel_rfl

/-! 35 fumarole/plant.Expand -/
def f35r0 : List Abs.Op := [qx 2 0, qo 3 (.boxv (.t 1)), qo 4 (.alcv [] [(.int .i64 0), (.int .i64 0), (.int .i64 0), (.int .i64 0)]), qi 5 0, qi 6 0]
def f35r1 : List Abs.Op := [qa 8 2 2, qc 9 i_plant_Unit_valid [8], qu 10 9, qm 11 10, qg 11 false (qw 12 3 4 3), qg 11 false (qo 13 (.bsi 1 4 [(.int .i64 0), (.int .i64 0), (.int .i64 0), (.int .i64 0)] [(0, 4, (.t 12))])), qg 11 false (qc 14 i_plant_right [13]), qg 11 false (qu 15 14), qP 16 11 15, qm 7 16]
def f35r2 : List Abs.Op := [qo 17 (.bld [(.int .i64 0), (.int .i64 0), (.int .i64 0), (.int .i64 0)] []), qs 4 4 4 17, qi 5 0, qi 6 1]
def f35r3 : List Abs.Op := [qF 19 0 3, qV 20 3 1 19, qA 21 2 2, qC 22 i_plant_Unit_capacity [21], qk 23 .gtr 20 22, qm 18 23]
def f35r4 : List Abs.Op := [qo 24 (.bld [(.int .i64 0), (.int .i64 0), (.int .i64 0), (.int .i64 0)] []), qs 4 4 4 24, qi 5 0, qi 6 2]
def f35r5 : List Abs.Op := [qa 25 2 2, qf 26 0 3, qv 27 3 1 26, qc 28 i_plant_Unit_power [25, 27], qm 5 28]
def f35r6 : List Abs.Op := [qf 29 1 3, qv 30 3 1 29, qm 31 5, qk 32 .lss 30 31]
def f35r7 : List Abs.Op := [qo 33 (.bld [(.int .i64 0), (.int .i64 0), (.int .i64 0), (.int .i64 0)] []), qs 4 4 4 33, qi 5 0, qi 6 9]
def f35r8 : List Abs.Op := [qf 34 1 3, qv 35 3 1 34, qm 36 5, qk 37 .sub 35 36, qf 38 1 3, qs 3 1 38 37]
def f35r9 : List Abs.Op := [qw 39 3 4 3, qm 40 5, qs 4 4 4 39, qm 5 40, qi 6 0]
def a_plant_Expand : Ann := ⟨[(9, [4, 5, 6]), (8, [3, 4, 5]), (7, [4, 5, 6]), (6, [3, 4, 5, 32]), (5, [3, 4, 5]), (2, [4, 5, 6]), (4, [4, 5, 6]), (3, [2, 3, 4, 18]), (1, [2, 3, 4, 7]), (0, [2, 3, 4])], [], [], [3, 4], [3, 4], [], [], [], [], [], []⟩
def f_plant_Expand : Abs.Fn := ⟨2, [.v 4 true 4, .t 5, .t 6],
  (.seq (.reg [2, 3, 4] f35r0) (.seq (.blk 0 (.seq (.reg [2, 3, 4, 7] f35r1) (.ite (.t 7) (.seq (.reg [4, 5, 6] f35r2) .ret) (.seq (.reg [2, 3, 4, 18] f35r3) (.ite (.t 18) (.seq (.reg [4, 5, 6] f35r4) .ret) .nop))))) (.seq (.reg [3, 4, 5] f35r5) (.seq (.seq (.reg [3, 4, 5, 32] f35r6) (.ite (.t 32) (.seq (.reg [4, 5, 6] f35r7) .ret) .nop)) (.seq (.reg [3, 4, 5] f35r8) (.seq (.reg [4, 5, 6] f35r9) .ret))))))⟩
theorem e_plant_Expand : type_of% f_plant_Expand.eq_1 := by_rfl f_plant_Expand.eq_1
theorem ok_plant_Expand : fnC Tryz.prog a_plant_Expand Tryz.f35 = some f_plant_Expand := by kernel_rfl

/-! 39 fumarole/fumarolelaw12.texts -/
def f39r0 : List Abs.Op := [qb 4 false]
def f39r1 : List Abs.Op := [qm 6 0, qe 7 6, qm 8 1, qe 9 8, qk 10 .neq 7 9]
def f39r2 : List Abs.Op := [qb 4 false]
def f39r3 : List Abs.Op := [qi 5 0]
def f39r4 : List Abs.Op := [qm 11 5, qm 12 0, qe 13 12, qk 14 .lss 11 13]
def f39r5 : List Abs.Op := [qM 17 0, qM 18 5, qJ 19 1 17 18, qL 20 1 19, qM 21 1, qM 22 5, qJ 23 1 21 22, qL 24 1 23, qo 25 (.pur (.seq true) [(.t 20), (.t 24)])]
def f39r6 : List Abs.Op := [qb 4 false]
def f39r7 : List Abs.Op := [qm 15 5, qn 16 .add 15 1, qm 5 16]
def f_law12_texts_l8 : Abs.Cmd :=
  (.seq (.seq (.reg [0, 1, 5, 14] f39r4) (.ite (.t 14) .nop (.exit 0))) (.seq (.blk 1 (.seq (.reg [0, 1, 5, 25] f39r5) (.ite (.t 25) (.seq (.reg [4] f39r6) .ret) .nop))) (.reg [0, 1, 5] f39r7)))

def f39r9 : List Abs.Op := [qb 4 true]
def a_law12_texts : Ann := ⟨[(8, [4]), (5, [0, 1, 5]), (7, [4]), (6, [0, 1, 5, 25]), (4, [0, 1, 5, 14]), (3, [0, 1, 5]), (2, [4]), (1, [0, 1, 10]), (0, [0, 1])], [(0, [0, 1, 5])], [], [], [], [], [], [], [], [], []⟩
def f_law12_texts : Abs.Fn := ⟨2, [.t 4],
  (.seq (.reg [0, 1] f39r0) (.seq (.seq (.reg [0, 1, 10] f39r1) (.ite (.t 10) (.seq (.reg [4] f39r2) .ret) .nop)) (.seq (.seq (.reg [0, 1, 5] f39r3) (.blk 0 (.loop [0, 1, 5] false f_law12_texts_l8))) (.seq (.reg [4] f39r9) .ret))))⟩
theorem e_law12_texts_l8 : type_of% f_law12_texts_l8.eq_1 := by_rfl f_law12_texts_l8.eq_1
theorem e_law12_texts : type_of% f_law12_texts.eq_1 := by_rfl f_law12_texts.eq_1
theorem ok_law12_texts : fnC Tryz.prog a_law12_texts Tryz.f39 = some f_law12_texts := by kernel_rfl

/-! 42 fumarole/logbook.Write -/
def f42r0 : List Abs.Op := [qo 2 (.mv (.c .nils)), qi 3 0]
def f42r1 : List Abs.Op := [qm 5 0, qc 6 i_logbook_check [5], qm 4 6]
def f42r2 : List Abs.Op := [qm 7 4, qn 8 .neq 7 0]
def f42r3 : List Abs.Op := [qm 9 4, qo 2 (.mv (.c .nils)), qm 3 9]
def f42r4 : List Abs.Op := [qm 10 0, qc 11 i_logbook_written [10], qm 2 11, qi 3 0]
def a_logbook_Write : Ann := ⟨[(4, [2, 3]), (3, [2, 3]), (2, [0, 4, 8]), (1, [0, 4]), (0, [0])], [], [], [], [], [], [], [], [], [], []⟩
def f_logbook_Write : Abs.Fn := ⟨1, [.t 2, .t 3],
  (.seq (.reg [0] f42r0) (.seq (.seq (.reg [0, 4] f42r1) (.seq (.reg [0, 4, 8] f42r2) (.ite (.t 8) (.seq (.reg [2, 3] f42r3) .ret) .nop))) (.seq (.reg [2, 3] f42r4) .ret)))⟩
theorem e_logbook_Write : type_of% f_logbook_Write.eq_1 := by_rfl f_logbook_Write.eq_1
theorem ok_logbook_Write : fnC Tryz.prog a_logbook_Write Tryz.f42 = some f_logbook_Write := by kernel_rfl

/-! 43 fumarole/logbook.Recover -/
def f43r0 : List Abs.Op := [qo 2 (.alc [(0, 1)] [.nils]), qo 3 (.alc [] [(.int .i64 0)])]
def f43r1 : List Abs.Op := [qm 6 0, qc 7 i_logbook_records [6]]
def f43r2 : List Abs.Op := [qm 4 8]
def f43r3 : List Abs.Op := [qm 5 9]
def f43r4 : List Abs.Op := [ql 10 1 2, qe 11 10, qn 12 .eql 11 100]
def f43r5 : List Abs.Op := [ql 13 1 2, qm 14 5, qo 15 (.bsi 1 1 [(.str [])] [(0, 1, (.t 14))]), qy 16 1 16 13 15, qm 17 4, ⟨none, none, false, .st [(0, 1)] 1 (.t 2) (.t 16)⟩, qt 1 3 17]
def f_logbook_Recover_a6 : Abs.Cmd :=
  (.seq (.reg [2, 3, 4, 9] f43r2) (.reg [2, 3, 4, 5] f43r3))

def f_logbook_Recover_b6 : Abs.Cmd :=
  (.blk 1 (.seq (.seq (.reg [2, 3, 4, 5, 12] f43r4) (.ite (.t 12) (.exit 0) .nop)) (.reg [] f43r5)))

def f43r7 : List Abs.Op := [qL 18 1 2, qL 19 1 3, ⟨none, none, true, .stc [3] 1 (.t 2) (.t 18)⟩, ⟨none, none, false, .stc [2] 1 (.t 3) (.t 19)⟩]
def a_logbook_Recover : Ann := ⟨[(6, [2, 3]), (5, []), (4, [2, 3, 4, 5, 12]), (3, [2, 3, 4, 5]), (2, [2, 3, 4, 9]), (1, [2, 3, 7]), (0, [0, 2, 3])], [(0, [2, 3])], [], [2, 3], [], [(0, [(0, 1)]), (5005, [(0, 1)]), (6002, [(0, 1)])], [], [], [], [(6003, some [2]), (6002, some [3])], []⟩
def f_logbook_Recover : Abs.Fn := ⟨1, [.c 2 false 1, .c 3 false 1],
  (.seq (.reg [0, 2, 3] f43r0) (.seq (.seq (.reg [2, 3, 7] f43r1) (.blk 0 (.rngf [2, 3] (.t 7) [8, 9] f_logbook_Recover_a6 f_logbook_Recover_b6))) (.seq (.reg [2, 3] f43r7) .ret)))⟩
theorem e_logbook_Recover_a6 : type_of% f_logbook_Recover_a6.eq_1 := by_rfl f_logbook_Recover_a6.eq_1
theorem e_logbook_Recover_b6 : type_of% f_logbook_Recover_b6.eq_1 := by_rfl f_logbook_Recover_b6.eq_1
theorem e_logbook_Recover : type_of% f_logbook_Recover.eq_1 := by_rfl f_logbook_Recover.eq_1
theorem ok_logbook_Recover : fnC Tryz.prog a_logbook_Recover Tryz.f43 = some f_logbook_Recover := by kernel_rfl

/-! 46 fumarole/fumarolelaw12.day -/
def f46r0 : List Abs.Op := [qo 0 (.nilb 1)]
def f46r1 : List Abs.Op := [qo 1 (.bsm 13 1 [(.str []), (.str []), (.str []), (.str []), (.str []), (.str []), (.str []), (.str []), (.str []), (.str []), (.str []), (.str []), (.str [])] [(0, 1, (.c (.str [102, 105, 101, 108, 100, 32, 50, 32, 49, 32, 49, 32, 52]))), (1, 1, (.c (.str [116, 97, 98, 108, 101, 32, 49, 48, 48, 32, 49, 48, 49, 32, 52, 49, 57, 32, 50, 54, 55, 54, 32, 49, 53, 48, 32, 49, 53, 48, 32, 52, 55, 54, 32, 54, 51, 50, 32, 50, 55, 52, 54, 32, 51, 48, 48, 32, 50, 48, 48, 32, 49, 53, 53, 53, 32, 56, 53, 50, 32, 50, 55, 57, 51, 32, 54, 48, 48]))), (2, 1, (.c (.str [98, 101, 100, 32, 49, 48, 48, 48, 32, 48, 32, 56, 48, 48]))), (3, 1, (.c (.str [119, 101, 108, 108, 32, 48, 32, 53, 48, 48, 32, 53]))), (4, 1, (.c (.str [109, 111, 100, 101, 108, 32, 97, 32, 56, 48, 48, 48, 32, 56, 48, 48, 48, 32, 53, 48, 48, 32, 52, 48, 48, 32, 57, 48, 48, 32, 52, 48, 48, 32, 48, 32, 49, 48]))), (5, 1, (.c (.str [109, 111, 100, 101, 108, 32, 98, 32, 56, 48, 48, 48, 32, 56, 48, 48, 48, 32, 53, 48, 48, 32, 52, 48, 48, 32, 57, 48, 48, 32, 53, 48, 48, 32, 48, 32, 49, 48]))), (6, 1, (.c (.str [108, 111, 103, 32, 116, 49, 32, 50, 32, 51, 57, 48, 32, 52, 49, 48, 32, 49, 32, 49]))), (7, 1, (.c (.str [114, 117, 108, 101, 32, 48, 32, 48, 32, 48, 32, 57, 32, 57, 32, 57, 32, 50, 48, 32, 53, 32, 49, 32, 49]))), (8, 1, (.c (.str [113, 117, 97, 107, 101, 32, 49, 32, 49, 32, 49, 32, 50, 53]))), (9, 1, (.c (.str [116, 105, 99, 107, 32, 45, 49, 48, 48]))), (10, 1, (.c (.str [116, 105, 99, 107, 32, 53, 48]))), (11, 1, (.c (.str [117, 110, 105, 116, 32, 48, 32, 49, 48, 48, 32, 52, 48, 48]))), (12, 1, (.c (.str [115, 101, 108, 108, 32, 48, 32, 48, 32, 48, 32, 51])))]), qm 0 1]
def a_law12_day : Ann := ⟨[(1, [0]), (0, [])], [], [], [0, 1], [], [], [], [], [], [], []⟩
def f_law12_day : Abs.Fn := ⟨0, [.t 0],
  (.seq (.reg [] f46r0) (.seq (.reg [0] f46r1) .ret))⟩
theorem e_law12_day : type_of% f_law12_day.eq_1 := by_rfl f_law12_day.eq_1
theorem ok_law12_day : fnC Tryz.prog a_law12_day Tryz.f46 = some f_law12_day := by kernel_rfl

/-! 50 fumarole/logbook.check -/
def f50r0 : List Abs.Op := [qi 2 0]
def f50r1 : List Abs.Op := [qm 3 0, qe 4 3, qn 5 .gtr 4 100, qm 6 5, qg 6 false (qm 7 0), qg 6 false (qo 8 (.call false (.c (.fn i_slices_ContainsFunc_string [] [])) [(.t 7), (.c (.fn i_logbook_check_1 [] []))])), qP 9 6 8]
def f50r2 : List Abs.Op := [qi 2 3]
def f50r3 : List Abs.Op := [qi 2 0]
def a_logbook_check : Ann := ⟨[(3, [2]), (2, [2]), (1, [9]), (0, [0])], [], [], [], [], [], [], [], [], [], []⟩
def f_logbook_check : Abs.Fn := ⟨1, [.t 2],
  (.seq (.reg [0] f50r0) (.seq (.seq (.reg [9] f50r1) (.ite (.t 9) (.seq (.reg [2] f50r2) .ret) .nop)) (.seq (.reg [2] f50r3) .ret)))⟩
theorem e_logbook_check : type_of% f_logbook_check.eq_1 := by_rfl f_logbook_check.eq_1
theorem ok_logbook_check : fnC Tryz.prog a_logbook_check Tryz.f50 = some f_logbook_check := by kernel_rfl

/-! 51 fumarole/logbook.run -/
def f51r0 : List Abs.Op := [qo 2 (.mv (.c .nilp)), qo 3 (.mv (.c .nils))]
def f51r1 : List Abs.Op := [qo 8 (.bld [(.int .i64 0), (.int .i64 0), (.int .i64 0)] [(0, 1, (.c (.int .i64 1000))), (1, 1, (.c (.int .i64 500))), (2, 1, (.c (.int .i64 0)))]), qo 9 (.bld [(.int .i64 0), (.int .i64 0), (.int .i64 0), (.int .i64 0), .nils, (.int .i64 0), (.int .i64 0), (.int .i64 0), .nils, .nils, .nils, .nils, .nils, (.int .i64 0), (.int .i64 0), (.int .i64 0), .nils, .nils] [(13, 3, (.t 8))]), qo 10 (.bld [(.int .i64 0), (.int .i64 0), (.int .i64 0), (.int .i64 0), .nils, (.int .i64 0), (.int .i64 0), (.int .i64 0), .nils, .nils, .nils, .nils, .nils, (.int .i64 0), (.int .i64 0), (.int .i64 0), .nils, .nils, (.bool false), .nils, (.int .i64 0)] [(0, 18, (.t 9))]), qo 11 (.bxn [(9, 4), (11, 10), (12, 2), (16, 2), (17, 6), (19, 4)] (.t 10)), qm 4 11]
def f51r2 : List Abs.Op := [qo 5 (.nilb 1)]
def f51r3 : List Abs.Op := [qm 12 0, qe 13 12, qi 14 0]
def f51r4 : List Abs.Op := [qk 15 .lss 14 13]
def f51r5 : List Abs.Op := [qm 16 14, qj 17 1 12 14, ql 18 1 17, qm 6 16, qm 7 18]
def f51r6 : List Abs.Op := [qm 19 5, qm 20 4, qm 21 6, qm 22 7, qc 23 i_logbook_book_line [20, 21, 22], qo 24 (.bsi 1 1 [(.int .i64 0)] [(0, 1, (.t 23))]), qy 25 1 8 19 24, qm 5 25]
def f51r7 : List Abs.Op := [qn 26 .add 14 1, qm 14 26]
def f_logbook_run_l8 : Abs.Cmd :=
  (.seq (.reg [4, 5, 12, 13, 14, 15] f51r4) (.seq (.ite (.t 15) .nop (.exit 0)) (.seq (.blk 1 (.seq (.reg [4, 5, 6, 7, 12, 13, 14] f51r5) (.reg [4, 5, 12, 13, 14] f51r6))) (.reg [4, 5, 12, 13, 14] f51r7))))

def f51r9 : List Abs.Op := [qm 27 4, qm 28 5, qm 2 27, qm 3 28]
def a_logbook_run : Ann := ⟨[(8, [2, 3]), (7, [4, 5, 12, 13, 14]), (6, [4, 5, 12, 13, 14]), (5, [4, 5, 6, 7, 12, 13, 14]), (4, [4, 5, 12, 13, 14, 15]), (3, [4, 5, 12, 13, 14]), (2, [0, 4, 5]), (1, [0, 4]), (0, [0])], [(0, [4, 5, 12, 13, 14])], [], [5, 11], [], [(1003, [(9, 4), (11, 10), (12, 2), (16, 2), (17, 6), (19, 4)])], [], [], [], [], []⟩
def f_logbook_run : Abs.Fn := ⟨1, [.t 2, .t 3],
  (.seq (.reg [0] f51r0) (.seq (.reg [0, 4] f51r1) (.seq (.reg [0, 4, 5] f51r2) (.seq (.seq (.reg [4, 5, 12, 13, 14] f51r3) (.blk 0 (.loop [4, 5, 12, 13, 14] false f_logbook_run_l8))) (.seq (.reg [2, 3] f51r9) .ret)))))⟩
theorem e_logbook_run_l8 : type_of% f_logbook_run_l8.eq_1 := by_rfl f_logbook_run_l8.eq_1
theorem e_logbook_run : type_of% f_logbook_run.eq_1 := by_rfl f_logbook_run.eq_1
theorem ok_logbook_run : fnC Tryz.prog a_logbook_run Tryz.f51 = some f_logbook_run := by kernel_rfl

/-! 52 slices.IndexFunc[[]fumarole/logbook.Entry,fumarole/logbook.Entry] -/
def f52r0 : List Abs.Op := [qi 4 0]
def f52r1 : List Abs.Op := [qm 6 0, qe 7 6, qi 8 0]
def f52r2 : List Abs.Op := [qk 9 .lss 8 7]
def f52r3 : List Abs.Op := [qm 10 8, qm 5 10]
def f52r4 : List Abs.Op := [qm 11 1, qm 12 0, qm 13 5, qj 14 4 12 13, qa 15 4 14, qo 16 (.call false (.t 11) [(.t 15)])]
def f52r5 : List Abs.Op := [qm 17 5, qm 4 17]
def f52r6 : List Abs.Op := [qn 18 .add 8 1, qm 8 18]
def f_slices_IndexFunc_logbook_Entry_l7 : Abs.Cmd :=
  (.seq (.reg [0, 1, 7, 8, 9] f52r2) (.seq (.ite (.t 9) .nop (.exit 0)) (.seq (.blk 1 (.seq (.reg [0, 1, 5, 7, 8] f52r3) (.seq (.reg [0, 1, 5, 7, 8, 16] f52r4) (.ite (.t 16) (.seq (.reg [4] f52r5) .ret) .nop)))) (.reg [0, 1, 7, 8] f52r6))))

def f52r8 : List Abs.Op := [qi 4 (-1)]
def a_slices_IndexFunc_logbook_Entry : Ann := ⟨[(7, [4]), (6, [0, 1, 7, 8]), (5, [4]), (4, [0, 1, 5, 7, 8, 16]), (3, [0, 1, 5, 7, 8]), (2, [0, 1, 7, 8, 9]), (1, [0, 1, 7, 8]), (0, [0, 1])], [(0, [0, 1, 7, 8])], [], [], [], [], [], [], [], [], []⟩
def f_slices_IndexFunc_logbook_Entry : Abs.Fn := ⟨2, [.t 4],
  (.seq (.reg [0, 1] f52r0) (.seq (.seq (.reg [0, 1, 7, 8] f52r1) (.blk 0 (.loop [0, 1, 7, 8] false f_slices_IndexFunc_logbook_Entry_l7))) (.seq (.reg [4] f52r8) .ret)))⟩
theorem e_slices_IndexFunc_logbook_Entry_l7 : type_of% f_slices_IndexFunc_logbook_Entry_l7.eq_1 := by_rfl f_slices_IndexFunc_logbook_Entry_l7.eq_1
theorem e_slices_IndexFunc_logbook_Entry : type_of% f_slices_IndexFunc_logbook_Entry.eq_1 := by_rfl f_slices_IndexFunc_logbook_Entry.eq_1
theorem ok_slices_IndexFunc_logbook_Entry : fnC Tryz.prog a_slices_IndexFunc_logbook_Entry Tryz.f52 = some f_slices_IndexFunc_logbook_Entry := by kernel_rfl

/-! 53 fumarole/logbook.Fate$1 -/
def f53r0 : List Abs.Op := [qx 2 0, qb 3 false]
def f53r1 : List Abs.Op := [qf 4 0 2, qf 5 0 4, ql 6 1 5, ql 7 1 1, qo 8 (.pur (.seq false) [(.t 6), (.t 7)]), qm 3 8]
def a_logbook_Fate_1 : Ann := ⟨[(1, [3]), (0, [1, 2])], [], [], [], [], [], [], [], [], [], []⟩
def f_logbook_Fate_1 : Abs.Fn := ⟨2, [.t 3],
  (.seq (.reg [1, 2] f53r0) (.seq (.reg [3] f53r1) .ret))⟩
theorem e_logbook_Fate_1 : type_of% f_logbook_Fate_1.eq_1 := by_rfl f_logbook_Fate_1.eq_1
theorem ok_logbook_Fate_1 : fnC Tryz.prog a_logbook_Fate_1 Tryz.f53 = some f_logbook_Fate_1 := by kernel_rfl

/-! 55 fumarole/logbook.within -/
def f55r0 : List Abs.Op := [qb 6 false]
def f55r1 : List Abs.Op := [qm 7 1, qm 8 0, qk 9 .leq 7 8, qm 10 9, qg 10 true (qm 11 0), qg 10 true (qm 12 2), qg 10 true (qk 13 .leq 11 12), qp 14 10 13, qm 6 14]
def a_logbook_within : Ann := ⟨[(1, [6]), (0, [0, 1, 2])], [], [], [], [], [], [], [], [], [], []⟩
def f_logbook_within : Abs.Fn := ⟨3, [.t 6],
  (.seq (.reg [0, 1, 2] f55r0) (.seq (.reg [6] f55r1) .ret))⟩
theorem e_logbook_within : type_of% f_logbook_within.eq_1 := by_rfl f_logbook_within.eq_1
theorem ok_logbook_within : fnC Tryz.prog a_logbook_within Tryz.f55 = some f_logbook_within := by kernel_rfl

/-! 57 slices.Clone[[]string,string] -/
def f57r0 : List Abs.Op := [qo 2 (.mv (.c .nils))]
def f57r1 : List Abs.Op := [qm 3 0, qo 4 (.isn false false (.t 3))]
def f57r2 : List Abs.Op := [qo 2 (.mv (.c .nils))]
def f57r3 : List Abs.Op := [qo 5 (.bsm 0 1 [] []), qm 6 0, qy 7 1 16 5 6, qm 2 7]
def a_slices_Clone_string : Ann := ⟨[(3, [2]), (2, [2]), (1, [0, 4]), (0, [0])], [], [], [5], [], [], [], [], [], [], []⟩
def f_slices_Clone_string : Abs.Fn := ⟨1, [.t 2],
  (.seq (.reg [0] f57r0) (.seq (.seq (.reg [0, 4] f57r1) (.ite (.t 4) (.seq (.reg [2] f57r2) .ret) .nop)) (.seq (.reg [2] f57r3) .ret)))⟩
theorem e_slices_Clone_string : type_of% f_slices_Clone_string.eq_1 := by_rfl f_slices_Clone_string.eq_1
theorem ok_slices_Clone_string : fnC Tryz.prog a_slices_Clone_string Tryz.f57 = some f_slices_Clone_string := by kernel_rfl

/-! 58 fumarole/logbook.Report$1 -/
def f58r0 : List Abs.Op := [qm 3 0, qo 4 (.call false (.c (.fn i_strings_Join [] [])) [(.t 3), (.c (.str [32]))]), qo 5 (.pur (.scat) [(.t 4), (.c (.str [10]))]), qc 6 i_strings_Builder_WriteString [1, 5]]
def a_logbook_Report_1 : Ann := ⟨[(0, [])], [], [], [1], [], [], [], [], [], [], []⟩
def f_logbook_Report_1 : Abs.Fn := ⟨2, [],
  (.reg [] f58r0)⟩
theorem e_logbook_Report_1 : type_of% f_logbook_Report_1.eq_1 := by_rfl f_logbook_Report_1.eq_1
theorem ok_logbook_Report_1 : fnC Tryz.prog a_logbook_Report_1 Tryz.f58 = some f_logbook_Report_1 := by kernel_rfl

/-! 62 (*fumarole/logbook.book).colour -/
def f62r0 : List Abs.Op := [qo 2 (.mv (.c (.int .u8 0)))]
def f62r1 : List Abs.Op := [qM 7 0, qO 8 (.nck (.t 7)), qF 9 0 8, qF 10 11 9, qL 11 1 10, qM 12 0, qO 13 (.nck (.t 12)), qF 14 0 13, qF 15 12 14, qL 16 1 15, qM 17 0, qO 18 (.nck (.t 17)), qF 19 0 18, qF 20 10 19, qL 21 1 20, qE 22 21, qC 23 i_tremor_Light [11, 16, 22], qM 6 23, qZ 24 6 0, qZ 25 6 1, qZ 26 6 2, qM 3 24, qM 4 25, qm 5 26]
def f62r2 : List Abs.Op := [qm 27 3, qm 2 27]
def a_logbook_book_colour : Ann := ⟨[(2, [2]), (1, [3]), (0, [0])], [], [], [], [], [], [], [], [], [], []⟩
def f_logbook_book_colour : Abs.Fn := ⟨1, [.t 2],
  (.seq (.reg [0] f62r0) (.seq (.reg [3] f62r1) (.seq (.reg [2] f62r2) .ret)))⟩
theorem e_logbook_book_colour : type_of% f_logbook_book_colour.eq_1 := by_rfl f_logbook_book_colour.eq_1
theorem ok_logbook_book_colour : fnC Tryz.prog a_logbook_book_colour Tryz.f62 = some f_logbook_book_colour := by kernel_rfl

/-! 63 (fumarole/logbook.Range).text -/
def f63r0 : List Abs.Op := [qx 1 0, qo 2 (.mv (.c (.str [])))]
def f63r1 : List Abs.Op := [qF 3 0 1, qL 4 1 3, qC 5 i_strconv_Itoa [4], qO 6 (.pur (.scat) [(.t 5), (.c (.str [46, 46]))]), qF 7 1 1, qL 8 1 7, qC 9 i_strconv_Itoa [8], qo 10 (.pur (.scat) [(.t 6), (.t 9)]), qm 2 10]
def a_logbook_Range_text : Ann := ⟨[(1, [2]), (0, [1])], [], [], [], [], [], [], [], [], [], []⟩
def f_logbook_Range_text : Abs.Fn := ⟨1, [.t 2],
  (.seq (.reg [1] f63r0) (.seq (.reg [2] f63r1) .ret))⟩
theorem e_logbook_Range_text : type_of% f_logbook_Range_text.eq_1 := by_rfl f_logbook_Range_text.eq_1
theorem ok_logbook_Range_text : fnC Tryz.prog a_logbook_Range_text Tryz.f63 = some f_logbook_Range_text := by kernel_rfl

/-! 69 fumarole/field.first -/
def f69r0 : List Abs.Op := [qi 2 0]
def f69r1 : List Abs.Op := [qm 6 0, qe 7 6, qi 8 0]
def f69r2 : List Abs.Op := [qk 9 .lss 8 7]
def f69r3 : List Abs.Op := [qj 10 1 6 8, ql 11 1 10, qm 4 11]
def f69r4 : List Abs.Op := [qm 12 4, qo 13 (.call false (.t 12) []), qm 5 13]
def f69r5 : List Abs.Op := [qm 14 5, qn 15 .neq 14 0]
def f69r6 : List Abs.Op := [qm 16 5, qm 2 16]
def f69r7 : List Abs.Op := [qn 17 .add 8 1, qm 8 17]
def f_field_first_l8 : Abs.Cmd :=
  (.seq (.reg [6, 7, 8, 9] f69r2) (.seq (.ite (.t 9) .nop (.exit 0)) (.seq (.blk 1 (.seq (.reg [4, 6, 7, 8] f69r3) (.seq (.reg [5, 6, 7, 8] f69r4) (.seq (.reg [5, 6, 7, 8, 15] f69r5) (.ite (.t 15) (.seq (.reg [2] f69r6) .ret) .nop))))) (.reg [6, 7, 8] f69r7))))

def f69r9 : List Abs.Op := [qi 2 0]
def a_field_first : Ann := ⟨[(8, [2]), (7, [6, 7, 8]), (6, [2]), (5, [5, 6, 7, 8, 15]), (4, [5, 6, 7, 8]), (3, [4, 6, 7, 8]), (2, [6, 7, 8, 9]), (1, [6, 7, 8]), (0, [0])], [(0, [6, 7, 8])], [], [], [], [], [], [], [], [], []⟩
def f_field_first : Abs.Fn := ⟨1, [.t 2],
  (.seq (.reg [0] f69r0) (.seq (.seq (.reg [6, 7, 8] f69r1) (.blk 0 (.loop [6, 7, 8] false f_field_first_l8))) (.seq (.reg [2] f69r9) .ret)))⟩
theorem e_field_first_l8 : type_of% f_field_first_l8.eq_1 := by_rfl f_field_first_l8.eq_1
theorem e_field_first : type_of% f_field_first.eq_1 := by_rfl f_field_first.eq_1
theorem ok_field_first : fnC Tryz.prog a_field_first Tryz.f69 = some f_field_first := by kernel_rfl

/-! 70 (fumarole/field.Field).shape -/
def f70r0 : List Abs.Op := [qx 1 0, qi 2 0]
def f70r1 : List Abs.Op := [qa 3 4 1, qc 4 i_field_Field_valid [3], qu 5 4]
def f70r2 : List Abs.Op := [qi 2 1]
def f70r3 : List Abs.Op := [qi 2 0]
def a_field_Field_shape : Ann := ⟨[(3, [2]), (2, [2]), (1, [5]), (0, [1])], [], [], [], [], [], [], [], [], [], []⟩
def f_field_Field_shape : Abs.Fn := ⟨1, [.t 2],
  (.seq (.reg [1] f70r0) (.seq (.seq (.reg [5] f70r1) (.ite (.t 5) (.seq (.reg [2] f70r2) .ret) .nop)) (.seq (.reg [2] f70r3) .ret)))⟩
theorem e_field_Field_shape : type_of% f_field_Field_shape.eq_1 := by_rfl f_field_Field_shape.eq_1
theorem ok_field_Field_shape : fnC Tryz.prog a_field_Field_shape Tryz.f70 = some f_field_Field_shape := by kernel_rfl

/-! 71 fumarole/field.Sum$1 -/
def f71r0 : List Abs.Op := [qi 2 0]
def f71r1 : List Abs.Op := [qa 3 4 0, qa 4 2 1, qc 5 i_field_Field_model [3, 4], qm 2 5]
def a_field_Sum_1 : Ann := ⟨[(1, [2]), (0, [0, 1])], [], [], [], [], [], [], [], [], [], []⟩
def f_field_Sum_1 : Abs.Fn := ⟨2, [.t 2],
  (.seq (.reg [0, 1] f71r0) (.seq (.reg [2] f71r1) .ret))⟩
theorem e_field_Sum_1 : type_of% f_field_Sum_1.eq_1 := by_rfl f_field_Sum_1.eq_1
theorem ok_field_Sum_1 : fnC Tryz.prog a_field_Sum_1 Tryz.f71 = some f_field_Sum_1 := by kernel_rfl

/-! 72 (fumarole/field.Field).model -/
def f72r0 : List Abs.Op := [qx 2 0, qx 3 1, qi 4 0]
def f72r1 : List Abs.Op := [qf 6 0 3, ql 7 1 6, qc 8 i_field_named [7], qu 9 8, qm 5 9]
def f72r2 : List Abs.Op := [qi 4 5]
def f72r3 : List Abs.Op := [qF 11 1 3, qL 12 1 11, qE 13 12, qF 14 3 2, qL 15 1 14, qA 16 4 2, qC 17 i_field_Field_blocks [16], qK 18 .mul 15 17, qk 19 .neq 13 18, qm 20 19, qg 20 false (qf 21 1 3), qg 20 false (ql 22 1 21), qg 20 false (qo 23 (.call false (.c (.fn i_field_all_int [] [])) [(.t 22), (.c (.fn i_field_Field_model_1 [] []))])), qg 20 false (qu 24 23), qP 25 20 24, qm 10 25]
def f72r4 : List Abs.Op := [qi 4 1]
def f72r5 : List Abs.Op := [qi 4 0]
def a_field_Field_model : Ann := ⟨[(5, [4]), (2, [4]), (4, [4]), (3, [10]), (1, [2, 3, 5]), (0, [2, 3])], [], [], [], [], [], [], [], [], [], []⟩
def f_field_Field_model : Abs.Fn := ⟨2, [.t 4],
  (.seq (.reg [2, 3] f72r0) (.seq (.blk 0 (.seq (.reg [2, 3, 5] f72r1) (.ite (.t 5) (.seq (.reg [4] f72r2) .ret) (.seq (.reg [10] f72r3) (.ite (.t 10) (.seq (.reg [4] f72r4) .ret) .nop))))) (.seq (.reg [4] f72r5) .ret)))⟩
theorem e_field_Field_model : type_of% f_field_Field_model.eq_1 := by_rfl f_field_Field_model.eq_1
theorem ok_field_Field_model : fnC Tryz.prog a_field_Field_model Tryz.f72 = some f_field_Field_model := by kernel_rfl

/-! 73 fumarole/field.Sum$2 -/
def f73r0 : List Abs.Op := [qi 2 0]
def f73r1 : List Abs.Op := [qa 3 4 0, qa 4 6 1, qc 5 i_field_Field_measure [3, 4], qm 2 5]
def a_field_Sum_2 : Ann := ⟨[(1, [2]), (0, [0, 1])], [], [], [], [], [], [], [], [], [], []⟩
def f_field_Sum_2 : Abs.Fn := ⟨2, [.t 2],
  (.seq (.reg [0, 1] f73r0) (.seq (.reg [2] f73r1) .ret))⟩
theorem e_field_Sum_2 : type_of% f_field_Sum_2.eq_1 := by_rfl f_field_Sum_2.eq_1
theorem ok_field_Sum_2 : fnC Tryz.prog a_field_Sum_2 Tryz.f73 = some f_field_Sum_2 := by kernel_rfl

/-! 74 (fumarole/field.Field).measure -/
def f74r0 : List Abs.Op := [qx 2 0, qx 3 1, qi 4 0]
def f74r1 : List Abs.Op := [qf 6 0 3, ql 7 1 6, qc 8 i_field_named [7], qu 9 8, qm 5 9]
def f74r2 : List Abs.Op := [qi 4 5]
def f74r3 : List Abs.Op := [qa 11 4 2, qf 12 1 3, ql 13 1 12, qf 14 2 3, ql 15 1 14, qf 16 3 3, ql 17 1 16, qc 18 i_field_Field_sums [11, 13, 15, 17], qu 19 18, qm 20 19, qg 20 false (qf 21 4 3), qg 20 false (qa 22 2 21), qg 20 false (qc 23 i_field_Range_ends [22]), qg 20 false (qu 24 23), qP 25 20 24, qm 10 25]
def f74r4 : List Abs.Op := [qi 4 1]
def f74r5 : List Abs.Op := [qi 4 0]
def a_field_Field_measure : Ann := ⟨[(5, [4]), (2, [4]), (4, [4]), (3, [10]), (1, [2, 3, 5]), (0, [2, 3])], [], [], [], [], [], [], [], [], [], []⟩
def f_field_Field_measure : Abs.Fn := ⟨2, [.t 4],
  (.seq (.reg [2, 3] f74r0) (.seq (.blk 0 (.seq (.reg [2, 3, 5] f74r1) (.ite (.t 5) (.seq (.reg [4] f74r2) .ret) (.seq (.reg [10] f74r3) (.ite (.t 10) (.seq (.reg [4] f74r4) .ret) .nop))))) (.seq (.reg [4] f74r5) .ret)))⟩
theorem e_field_Field_measure : type_of% f_field_Field_measure.eq_1 := by_rfl f_field_Field_measure.eq_1
theorem ok_field_Field_measure : fnC Tryz.prog a_field_Field_measure Tryz.f74 = some f_field_Field_measure := by kernel_rfl

/-! 75 (fumarole/field.Field).weighs -/
def f75r0 : List Abs.Op := [qx 2 0, qx 3 1, qo 4 (.mv (.c .nilf))]
def f75r1 : List Abs.Op := [qa 5 4 2, qf 6 1 3, ql 7 1 6, qf 8 2 3, ql 9 1 8, qf 10 3 3, ql 11 1 10, qo 12 (.bld [(.int .i64 0), (.int .i64 0), (.int .i64 0), (.int .i64 0), (.int .i64 0), .nils, .nils] [(0, 4, (.t 5)), (4, 1, (.t 7)), (5, 1, (.t 9)), (6, 1, (.t 11))]), qo 13 (.mkf i_field_scale_of [(.t 12)] []), qm 4 13]
def a_field_Field_weighs : Ann := ⟨[(1, [4]), (0, [2, 3])], [], [], [], [], [], [], [], [], [], []⟩
def f_field_Field_weighs : Abs.Fn := ⟨2, [.t 4],
  (.seq (.reg [2, 3] f75r0) (.seq (.reg [4] f75r1) .ret))⟩
theorem e_field_Field_weighs : type_of% f_field_Field_weighs.eq_1 := by_rfl f_field_Field_weighs.eq_1
theorem ok_field_Field_weighs : fnC Tryz.prog a_field_Field_weighs Tryz.f75 = some f_field_Field_weighs := by kernel_rfl

/-! 76 fumarole/rock.ready -/
def f76r0 : List Abs.Op := [qx 3 0, qi 6 0]
def f76r1 : List Abs.Op := [qa 8 9 3, qc 9 i_rock_Bed_valid [8], qu 10 9, qm 7 10]
def f76r2 : List Abs.Op := [qi 6 1]
def f76r3 : List Abs.Op := [qm 12 1, qe 13 12, qo 14 (.call false (.c (.fn i_rock_within [] [])) [(.t 13), (.c (.int .i64 1)), (.c (.int .i64 40))]), qu 15 14, qm 11 15]
def f76r4 : List Abs.Op := [qi 6 3]
def f76r5 : List Abs.Op := [qf 17 0 3, qa 18 4 17, qm 19 1, qc 20 i_field_CheckModels [18, 19], qn 21 .neq 20 0, qm 22 21, qg 22 false (qm 23 1), qg 22 false (qo 24 (.mkf i_rock_ready_1 [] [(.t 3)])), qg 22 false (qc 25 i_rock_all_field_Model [23, 24]), qg 22 false (qu 26 25), qP 27 22 26, qm 16 27]
def f76r6 : List Abs.Op := [qi 6 1]
def f76r7 : List Abs.Op := [qa 28 9 3, qm 29 2, qc 30 i_rock_Bed_plan [28, 29], qm 6 30]
def a_rock_ready : Ann := ⟨[(7, [6]), (2, [6]), (4, [6]), (6, [6]), (5, [2, 3, 16]), (3, [1, 2, 3, 11]), (1, [1, 2, 3, 7]), (0, [1, 2, 3])], [], [], [], [], [], [], [], [], [], []⟩
def f_rock_ready : Abs.Fn := ⟨3, [.t 6],
  (.seq (.reg [1, 2, 3] f76r0) (.seq (.blk 0 (.seq (.reg [1, 2, 3, 7] f76r1) (.ite (.t 7) (.seq (.reg [6] f76r2) .ret) (.seq (.reg [1, 2, 3, 11] f76r3) (.ite (.t 11) (.seq (.reg [6] f76r4) .ret) (.seq (.reg [2, 3, 16] f76r5) (.ite (.t 16) (.seq (.reg [6] f76r6) .ret) .nop))))))) (.seq (.reg [6] f76r7) .ret)))⟩
theorem e_rock_ready : type_of% f_rock_ready.eq_1 := by_rfl f_rock_ready.eq_1
theorem ok_rock_ready : fnC Tryz.prog a_rock_ready Tryz.f76 = some f_rock_ready := by kernel_rfl

/-! 77 (fumarole/rock.Bed).reading -/
def f77r0 : List Abs.Op := [qx 3 0, qx 4 1, qi 6 0]
def f77r1 : List Abs.Op := [qf 9 1 4, ql 10 1 9, qo 11 (.cvt .i64 (.t 10)), qo 12 (.call false (.c (.fn i_rock_within [] [])) [(.t 11), (.c (.int .i64 1)), (.c (.int .i64 4))]), qu 13 12, qm 14 13, qg 14 false (qf 15 3 4), qg 14 false (qf 16 0 15), qg 14 false (ql 17 1 16), qg 14 false (qn 18 .lss 17 (-10000000000)), qP 19 14 18, qm 20 19, qg 20 false (qf 21 3 4), qg 20 false (qf 22 0 21), qg 20 false (ql 23 1 22), qg 20 false (qf 24 3 4), qg 20 false (qf 25 1 24), qg 20 false (ql 26 1 25), qg 20 false (qk 27 .gtr 23 26), qP 28 20 27, qm 29 28, qg 29 false (qf 30 3 4), qg 29 false (qf 31 1 30), qg 29 false (ql 32 1 31), qg 29 false (qn 33 .gtr 32 10000000000), qP 34 29 33]
def f77r2 : List Abs.Op := [qi 6 1]
def f77r3 : List Abs.Op := [qF 35 8 3, qL 36 1 35, qE 37 36, qO 7 (.mv (.c (.int .i64 1))), qm 8 37]
def f77r4 : List Abs.Op := [qf 38 1 4, ql 39 1 38, qo 40 (.bin .eql (.t 39) (.c (.int .u8 1)))]
def f77r5 : List Abs.Op := [qa 41 9 3, qc 42 i_rock_Bed_size [41], qi 7 0, qm 8 42]
def f77r6 : List Abs.Op := [qf 43 0 4, ql 44 1 43, qm 45 7, qm 46 2, qc 47 i_rock_within [44, 45, 46], qu 48 47, qm 49 48, qg 49 false (qf 50 2 4), qg 49 false (ql 51 1 50), qg 49 false (qm 52 8), qg 49 false (qn 53 .sub 52 1), qg 49 false (qo 54 (.call false (.c (.fn i_rock_within [] [])) [(.t 51), (.c (.int .i64 0)), (.t 53)])), qg 49 false (qu 55 54), qP 56 49 55]
def f77r7 : List Abs.Op := [qi 6 2]
def f77r8 : List Abs.Op := [qi 6 0]
def a_rock_Bed_reading : Ann := ⟨[(8, [6]), (7, [6]), (6, [56]), (5, [2, 4, 7, 8]), (4, [2, 3, 4, 7, 8, 40]), (3, [2, 3, 4, 7, 8]), (2, [6]), (1, [2, 3, 4, 34]), (0, [2, 3, 4])], [], [], [], [], [], [], [], [], [], []⟩
def f_rock_Bed_reading : Abs.Fn := ⟨3, [.t 6],
  (.seq (.reg [2, 3, 4] f77r0) (.seq (.seq (.reg [2, 3, 4, 34] f77r1) (.ite (.t 34) (.seq (.reg [6] f77r2) .ret) .nop)) (.seq (.reg [2, 3, 4, 7, 8] f77r3) (.seq (.seq (.reg [2, 3, 4, 7, 8, 40] f77r4) (.ite (.t 40) (.reg [2, 4, 7, 8] f77r5) .nop)) (.seq (.seq (.reg [56] f77r6) (.ite (.t 56) (.seq (.reg [6] f77r7) .ret) .nop)) (.seq (.reg [6] f77r8) .ret))))))⟩
theorem e_rock_Bed_reading : type_of% f_rock_Bed_reading.eq_1 := by_rfl f_rock_Bed_reading.eq_1
theorem ok_rock_Bed_reading : fnC Tryz.prog a_rock_Bed_reading Tryz.f77 = some f_rock_Bed_reading := by kernel_rfl

/-! 78 fumarole/rock.caught -/
def f78r0 : List Abs.Op := [qo 5 (.rcv)]
def f78r1 : List Abs.Op := [qo 7 (.isi false (.t 5))]
def f78r2 : List Abs.Op := [qm 2 5]
def f78r3 : List Abs.Op := [qo 8 (.tas 262 (some (.agg [])) (.t 5)), qz 9 8 1, qz 10 8 0]
def f78r4 : List Abs.Op := [qo 3 (.alcv [] []), qs 3 0 3 10]
def f78r5 : List Abs.Op := [qm 11 0, qo 12 (.nck (.t 11)), ⟨none, none, false, .st [] 1 (.t 12) (.c (.int .i64 9))⟩]
def f78r6 : List Abs.Op := [qm 4 5]
def f78r7 : List Abs.Op := [qm 6 4]
def f78r8 : List Abs.Op := []
def a_rock_caught : Ann := ⟨[(4, []), (7, []), (6, [0]), (2, []), (1, [4]), (5, [0, 5, 9, 10]), (3, [0, 5, 7]), (0, [0, 5])], [], [], [0, 3], [3], [], [], [], [], [], [(2, some 1)]⟩
def f_rock_caught : Abs.Fn := ⟨1, [],
  (.seq (.reg [0, 5] f78r0) (.blk 0 (.seq (.reg [0, 5, 7] f78r1) (.ite (.t 7) (.reg [] f78r2) (.seq (.reg [0, 5, 9, 10] f78r3) (.ite (.t 9) (.seq (.reg [0] f78r4) (.reg [] f78r5)) (.seq (.reg [4] f78r6) (.treg [] f78r7 ⟨none, none, false, .pan (.t 6)⟩ f78r8))))))))⟩
theorem e_rock_caught : type_of% f_rock_caught.eq_1 := by_rfl f_rock_caught.eq_1
theorem ok_rock_caught : fnC Tryz.prog a_rock_caught Tryz.f78 = some f_rock_caught := by kernel_rfl

/-! 79 fumarole/rock.runs -/
def f79r0 : List Abs.Op := [qx 3 0, qo 6 (.nilb 2)]
def f79r1 : List Abs.Op := [qm 9 1, qe 10 9, qi 11 0]
def f79r2 : List Abs.Op := [qk 12 .lss 11 10]
def f79r3 : List Abs.Op := [qj 13 2 9 11, qa 14 2 13, qo 8 (.alcv [] [(.str []), .nils]), qs 8 2 8 14]
def f79r4 : List Abs.Op := [qm 15 6, qa 16 9 3, qw 17 8 2 8, qo 18 (.bld [(.int .i64 0), (.int .i64 0), (.int .i64 0), (.int .i64 0), .nils, (.int .i64 0), (.int .i64 0), (.int .i64 0), .nils, (.str []), .nils] [(0, 9, (.t 16)), (9, 2, (.t 17))]), qm 19 2]
def f79r5 : List Abs.Op := [qo 21 (.bsi 1 2 [.nils, .nils] [(0, 2, (.t 20))]), qy 22 2 48 15 21, qm 6 22]
def f79r6 : List Abs.Op := [qn 23 .add 11 1, qm 11 23]
def f_rock_runs_l7 : Abs.Cmd :=
  (.seq (.reg [2, 3, 6, 9, 10, 11, 12] f79r2) (.seq (.ite (.t 12) .nop (.exit 0)) (.seq (.blk 1 (.seq (.reg [2, 3, 6, 8, 9, 10, 11] f79r3) (.treg [2, 3, 6, 9, 10, 11] f79r4 ⟨some 20, none, false, .call false (.c (.fn i_rock_bedded_run [] [])) [(.t 18), (.t 19)]⟩ f79r5))) (.reg [2, 3, 6, 9, 10, 11] f79r6))))

def f79r8 : List Abs.Op := [qm 24 6, qm 6 24]
def a_rock_runs : Ann := ⟨[(6, [6]), (5, [2, 3, 6, 9, 10, 11]), (4, [2, 3, 6, 9, 10, 11]), (3, [2, 3, 6, 8, 9, 10, 11]), (2, [2, 3, 6, 9, 10, 11, 12]), (1, [2, 3, 6, 9, 10, 11]), (0, [1, 2, 3, 6])], [(0, [2, 3, 6, 9, 10, 11])], [], [6, 8], [8], [], [], [], [], [], [(4, some 5)]⟩
def f_rock_runs : Abs.Fn := ⟨3, [.t 6],
  (.seq (.reg [1, 2, 3, 6] f79r0) (.seq (.seq (.reg [2, 3, 6, 9, 10, 11] f79r1) (.blk 0 (.loop [2, 3, 6, 9, 10, 11] false f_rock_runs_l7))) (.seq (.reg [6] f79r8) .ret)))⟩
theorem e_rock_runs_l7 : type_of% f_rock_runs_l7.eq_1 := by_rfl f_rock_runs_l7.eq_1
theorem e_rock_runs : type_of% f_rock_runs.eq_1 := by_rfl f_rock_runs.eq_1
theorem ok_rock_runs : fnC Tryz.prog a_rock_runs Tryz.f79 = some f_rock_runs := by kernel_rfl

/-! 80 (fumarole/rock.Range).miss -/
def f80r0 : List Abs.Op := [qx 2 0, qi 4 0]
def f80r1 : List Abs.Op := [qm 5 1, qf 6 1 2, ql 7 1 6, qk 8 .sub 5 7, qo 9 (.mx (.c (.int .i64 0)) (.t 8)), qm 10 1, qf 11 0 2, ql 12 1 11, qk 13 .sub 10 12, qo 14 (.mn (.c (.int .i64 0)) (.t 13)), qk 15 .add 9 14, qm 4 15]
def a_rock_Range_miss : Ann := ⟨[(1, [4]), (0, [1, 2])], [], [], [], [], [], [], [], [], [], []⟩
def f_rock_Range_miss : Abs.Fn := ⟨2, [.t 4],
  (.seq (.reg [1, 2] f80r0) (.seq (.reg [4] f80r1) .ret))⟩
theorem e_rock_Range_miss : type_of% f_rock_Range_miss.eq_1 := by_rfl f_rock_Range_miss.eq_1
theorem ok_rock_Range_miss : fnC Tryz.prog a_rock_Range_miss Tryz.f80 = some f_rock_Range_miss := by kernel_rfl

/-! 81 (fumarole/rock.bedded).value -/
def f81r0 : List Abs.Op := [qx 3 0, qx 4 1, qx 5 2, qi 6 0]
def f81r1 : List Abs.Op := [qf 7 1 5, ql 8 1 7, qo 9 (.bin .eql (.t 8) (.c (.int .u8 1)))]
def f81r2 : List Abs.Op := [qA 10 11 3, qF 11 0 4, qL 12 1 11, qF 13 0 5, qL 14 1 13, qJ 15 1 12 14, qL 16 1 15, qF 17 2 5, qL 18 1 17, qc 19 i_rock_bedded_pressure [10, 16, 18], qm 6 19]
def f81r3 : List Abs.Op := [qC 20 i_rock_tells [], qF 21 1 5, qL 22 1 21, qO 23 (.idxV false 5 1 (.t 20) (.t 22)), qF 24 1 4, qL 25 1 24, qF 26 0 5, qL 27 1 26, qN 28 .sub 27 1, qJ 29 1 25 28, qL 30 1 29, qF 31 2 5, qL 32 1 31, qJ 33 3 30 32, qA 34 3 33, qo 35 (.call false (.t 23) [(.t 34)]), qm 6 35]
def a_rock_bedded_value : Ann := ⟨[(3, [6]), (2, [6]), (1, [3, 4, 5, 9]), (0, [3, 4, 5])], [], [], [], [], [], [], [], [], [], []⟩
def f_rock_bedded_value : Abs.Fn := ⟨3, [.t 6],
  (.seq (.reg [3, 4, 5] f81r0) (.seq (.seq (.reg [3, 4, 5, 9] f81r1) (.ite (.t 9) (.seq (.reg [6] f81r2) .ret) .nop)) (.seq (.reg [6] f81r3) .ret)))⟩
theorem e_rock_bedded_value : type_of% f_rock_bedded_value.eq_1 := by_rfl f_rock_bedded_value.eq_1
theorem ok_rock_bedded_value : fnC Tryz.prog a_rock_bedded_value Tryz.f81 = some f_rock_bedded_value := by kernel_rfl

/-! 82 fumarole/tremor.all[fumarole/tremor.Rule] -/
def f82r0 : List Abs.Op := [qx 3 1, qb 4 false]
def f82r1 : List Abs.Op := [qm 5 0, qo 6 (.mkf i_tremor_all_tremor_Rule_1 [] [(.t 3)]), qc 7 i_slices_ContainsFunc_tremor_Rule [5, 6], qu 8 7, qm 4 8]
def a_tremor_all_tremor_Rule : Ann := ⟨[(1, [4]), (0, [0, 3])], [], [], [], [], [], [], [], [], [], []⟩
def f_tremor_all_tremor_Rule : Abs.Fn := ⟨2, [.t 4],
  (.seq (.reg [0, 3] f82r0) (.seq (.reg [4] f82r1) .ret))⟩
theorem e_tremor_all_tremor_Rule : type_of% f_tremor_all_tremor_Rule.eq_1 := by_rfl f_tremor_all_tremor_Rule.eq_1
theorem ok_tremor_all_tremor_Rule : fnC Tryz.prog a_tremor_all_tremor_Rule Tryz.f82 = some f_tremor_all_tremor_Rule := by kernel_rfl

/-! 83 (fumarole/tremor.Rule).valid -/
def f83r0 : List Abs.Op := [qx 1 0, qb 2 false]
def f83r1 : List Abs.Op := [qf 3 0 1, qa 4 3 3, qf 5 3 1, qa 6 3 5, qc 7 i_tremor_box [4, 6], qm 8 7, qg 8 true (qf 9 6 1), qg 8 true (ql 10 1 9), qg 8 true (qo 11 (.call false (.c (.fn i_tremor_within [] [])) [(.t 10), (.c (.int .i64 0)), (.c (.int .i64 160))])), qp 12 8 11, qm 13 12, qg 13 true (qf 14 7 1), qg 13 true (ql 15 1 14), qg 13 true (qo 16 (.call false (.c (.fn i_tremor_within [] [])) [(.t 15), (.c (.int .i64 1)), (.c (.int .i64 1000000))])), qp 17 13 16, qm 18 17, qg 18 true (qf 19 8 1), qg 18 true (ql 20 1 19), qg 18 true (qo 21 (.call false (.c (.fn i_tremor_within [] [])) [(.t 20), (.c (.int .i64 1)), (.c (.int .i64 200))])), qp 22 18 21, qm 23 22, qg 23 true (qf 24 9 1), qg 23 true (ql 25 1 24), qg 23 true (qo 26 (.bin .eql (.t 25) (.c (.int .u8 1)))), qg 23 true (qm 27 26), qg 27 false (qf 28 9 1), qg 27 false (ql 29 1 28), qg 27 false (qo 30 (.bin .eql (.t 29) (.c (.int .u8 2)))), qg 23 true (qP 31 27 30), qp 32 23 31, qm 2 32]
def a_tremor_Rule_valid : Ann := ⟨[(1, [2]), (0, [1])], [], [], [], [], [], [], [], [], [], []⟩
def f_tremor_Rule_valid : Abs.Fn := ⟨1, [.t 2],
  (.seq (.reg [1] f83r0) (.seq (.reg [2] f83r1) .ret))⟩
theorem e_tremor_Rule_valid : type_of% f_tremor_Rule_valid.eq_1 := by_rfl f_tremor_Rule_valid.eq_1
theorem ok_tremor_Rule_valid : fnC Tryz.prog a_tremor_Rule_valid Tryz.f83 = some f_tremor_Rule_valid := by kernel_rfl

/-! 84 fumarole/tremor.all[fumarole/tremor.Event] -/
def f84r0 : List Abs.Op := [qx 3 1, qb 4 false]
def f84r1 : List Abs.Op := [qm 5 0, qo 6 (.mkf i_tremor_all_tremor_Event_1 [] [(.t 3)]), qc 7 i_slices_ContainsFunc_tremor_Event [5, 6], qu 8 7, qm 4 8]
def a_tremor_all_tremor_Event : Ann := ⟨[(1, [4]), (0, [0, 3])], [], [], [], [], [], [], [], [], [], []⟩
def f_tremor_all_tremor_Event : Abs.Fn := ⟨2, [.t 4],
  (.seq (.reg [0, 3] f84r0) (.seq (.reg [4] f84r1) .ret))⟩
theorem e_tremor_all_tremor_Event : type_of% f_tremor_all_tremor_Event.eq_1 := by_rfl f_tremor_all_tremor_Event.eq_1
theorem ok_tremor_all_tremor_Event : fnC Tryz.prog a_tremor_all_tremor_Event Tryz.f84 = some f_tremor_all_tremor_Event := by kernel_rfl

/-! 85 (fumarole/tremor.Event).valid -/
def f85r0 : List Abs.Op := [qx 1 0, qb 2 false]
def f85r1 : List Abs.Op := [qf 3 0 1, ql 4 1 3, qo 5 (.call false (.c (.fn i_tremor_within [] [])) [(.t 4), (.c (.int .i64 0)), (.c (.int .i64 1000000))]), qm 6 5, qg 6 true (qf 7 1 1), qg 6 true (ql 8 1 7), qg 6 true (qe 9 8), qg 6 true (qo 10 (.call false (.c (.fn i_tremor_within [] [])) [(.t 9), (.c (.int .i64 1)), (.c (.int .i64 2000))])), qp 11 6 10, qm 12 11, qg 12 true (qf 13 1 1), qg 12 true (ql 14 1 13), qg 12 true (qo 15 (.call false (.c (.fn i_tremor_all_tremor_Spot [] [])) [(.t 14), (.c (.fn i_tremor_Event_valid_1 [] []))])), qp 16 12 15, qm 2 16]
def a_tremor_Event_valid : Ann := ⟨[(1, [2]), (0, [1])], [], [], [], [], [], [], [], [], [], []⟩
def f_tremor_Event_valid : Abs.Fn := ⟨1, [.t 2],
  (.seq (.reg [1] f85r0) (.seq (.reg [2] f85r1) .ret))⟩
theorem e_tremor_Event_valid : type_of% f_tremor_Event_valid.eq_1 := by_rfl f_tremor_Event_valid.eq_1
theorem ok_tremor_Event_valid : fnC Tryz.prog a_tremor_Event_valid Tryz.f85 = some f_tremor_Event_valid := by kernel_rfl

/-! 86 fumarole/tremor.within -/
def f86r0 : List Abs.Op := [qb 6 false]
def f86r1 : List Abs.Op := [qm 7 1, qm 8 0, qk 9 .leq 7 8, qm 10 9, qg 10 true (qm 11 0), qg 10 true (qm 12 2), qg 10 true (qk 13 .leq 11 12), qp 14 10 13, qm 6 14]
def a_tremor_within : Ann := ⟨[(1, [6]), (0, [0, 1, 2])], [], [], [], [], [], [], [], [], [], []⟩
def f_tremor_within : Abs.Fn := ⟨3, [.t 6],
  (.seq (.reg [0, 1, 2] f86r0) (.seq (.reg [6] f86r1) .ret))⟩
theorem e_tremor_within : type_of% f_tremor_within.eq_1 := by_rfl f_tremor_within.eq_1
theorem ok_tremor_within : fnC Tryz.prog a_tremor_within Tryz.f86 = some f_tremor_within := by kernel_rfl

/-! 87 (fumarole/tremor.Rule).counts -/
def f87r0 : List Abs.Op := [qx 2 0, qx 3 1, qb 4 false]
def f87r1 : List Abs.Op := [qf 6 0 3, qa 7 3 6, qo 5 (.alcv [] [(.int .i64 0), (.int .i64 0), (.int .i64 0)]), qs 5 3 5 7]
def f87r2 : List Abs.Op := [qf 8 3 3, ql 9 1 8, qf 10 6 2, ql 11 1 10, qk 12 .geq 9 11, qm 13 12, qg 13 true (qf 14 0 5), qg 13 true (qv 15 5 1 14), qg 13 true (qf 16 0 2), qg 13 true (qf 17 0 16), qg 13 true (ql 18 1 17), qg 13 true (qf 19 3 2), qg 13 true (qf 20 0 19), qg 13 true (ql 21 1 20), qg 13 true (qc 22 i_tremor_within [15, 18, 21]), qp 23 13 22, qm 24 23, qg 24 true (qf 25 1 5), qg 24 true (qv 26 5 1 25), qg 24 true (qf 27 0 2), qg 24 true (qf 28 1 27), qg 24 true (ql 29 1 28), qg 24 true (qf 30 3 2), qg 24 true (qf 31 1 30), qg 24 true (ql 32 1 31), qg 24 true (qc 33 i_tremor_within [26, 29, 32]), qp 34 24 33, qm 35 34, qg 35 true (qf 36 2 5), qg 35 true (qv 37 5 1 36), qg 35 true (qf 38 0 2), qg 35 true (qf 39 2 38), qg 35 true (ql 40 1 39), qg 35 true (qf 41 3 2), qg 35 true (qf 42 2 41), qg 35 true (ql 43 1 42), qg 35 true (qc 44 i_tremor_within [37, 40, 43]), qp 45 35 44, qm 4 45]
def a_tremor_Rule_counts : Ann := ⟨[(2, [4]), (1, [2, 3, 5]), (0, [2, 3])], [], [], [5], [5], [], [], [], [], [], []⟩
def f_tremor_Rule_counts : Abs.Fn := ⟨2, [.t 4],
  (.seq (.reg [2, 3] f87r0) (.seq (.reg [2, 3, 5] f87r1) (.seq (.reg [4] f87r2) .ret)))⟩
theorem e_tremor_Rule_counts : type_of% f_tremor_Rule_counts.eq_1 := by_rfl f_tremor_Rule_counts.eq_1
theorem ok_tremor_Rule_counts : fnC Tryz.prog a_tremor_Rule_counts Tryz.f87 = some f_tremor_Rule_counts := by kernel_rfl

/-! 88 slices.ContainsFunc[[]fumarole/tremor.Spot,fumarole/tremor.Spot] -/
def f88r0 : List Abs.Op := [qb 4 false]
def f88r1 : List Abs.Op := [qm 5 0, qm 6 1, qc 7 i_slices_IndexFunc_tremor_Spot [5, 6], qn 8 .geq 7 0, qm 4 8]
def a_slices_ContainsFunc_tremor_Spot : Ann := ⟨[(1, [4]), (0, [0, 1])], [], [], [], [], [], [], [], [], [], []⟩
def f_slices_ContainsFunc_tremor_Spot : Abs.Fn := ⟨2, [.t 4],
  (.seq (.reg [0, 1] f88r0) (.seq (.reg [4] f88r1) .ret))⟩
theorem e_slices_ContainsFunc_tremor_Spot : type_of% f_slices_ContainsFunc_tremor_Spot.eq_1 := by_rfl f_slices_ContainsFunc_tremor_Spot.eq_1
theorem ok_slices_ContainsFunc_tremor_Spot : fnC Tryz.prog a_slices_ContainsFunc_tremor_Spot Tryz.f88 = some f_slices_ContainsFunc_tremor_Spot := by kernel_rfl

/-! 89 fumarole/tremor.all[fumarole/tremor.Spot] -/
def f89r0 : List Abs.Op := [qx 3 1, qb 4 false]
def f89r1 : List Abs.Op := [qm 5 0, qo 6 (.mkf i_tremor_all_tremor_Spot_1 [] [(.t 3)]), qc 7 i_slices_ContainsFunc_tremor_Spot [5, 6], qu 8 7, qm 4 8]
def a_tremor_all_tremor_Spot : Ann := ⟨[(1, [4]), (0, [0, 3])], [], [], [], [], [], [], [], [], [], []⟩
def f_tremor_all_tremor_Spot : Abs.Fn := ⟨2, [.t 4],
  (.seq (.reg [0, 3] f89r0) (.seq (.reg [4] f89r1) .ret))⟩
theorem e_tremor_all_tremor_Spot : type_of% f_tremor_all_tremor_Spot.eq_1 := by_rfl f_tremor_all_tremor_Spot.eq_1
theorem ok_tremor_all_tremor_Spot : fnC Tryz.prog a_tremor_all_tremor_Spot Tryz.f89 = some f_tremor_all_tremor_Spot := by kernel_rfl

/-! 90 fumarole/rock.bed -/
def f90r0 : List Abs.Op := [qx 2 0, qx 3 1, qo 4 (.alcv [] [(.int .i64 0), (.int .i64 0), (.int .i64 0), (.int .i64 0), .nils, (.int .i64 0), (.int .i64 0), (.int .i64 0), .nils, (.str []), .nils]), qi 5 0]
def f90r1 : List Abs.Op := [qa 7 9 2, qa 8 2 3, qo 9 (.bld [(.int .i64 0), (.int .i64 0), (.int .i64 0), (.int .i64 0), .nils, (.int .i64 0), (.int .i64 0), (.int .i64 0), .nils, (.str []), .nils] [(0, 9, (.t 7)), (9, 2, (.t 8))]), qo 6 (.alcv [] [(.int .i64 0), (.int .i64 0), (.int .i64 0), (.int .i64 0), .nils, (.int .i64 0), (.int .i64 0), (.int .i64 0), .nils, (.str []), .nils]), qs 6 11 6 9]
def f90r2 : List Abs.Op := [qa 10 9 2, qc 11 i_rock_Bed_valid [10], qu 12 11, qm 13 12, qg 13 false (qw 14 6 11 6), qg 13 false (qc 15 i_rock_bedded_fits [14]), qg 13 false (qu 16 15), qP 17 13 16]
def f90r3 : List Abs.Op := [qo 18 (.bld [(.int .i64 0), (.int .i64 0), (.int .i64 0), (.int .i64 0), .nils, (.int .i64 0), (.int .i64 0), (.int .i64 0), .nils, (.str []), .nils] []), qs 4 11 4 18, qi 5 1]
def f90r4 : List Abs.Op := [qw 19 6 11 6, qs 4 11 4 19, qi 5 0]
def a_rock_bed : Ann := ⟨[(4, [4, 5]), (3, [4, 5]), (2, [4, 6, 17]), (1, [2, 4, 6]), (0, [2, 3, 4])], [], [], [4, 6], [4, 6], [], [], [], [], [], []⟩
def f_rock_bed : Abs.Fn := ⟨2, [.v 4 true 11, .t 5],
  (.seq (.reg [2, 3, 4] f90r0) (.seq (.reg [2, 4, 6] f90r1) (.seq (.seq (.reg [4, 6, 17] f90r2) (.ite (.t 17) (.seq (.reg [4, 5] f90r3) .ret) .nop)) (.seq (.reg [4, 5] f90r4) .ret))))⟩
theorem e_rock_bed : type_of% f_rock_bed.eq_1 := by_rfl f_rock_bed.eq_1
theorem ok_rock_bed : fnC Tryz.prog a_rock_bed Tryz.f90 = some f_rock_bed := by kernel_rfl

end Go.Proofs.YtfgljaglidhjiaaGreatDoor
