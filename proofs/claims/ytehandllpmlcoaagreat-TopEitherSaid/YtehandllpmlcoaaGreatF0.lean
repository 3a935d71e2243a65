/- The code of functions of the program, in the small instruction set; each is what the translation makes of it. -/
import Derived.Test.YtehandllpmlcoaaGreatIds
set_option linter.unusedVariables false
set_option linter.unusedSimpArgs false
set_option maxRecDepth 100000
namespace Go.Proofs.YtehandllpmlcoaaGreat
open Go Go.Abs
/-! 4 fumarole/fumaroletop.TopEither -/
def f4r0 : List Abs.Op := [qx 5 0, qb 10 false]
def f4r1 : List Abs.Op := [qa 37 9 5, qm 38 1, qm 39 2, qc 40 i_top_run [37, 38, 39], qu 41 40, qm 42 41, qg 42 false (qf 43 0 5), qg 42 false (qa 44 4 43), qg 42 false (qm 45 3), qg 42 false (qc 46 i_ref02_MeasuresFault [44, 45]), qg 42 false (qn 47 .neq 46 0), qP 48 42 47, qm 49 48, qg 49 false (qm 50 4), qg 49 false (qe 51 50), qg 49 false (qn 52 .gtr 51 8), qP 53 49 52, qm 54 53, qg 54 false (qa 55 9 5), qg 54 false (qm 56 2), qg 54 false (qe 57 56), qg 54 false (qm 58 4), qg 54 false (qc 59 i_ref05_ReadingsFault [55, 57, 58]), qg 54 false (qn 60 .neq 59 0), qP 61 54 60]
def f4r2 : List Abs.Op := [qc 62 i_top_still [], qm 10 62]
def f4r3 : List Abs.Op := [qA 63 9 5, qC 64 i_law05_Bed [63], qF 65 0 5, qA 66 4 65, qC 67 i_law02_Field [66], qM 68 1, qC 69 i_law02_Models [68], qO 11 (.alcv [] [(.int .i64 0), (.int .i64 0), (.int .i64 0), (.int .i64 0), .nils, (.int .i64 0), (.int .i64 0), (.int .i64 0), .nils]), qO 12 (.alcv [] [(.int .i64 0), (.int .i64 0), (.int .i64 0), (.int .i64 0)]), qs 11 9 11 64, qs 12 4 12 67, qm 13 69]
def f4r4 : List Abs.Op := [qW 71 12 4 12, qM 72 13, qM 73 3, qC 74 i_law02_Measures [73], qC 75 i_field_Strikes [71, 72, 74], qM 70 75, qZ 76 70 0, qZ 77 70 1, qZ 78 70 2, qM 14 76, qM 15 77, qm 16 78]
def f4r5 : List Abs.Op := [qW 80 11 9 11, qM 81 13, qM 82 2, qC 83 i_law05_Plan [82], qM 84 4, qC 85 i_law05_Readings [84], qC 86 i_rock_Strikes [80, 81, 83, 85], qM 79 86, qZ 87 79 0, qZ 88 79 1, qZ 89 79 2, qM 17 87, qM 18 88, qm 19 89]
def f4r6 : List Abs.Op := [qm 90 16, qn 91 .neq 90 0, qm 92 91, qg 92 false (qm 93 19), qg 92 false (qn 94 .neq 93 0), qP 95 92 94]
def f4r7 : List Abs.Op := [qm 96 16, qn 97 .eql 96 0, qm 98 97, qg 98 true (qm 99 19), qg 98 true (qn 100 .eql 99 9), qp 101 98 100, qm 102 101, qg 102 true (qc 103 i_top_still []), qp 104 102 103, qm 10 104]
def f4r8 : List Abs.Op := [qm 106 13, qm 107 14, qc 108 i_top_some [106, 107], qm 105 108, qz 109 105 0, qz 110 105 1, qm 20 109, qm 21 110]
def f4r9 : List Abs.Op := [qm 112 13, qm 113 17, qc 114 i_top_some [112, 113], qm 111 114, qz 115 111 0, qz 116 111 1, qm 22 115, qm 23 116]
def f4r10 : List Abs.Op := [qm 117 21, qu 118 117, qm 119 118, qg 119 false (qm 120 23), qg 119 false (qu 121 120), qP 122 119 121]
def f4r11 : List Abs.Op := [qb 10 false]
def f4r12 : List Abs.Op := [qo 24 (.mv (.c .nils)), qo 25 (.mv (.c .nils))]
def f4r13 : List Abs.Op := [qm 123 20, qe 124 123, qn 125 .gtr 124 0]
def f4r14 : List Abs.Op := [qW 127 11 9 11, qM 128 20, qM 129 2, qC 130 i_law05_Plan [129], qM 131 4, qC 132 i_law05_Readings [131], qC 133 i_rock_Strikes [127, 128, 130, 132], qM 126 133, qZ 134 126 0, qZ 135 126 1, qZ 136 126 2, qM 26 134, qM 27 135, qm 28 136]
def f4r15 : List Abs.Op := [qm 138 20, qm 139 26, qc 140 i_top_some [138, 139], qm 137 140, qz 141 137 0, qz 142 137 1, qm 29 141, qm 30 142]
def f4r16 : List Abs.Op := [qm 143 28, qn 144 .neq 143 0, qm 145 144, qg 145 false (qm 146 30), qg 145 false (qu 147 146), qP 148 145 147]
def f4r17 : List Abs.Op := [qb 10 false]
def f4r18 : List Abs.Op := [qm 149 29, qm 24 149]
def f4r19 : List Abs.Op := [qm 150 22, qe 151 150, qn 152 .gtr 151 0]
def f4r20 : List Abs.Op := [qW 154 12 4 12, qM 155 22, qM 156 3, qC 157 i_law02_Measures [156], qC 158 i_field_Strikes [154, 155, 157], qM 153 158, qZ 159 153 0, qZ 160 153 1, qZ 161 153 2, qM 31 159, qM 32 160, qm 33 161]
def f4r21 : List Abs.Op := [qm 163 22, qm 164 31, qc 165 i_top_some [163, 164], qm 162 165, qz 166 162 0, qz 167 162 1, qm 34 166, qm 35 167]
def f4r22 : List Abs.Op := [qm 168 33, qn 169 .neq 168 0, qm 170 169, qg 170 false (qm 171 35), qg 170 false (qu 172 171), qP 173 170 172]
def f4r23 : List Abs.Op := [qb 10 false]
def f4r24 : List Abs.Op := [qm 174 34, qm 25 174]
def f4r25 : List Abs.Op := [qm 175 24, qe 176 175, qm 177 25, qe 178 177, qk 179 .neq 176 178]
def f4r26 : List Abs.Op := [qb 10 false]
def f4r27 : List Abs.Op := [qi 36 0]
def f4r28 : List Abs.Op := [qm 180 36, qm 181 24, qe 182 181, qk 183 .lss 180 182]
def f4r29 : List Abs.Op := [qM 186 24, qM 187 36, qJ 188 2 186 187, qF 189 0 188, qL 190 1 189, qM 191 25, qM 192 36, qJ 193 2 191 192, qF 194 0 193, qL 195 1 194, qo 196 (.pur (.seq true) [(.t 190), (.t 195)])]
def f4r30 : List Abs.Op := [qb 10 false]
def f4r31 : List Abs.Op := [qm 184 36, qn 185 .add 184 1, qm 36 185]
def f_top_TopEither_l32 : Abs.Cmd :=
  (.seq (.seq (.reg [24, 25, 36, 183] f4r28) (.ite (.t 183) .nop (.exit 0))) (.seq (.blk 1 (.seq (.reg [24, 25, 36, 196] f4r29) (.ite (.t 196) (.seq (.reg [10] f4r30) .ret) .nop))) (.reg [24, 25, 36] f4r31)))

def f4r33 : List Abs.Op := [qc 197 i_top_still [], qm 10 197]
def a_top_TopEither : Ann := ⟨[(32, [10]), (29, [24, 25, 36]), (31, [10]), (30, [24, 25, 36, 196]), (28, [24, 25, 36, 183]), (27, [24, 25, 36]), (26, [10]), (25, [24, 25, 179]), (24, [24, 25]), (23, [10]), (22, [24, 34, 173]), (21, [24, 33, 34, 35]), (20, [22, 24, 31, 33]), (19, [3, 12, 22, 24, 25, 152]), (18, [3, 12, 22, 24, 25]), (17, [10]), (16, [3, 12, 22, 25, 29, 148]), (15, [3, 12, 22, 25, 28, 29, 30]), (14, [3, 12, 20, 22, 25, 26, 28]), (13, [2, 3, 4, 11, 12, 20, 22, 24, 25, 125]), (12, [2, 3, 4, 11, 12, 20, 22, 24, 25]), (11, [10]), (10, [2, 3, 4, 11, 12, 20, 22, 122]), (9, [2, 3, 4, 11, 12, 20, 21, 22, 23]), (8, [2, 3, 4, 11, 12, 13, 17, 20, 21]), (7, [10]), (6, [2, 3, 4, 11, 12, 13, 14, 16, 17, 19, 95]), (5, [2, 3, 4, 11, 12, 13, 14, 16, 17, 19]), (4, [2, 3, 4, 11, 12, 13, 14, 16]), (3, [2, 3, 4, 11, 12, 13]), (2, [10]), (1, [1, 2, 3, 4, 5, 61]), (0, [1, 2, 3, 4, 5])], [(0, [24, 25, 36])], [], [11, 12], [11, 12], [], [], [], [], [], []⟩
def f_top_TopEither : Abs.Fn := ⟨5, [.t 10],
  (.seq (.reg [1, 2, 3, 4, 5] f4r0) (.seq (.seq (.reg [1, 2, 3, 4, 5, 61] f4r1) (.ite (.t 61) (.seq (.reg [10] f4r2) .ret) .nop)) (.seq (.reg [2, 3, 4, 11, 12, 13] f4r3) (.seq (.reg [2, 3, 4, 11, 12, 13, 14, 16] f4r4) (.seq (.reg [2, 3, 4, 11, 12, 13, 14, 16, 17, 19] f4r5) (.seq (.seq (.reg [2, 3, 4, 11, 12, 13, 14, 16, 17, 19, 95] f4r6) (.ite (.t 95) (.seq (.reg [10] f4r7) .ret) .nop)) (.seq (.reg [2, 3, 4, 11, 12, 13, 17, 20, 21] f4r8) (.seq (.reg [2, 3, 4, 11, 12, 20, 21, 22, 23] f4r9) (.seq (.seq (.reg [2, 3, 4, 11, 12, 20, 22, 122] f4r10) (.ite (.t 122) (.seq (.reg [10] f4r11) .ret) .nop)) (.seq (.reg [2, 3, 4, 11, 12, 20, 22, 24, 25] f4r12) (.seq (.seq (.reg [2, 3, 4, 11, 12, 20, 22, 24, 25, 125] f4r13) (.ite (.t 125) (.seq (.reg [3, 12, 20, 22, 25, 26, 28] f4r14) (.seq (.reg [3, 12, 22, 25, 28, 29, 30] f4r15) (.seq (.seq (.reg [3, 12, 22, 25, 29, 148] f4r16) (.ite (.t 148) (.seq (.reg [10] f4r17) .ret) .nop)) (.reg [3, 12, 22, 24, 25] f4r18)))) .nop)) (.seq (.seq (.reg [3, 12, 22, 24, 25, 152] f4r19) (.ite (.t 152) (.seq (.reg [22, 24, 31, 33] f4r20) (.seq (.reg [24, 33, 34, 35] f4r21) (.seq (.seq (.reg [24, 34, 173] f4r22) (.ite (.t 173) (.seq (.reg [10] f4r23) .ret) .nop)) (.reg [24, 25] f4r24)))) .nop)) (.seq (.seq (.reg [24, 25, 179] f4r25) (.ite (.t 179) (.seq (.reg [10] f4r26) .ret) .nop)) (.seq (.seq (.reg [24, 25, 36] f4r27) (.blk 0 (.loop [24, 25, 36] false f_top_TopEither_l32))) (.seq (.reg [10] f4r33) .ret)))))))))))))))⟩
@[simp] theorem e4 : type_of% (show f4r0 = _ ∧ f4r1 = _ ∧ f4r2 = _ ∧ f4r3 = _ ∧ f4r4 = _ ∧ f4r5 = _ ∧ f4r6 = _ ∧ f4r7 = _ ∧ f4r8 = _ ∧ f4r9 = _ ∧ f4r10 = _ ∧ f4r11 = _ ∧ f4r12 = _ ∧ f4r13 = _ ∧ f4r14 = _ ∧ f4r15 = _ ∧ f4r16 = _ ∧ f4r17 = _ ∧ f4r18 = _ ∧ f4r19 = _ ∧ f4r20 = _ ∧ f4r21 = _ ∧ f4r22 = _ ∧ f4r23 = _ ∧ f4r24 = _ ∧ f4r25 = _ ∧ f4r26 = _ ∧ f4r27 = _ ∧ f4r28 = _ ∧ f4r29 = _ ∧ f4r30 = _ ∧ f4r31 = _ ∧ f4r33 = _ from by simp only [f4r0, f4r1, f4r2, f4r3, f4r4, f4r5, f4r6, f4r7, f4r8, f4r9, f4r10, f4r11, f4r12, f4r13, f4r14, f4r15, f4r16, f4r17, f4r18, f4r19, f4r20, f4r21, f4r22, f4r23, f4r24, f4r25, f4r26, f4r27, f4r28, f4r29, f4r30, f4r31, f4r33, qo, qO, qm, qM, qi, qb, qf, qF, qL, qa, qA, qW, qx, qe, qJ, qk, qn, qu, qp, qP, qs, qz, qZ, qc, qC, qg, List.map_cons, List.map_nil]; exact ⟨rfl, rfl, rfl, rfl, rfl, rfl, rfl, rfl, rfl, rfl, rfl, rfl, rfl, rfl, rfl, rfl, rfl, rfl, rfl, rfl, rfl, rfl, rfl, rfl, rfl, rfl, rfl, rfl, rfl, rfl, rfl, rfl, rfl⟩) := ⟨rfl, rfl, rfl, rfl, rfl, rfl, rfl, rfl, rfl, rfl, rfl, rfl, rfl, rfl, rfl, rfl, rfl, rfl, rfl, rfl, rfl, rfl, rfl, rfl, rfl, rfl, rfl, rfl, rfl, rfl, rfl, rfl, rfl⟩
theorem e_top_TopEither_l32 : type_of% f_top_TopEither_l32.eq_1 := by_rfl f_top_TopEither_l32.eq_1
theorem e_top_TopEither : type_of% f_top_TopEither.eq_1 := by_rfl f_top_TopEither.eq_1
theorem ok_top_TopEither : fnC Tryz.prog a_top_TopEither Tryz.f4 = some f_top_TopEither := by kernel_rfl

/-! 6 fumarole/fumaroletop.run -/
def f6r0 : List Abs.Op := [qx 3 0, qb 6 false]
def f6r1 : List Abs.Op := [qa 7 9 3, qc 8 i_ref05_Right [7], qm 9 8, qg 9 true (qm 10 1), qg 9 true (qe 11 10), qg 9 true (qn 12 .leq 11 4), qp 13 9 12, qm 14 13, qg 14 true (qa 15 9 3), qg 14 true (qm 16 1), qg 14 true (qc 17 i_ref05_ModelsFault [15, 16]), qg 14 true (qn 18 .eql 17 0), qp 19 14 18, qm 20 19, qg 20 true (qm 21 2), qg 20 true (qe 22 21), qg 20 true (qn 23 .leq 22 6), qp 24 20 23, qm 25 24, qg 25 true (qa 26 9 3), qg 25 true (qm 27 2), qg 25 true (qc 28 i_ref05_PlanFault [26, 27]), qg 25 true (qn 29 .eql 28 0), qp 30 25 29, qm 6 30]
def a_top_run : Ann := ⟨[(1, [6]), (0, [1, 2, 3])], [], [], [], [], [], [], [], [], [], []⟩
def f_top_run : Abs.Fn := ⟨3, [.t 6],
  (.seq (.reg [1, 2, 3] f6r0) (.seq (.reg [6] f6r1) .ret))⟩
@[simp] theorem e6 : type_of% (show f6r0 = _ ∧ f6r1 = _ from by simp only [f6r0, f6r1, qm, qb, qa, qx, qe, qn, qp, qc, qg, List.map_cons, List.map_nil]; exact ⟨rfl, rfl⟩) := ⟨rfl, rfl⟩
theorem e_top_run : type_of% f_top_run.eq_1 := by_rfl f_top_run.eq_1
theorem ok_top_run : fnC Tryz.prog a_top_run Tryz.f6 = some f_top_run := by kernel_rfl

/-! 7 fumarole/fumaroletop.still -/
def f7r0 : List Abs.Op := [qb 0 false]
def f7r1 : List Abs.Op := [qo 4 (.bld [(.int .i64 0), (.int .i64 0), (.int .i64 0), (.int .i64 0)] [(0, 1, (.c (.int .i64 1))), (1, 1, (.c (.int .i64 1))), (2, 1, (.c (.int .i64 1))), (3, 1, (.c (.int .i64 4)))]), qc 5 i_law01_Three [], qo 6 (.bld [(.int .i64 0), (.int .i64 0), (.int .i64 0), (.int .i64 0), .nils, (.int .i64 0), (.int .i64 0), (.int .i64 0), .nils] [(0, 4, (.t 4)), (4, 1, (.t 5)), (5, 1, (.c (.int .i64 1)))]), qo 1 (.alcv [] [(.int .i64 0), (.int .i64 0), (.int .i64 0), (.int .i64 0), .nils, (.int .i64 0), (.int .i64 0), (.int .i64 0), .nils]), qs 1 9 1 6]
def f7r2 : List Abs.Op := [qw 8 1 9 1, qo 9 (.bsi 4 1 [(.int .i64 0), (.int .i64 0), (.int .i64 0), (.int .i64 0)] [(0, 1, (.c (.int .i64 1000))), (1, 1, (.c (.int .i64 0))), (2, 1, (.c (.int .i64 2))), (3, 1, (.c (.int .i64 0)))]), qo 10 (.bld [(.str []), .nils] [(0, 1, (.c (.str [109]))), (1, 1, (.t 9))]), qo 11 (.bsi 0 1 [] []), qo 12 (.bsi 1 1 [.nils] [(0, 1, (.t 11))]), qc 13 i_rock_Play [8, 10, 12], qm 7 13, qz 14 7 0, qz 15 7 1, qo 2 (.alcv [] [.nils, .nils]), qs 2 2 2 14, qm 3 15]
def f7r3 : List Abs.Op := [qm 16 3, qn 17 .eql 16 0, qm 18 17, qg 18 true (qf 19 0 2), qg 18 true (qv 20 2 1 19), qg 18 true (qe 21 20), qg 18 true (qn 22 .eql 21 2), qp 23 18 22, qm 24 23, qg 24 true (qf 25 0 2), qg 24 true (qv 26 2 1 25), qg 24 true (qo 27 (.idxS 1 (.t 26) (.c (.int .i64 1)))), qg 24 true (ql 28 1 27), qg 24 true (qe 29 28), qg 24 true (qn 30 .eql 29 1), qp 31 24 30, qm 32 31, qg 32 true (qf 33 0 2), qg 32 true (qv 34 2 1 33), qg 32 true (qo 35 (.idxS 1 (.t 34) (.c (.int .i64 1)))), qg 32 true (ql 36 1 35), qg 32 true (qo 37 (.idxS 3 (.t 36) (.c (.int .i64 0)))), qg 32 true (qa 38 3 37), qg 32 true (qo 39 (.bld [(.int .i64 0), (.int .i64 0), (.int .i64 0)] [(0, 1, (.c (.int .i64 1000))), (1, 1, (.c (.int .i64 2000)))])), qg 32 true (qo 40 (.eqv true [some .i64, some .i64, some .i64] false (.t 38) (.t 39))), qp 41 32 40, qm 0 41]
def a_top_still : Ann := ⟨[(3, [0]), (2, [2, 3]), (1, [1]), (0, [])], [], [], [1, 2], [1, 2], [], [], [], [], [], []⟩
def f_top_still : Abs.Fn := ⟨0, [.t 0],
  (.seq (.reg [] f7r0) (.seq (.reg [1] f7r1) (.seq (.reg [2, 3] f7r2) (.seq (.reg [0] f7r3) .ret))))⟩
@[simp] theorem e7 : type_of% (show f7r0 = _ ∧ f7r1 = _ ∧ f7r2 = _ ∧ f7r3 = _ from by simp only [f7r0, f7r1, f7r2, f7r3, qo, qm, qb, qf, ql, qa, qv, qw, qe, qn, qp, qs, qz, qc, qg, List.map_cons, List.map_nil]; exact ⟨rfl, rfl, rfl, rfl⟩) := ⟨rfl, rfl, rfl, rfl⟩
theorem e_top_still : type_of% f_top_still.eq_1 := by_rfl f_top_still.eq_1
theorem ok_top_still : fnC Tryz.prog a_top_still Tryz.f7 = some f_top_still := by kernel_rfl

/-! 8 fumarole/fumarolelaw05.Bed -/
def f8r0 : List Abs.Op := [qx 1 0, qo 2 (.alcv [] [(.int .i64 0), (.int .i64 0), (.int .i64 0), (.int .i64 0), .nils, (.int .i64 0), (.int .i64 0), (.int .i64 0), .nils])]
def f8r1 : List Abs.Op := [qF 5 0 1, qO 6 (.ldi true 4 (.t 5)), qC 7 i_law02_Field [6], qF 8 4 1, qO 9 (.ldi false 1 (.t 8)), qo 10 (.call true (.c (.fn i_law01_Table [] [])) [(.t 9)]), qF 11 5 1, qO 12 (.ldi false 1 (.t 11)), qF 13 6 1, qO 14 (.ldi false 1 (.t 13)), qF 15 7 1, qO 16 (.ldi false 1 (.t 15)), qO 17 (.bld [(.int .i64 0), (.int .i64 0), (.int .i64 0), (.int .i64 0), .nils, (.int .i64 0), (.int .i64 0), (.int .i64 0), .nils] [(0, 4, (.t 7)), (4, 1, (.t 10)), (5, 1, (.t 12)), (6, 1, (.t 14)), (7, 1, (.t 16))]), qO 3 (.alcv [] [(.int .i64 0), (.int .i64 0), (.int .i64 0), (.int .i64 0), .nils, (.int .i64 0), (.int .i64 0), (.int .i64 0), .nils]), ⟨none, none, false, .stv 3 [(8, 3)] 9 3 (.t 17)⟩]
def f8r2 : List Abs.Op := [qi 4 0]
def f8r3 : List Abs.Op := [qm 18 4, qf 19 8 1, qo 20 (.ldi false 1 (.t 19)), qe 21 20, qk 22 .lss 18 21]
def f8r4 : List Abs.Op := [qF 25 8 3, qV 26 3 1 25, qF 27 8 1, qO 28 (.ldi false 1 (.t 27)), qM 29 4, qJ 30 3 28 29, qF 31 0 30, qL 32 1 31, qF 33 8 1, qO 34 (.ldi false 1 (.t 33)), qM 35 4, qJ 36 3 34 35, qF 37 1 36, qL 38 1 37, qF 39 8 1, qO 40 (.ldi false 1 (.t 39)), qM 41 4, qJ 42 3 40 41, qF 43 2 42, qL 44 1 43, qO 45 (.bld [(.int .i64 0), (.int .i64 0), (.int .i64 0)] [(0, 1, (.t 32)), (1, 1, (.t 38)), (2, 1, (.t 44))]), qO 46 (.bsi 1 3 [(.int .i64 0), (.int .i64 0), (.int .i64 0)] [(0, 3, (.t 45))]), qy 47 3 24 26 46, qf 48 8 3, ⟨none, none, false, .stv 3 [(0, 3)] 1 48 (.t 47)⟩]
def f8r5 : List Abs.Op := [qm 23 4, qn 24 .add 23 1, qm 4 24]
def f_law05_Bed_l6 : Abs.Cmd :=
  (.seq (.seq (.reg [1, 2, 3, 4, 22] f8r3) (.ite (.t 22) .nop (.exit 0))) (.seq (.blk 1 (.reg [1, 2, 3, 4] f8r4)) (.reg [1, 2, 3, 4] f8r5)))

def f8r7 : List Abs.Op := [qw 49 3 9 3, qs 2 9 2 49]
def a_law05_Bed : Ann := ⟨[(6, [2]), (4, [1, 2, 3, 4]), (5, [1, 2, 3, 4]), (3, [1, 2, 3, 4, 22]), (2, [1, 2, 3, 4]), (1, [1, 2, 3]), (0, [1, 2])], [(0, [1, 2, 3, 4])], [], [2, 3], [2, 3], [(1014, [(8, 3)]), (5024, [(0, 3)])], [1005], [], [1], [], []⟩
def f_law05_Bed : Abs.Fn := ⟨1, [.v 2 true 9],
  (.seq (.reg [1, 2] f8r0) (.seq (.reg [1, 2, 3] f8r1) (.seq (.seq (.reg [1, 2, 3, 4] f8r2) (.blk 0 (.loop [1, 2, 3, 4] false f_law05_Bed_l6))) (.seq (.reg [2] f8r7) .ret))))⟩
@[simp] theorem e8 : type_of% (show f8r0 = _ ∧ f8r1 = _ ∧ f8r2 = _ ∧ f8r3 = _ ∧ f8r4 = _ ∧ f8r5 = _ ∧ f8r7 = _ from by simp only [f8r0, f8r1, f8r2, f8r3, f8r4, f8r5, f8r7, qo, qO, qm, qM, qi, qf, qF, qL, qV, qw, qx, qe, qJ, qk, qn, qs, qC, qy, List.map_cons, List.map_nil]; exact ⟨rfl, rfl, rfl, rfl, rfl, rfl, rfl⟩) := ⟨rfl, rfl, rfl, rfl, rfl, rfl, rfl⟩
theorem e_law05_Bed_l6 : type_of% f_law05_Bed_l6.eq_1 := by_rfl f_law05_Bed_l6.eq_1
theorem e_law05_Bed : type_of% f_law05_Bed.eq_1 := by_rfl f_law05_Bed.eq_1
theorem ok_law05_Bed : fnC Tryz.prog a_law05_Bed Tryz.f8 = some f_law05_Bed := by kernel_rfl

/-! 9 fumarole/fumarolelaw02.Models -/
def f9r0 : List Abs.Op := [qo 2 (.mv (.c .nils))]
def f9r1 : List Abs.Op := [qo 3 (.nilb 2)]
def f9r2 : List Abs.Op := [qi 4 0]
def f9r3 : List Abs.Op := [qm 5 4, qm 6 0, qe 7 6, qk 8 .lss 5 7]
def f9r4 : List Abs.Op := [qm 11 3, qm 12 0, qm 13 4, qj 14 2 12 13, qa 15 2 14, qc 16 i_law02_Model [15], qo 17 (.bsi 1 2 [(.str []), .nils] [(0, 2, (.t 16))]), qy 18 2 40 11 17, qm 3 18]
def f9r5 : List Abs.Op := [qm 9 4, qn 10 .add 9 1, qm 4 10]
def f_law02_Models_l6 : Abs.Cmd :=
  (.seq (.seq (.reg [0, 3, 4, 8] f9r3) (.ite (.t 8) .nop (.exit 0))) (.seq (.blk 1 (.reg [0, 3, 4] f9r4)) (.reg [0, 3, 4] f9r5)))

def f9r7 : List Abs.Op := [qm 19 3, qm 2 19]
def a_law02_Models : Ann := ⟨[(6, [2]), (4, [0, 3, 4]), (5, [0, 3, 4]), (3, [0, 3, 4, 8]), (2, [0, 3, 4]), (1, [0, 3]), (0, [0])], [(0, [0, 3, 4])], [], [3], [], [], [], [], [], [], []⟩
def f_law02_Models : Abs.Fn := ⟨1, [.t 2],
  (.seq (.reg [0] f9r0) (.seq (.reg [0, 3] f9r1) (.seq (.seq (.reg [0, 3, 4] f9r2) (.blk 0 (.loop [0, 3, 4] false f_law02_Models_l6))) (.seq (.reg [2] f9r7) .ret))))⟩
@[simp] theorem e9 : type_of% (show f9r0 = _ ∧ f9r1 = _ ∧ f9r2 = _ ∧ f9r3 = _ ∧ f9r4 = _ ∧ f9r5 = _ ∧ f9r7 = _ from by simp only [f9r0, f9r1, f9r2, f9r3, f9r4, f9r5, f9r7, qo, qm, qi, qa, qe, qj, qk, qn, qc, qy, List.map_cons, List.map_nil]; exact ⟨rfl, rfl, rfl, rfl, rfl, rfl, rfl⟩) := ⟨rfl, rfl, rfl, rfl, rfl, rfl, rfl⟩
theorem e_law02_Models_l6 : type_of% f_law02_Models_l6.eq_1 := by_rfl f_law02_Models_l6.eq_1
theorem e_law02_Models : type_of% f_law02_Models.eq_1 := by_rfl f_law02_Models.eq_1
theorem ok_law02_Models : fnC Tryz.prog a_law02_Models Tryz.f9 = some f_law02_Models := by kernel_rfl

/-! 11 fumarole/fumarolelaw05.Plan -/
def f11r0 : List Abs.Op := [qo 2 (.mv (.c .nils))]
def f11r1 : List Abs.Op := [qo 3 (.nilb 1)]
def f11r2 : List Abs.Op := [qi 4 0]
def f11r3 : List Abs.Op := [qm 5 4, qm 6 0, qe 7 6, qk 8 .lss 5 7]
def f11r4 : List Abs.Op := [qm 11 3, qm 12 0, qm 13 4, qj 14 1 12 13, ql 15 1 14, qo 16 (.app 1 8 (.c .nils) (.t 15)), qo 17 (.bsi 1 1 [.nils] [(0, 1, (.t 16))]), qy 18 1 24 11 17, qm 3 18]
def f11r5 : List Abs.Op := [qm 9 4, qn 10 .add 9 1, qm 4 10]
def f_law05_Plan_l6 : Abs.Cmd :=
  (.seq (.seq (.reg [0, 3, 4, 8] f11r3) (.ite (.t 8) .nop (.exit 0))) (.seq (.blk 1 (.reg [0, 3, 4] f11r4)) (.reg [0, 3, 4] f11r5)))

def f11r7 : List Abs.Op := [qm 19 3, qm 2 19]
def a_law05_Plan : Ann := ⟨[(6, [2]), (4, [0, 3, 4]), (5, [0, 3, 4]), (3, [0, 3, 4, 8]), (2, [0, 3, 4]), (1, [0, 3]), (0, [0])], [(0, [0, 3, 4])], [], [3, 16], [], [], [], [], [], [], []⟩
def f_law05_Plan : Abs.Fn := ⟨1, [.t 2],
  (.seq (.reg [0] f11r0) (.seq (.reg [0, 3] f11r1) (.seq (.seq (.reg [0, 3, 4] f11r2) (.blk 0 (.loop [0, 3, 4] false f_law05_Plan_l6))) (.seq (.reg [2] f11r7) .ret))))⟩
@[simp] theorem e11 : type_of% (show f11r0 = _ ∧ f11r1 = _ ∧ f11r2 = _ ∧ f11r3 = _ ∧ f11r4 = _ ∧ f11r5 = _ ∧ f11r7 = _ from by simp only [f11r0, f11r1, f11r2, f11r3, f11r4, f11r5, f11r7, qo, qm, qi, ql, qe, qj, qk, qn, qy]; exact ⟨rfl, rfl, rfl, rfl, rfl, rfl, rfl⟩) := ⟨rfl, rfl, rfl, rfl, rfl, rfl, rfl⟩
theorem e_law05_Plan_l6 : type_of% f_law05_Plan_l6.eq_1 := by_rfl f_law05_Plan_l6.eq_1
theorem e_law05_Plan : type_of% f_law05_Plan.eq_1 := by_rfl f_law05_Plan.eq_1
theorem ok_law05_Plan : fnC Tryz.prog a_law05_Plan Tryz.f11 = some f_law05_Plan := by kernel_rfl

/-! 12 fumarole/rock.Play -/
def f12r0 : List Abs.Op := [qx 3 0, qx 4 1, qo 6 (.alcv [] [.nils, .nils]), qo 7 (.alc [] [(.int .i64 0)])]
def f12r1 : List Abs.Op := [qa 10 9 3, qa 11 2 4, qc 12 i_rock_bed [10, 11], qm 9 12, qz 13 9 0, qz 14 9 1, qo 8 (.alcv [] [(.int .i64 0), (.int .i64 0), (.int .i64 0), (.int .i64 0), .nils, (.int .i64 0), (.int .i64 0), (.int .i64 0), .nils, (.str []), .nils]), qs 8 11 8 13, qt 1 7 14]
def f12r2 : List Abs.Op := [ql 15 1 7, qn 16 .eql 15 0]
def f12r3 : List Abs.Op := [qa 17 9 3, qm 18 2, qc 19 i_rock_Bed_plan [17, 18], qt 1 7 19]
def f12r4 : List Abs.Op := [ql 20 1 7, qn 21 .neq 20 0]
def f12r5 : List Abs.Op := [qO 22 (.bld [.nils, .nils] []), qL 23 1 7, qS 6 2 6 22, qt 1 7 23]
def f12r6 : List Abs.Op := [qw 24 8 11 8, qm 25 2]
def f12r7 : List Abs.Op := [qs 6 2 6 26, ⟨none, none, false, .st [] 1 (.t 7) (.c (.int .i64 0))⟩]
def f_rock_Play_b8 : Abs.Cmd :=
  (.seq (.treg [6, 7] f12r6 ⟨some 26, none, false, .call false (.c (.fn i_rock_bedded_run [] [])) [(.t 24), (.t 25)]⟩ f12r7) .ret)

def a_rock_Play : Ann := ⟨[(7, [6, 7]), (6, [2, 6, 7, 8]), (5, [6, 7]), (4, [2, 6, 7, 8, 21]), (3, [2, 6, 7, 8]), (2, [2, 3, 6, 7, 8, 16]), (1, [2, 3, 6, 7, 8]), (0, [2, 3, 4, 6, 7])], [], [], [6, 7, 8], [6, 8], [], [], [(0, [0])], [], [], [(7, some 2)]⟩
def f_rock_Play : Abs.Fn := ⟨3, [.v 6 true 2, .c 7 false 1],
  (.seq (.seq (.frz [0]) (.reg [2, 3, 4, 6, 7] f12r0)) (.seq (.reg [2, 3, 6, 7, 8] f12r1) (.seq (.seq (.reg [2, 3, 6, 7, 8, 16] f12r2) (.ite (.t 16) (.reg [2, 6, 7, 8] f12r3) .nop)) (.seq (.seq (.reg [2, 6, 7, 8, 21] f12r4) (.ite (.t 21) (.seq (.reg [6, 7] f12r5) .ret) .nop)) (.dfr (.c (.fn i_rock_caught [] [])) [(.t 7)] f_rock_Play_b8)))))⟩
@[simp] theorem e12 : type_of% (show f12r0 = _ ∧ f12r1 = _ ∧ f12r2 = _ ∧ f12r3 = _ ∧ f12r4 = _ ∧ f12r5 = _ ∧ f12r6 = _ ∧ f12r7 = _ from by simp only [f12r0, f12r1, f12r2, f12r3, f12r4, f12r5, f12r6, f12r7, qo, qO, qm, ql, qL, qa, qw, qx, qn, qs, qS, qt, qz, qc, List.map_cons, List.map_nil]; exact ⟨rfl, rfl, rfl, rfl, rfl, rfl, rfl, rfl⟩) := ⟨rfl, rfl, rfl, rfl, rfl, rfl, rfl, rfl⟩
theorem e_rock_Play_b8 : type_of% f_rock_Play_b8.eq_1 := by_rfl f_rock_Play_b8.eq_1
theorem e_rock_Play : type_of% f_rock_Play.eq_1 := by_rfl f_rock_Play.eq_1
theorem ok_rock_Play : fnC Tryz.prog a_rock_Play Tryz.f12 = some f_rock_Play := by kernel_rfl

/-! 15 fumarole/fumaroleref02.MeasuresFault -/
def f15r0 : List Abs.Op := [qx 2 0, qi 4 0]
def f15r1 : List Abs.Op := [qm 8 1, qe 9 8, qn 10 .gtr 9 12]
def f15r2 : List Abs.Op := [qi 4 3]
def f15r3 : List Abs.Op := [qi 5 0]
def f15r4 : List Abs.Op := [qm 11 5, qm 12 1, qe 13 12, qk 14 .lss 11 13]
def f15r5 : List Abs.Op := [qA 17 4 2, qM 18 1, qM 19 5, qJ 20 6 18 19, qA 21 6 20, qc 22 i_ref02_MeasureFault [17, 21], qm 6 22]
def f15r6 : List Abs.Op := [qm 23 6, qn 24 .neq 23 0]
def f15r7 : List Abs.Op := [qm 25 6, qm 4 25]
def f15r8 : List Abs.Op := [qi 7 0]
def f15r9 : List Abs.Op := [qm 26 7, qm 27 5, qk 28 .lss 26 27]
def f15r10 : List Abs.Op := [qM 31 1, qM 32 7, qJ 33 6 31 32, qF 34 0 33, qL 35 1 34, qM 36 1, qM 37 5, qJ 38 6 36 37, qF 39 0 38, qL 40 1 39, qo 41 (.pur (.seq false) [(.t 35), (.t 40)])]
def f15r11 : List Abs.Op := [qi 4 6]
def f15r12 : List Abs.Op := [qm 29 7, qn 30 .add 29 1, qm 7 30]
def f_ref02_MeasuresFault_l13 : Abs.Cmd :=
  (.seq (.seq (.reg [1, 2, 5, 7, 28] f15r9) (.ite (.t 28) .nop (.exit 2))) (.seq (.blk 3 (.seq (.reg [1, 2, 5, 7, 41] f15r10) (.ite (.t 41) (.seq (.reg [4] f15r11) .ret) .nop))) (.reg [1, 2, 5, 7] f15r12)))

def f15r14 : List Abs.Op := [qm 15 5, qn 16 .add 15 1, qm 5 16]
def f_ref02_MeasuresFault_l15 : Abs.Cmd :=
  (.seq (.seq (.reg [1, 2, 5, 14] f15r4) (.ite (.t 14) .nop (.exit 0))) (.seq (.blk 1 (.seq (.seq (.reg [1, 2, 5, 6] f15r5) (.seq (.reg [1, 2, 5, 6, 24] f15r6) (.ite (.t 24) (.seq (.reg [4] f15r7) .ret) .nop))) (.seq (.reg [1, 2, 5, 7] f15r8) (.blk 2 (.loop [1, 2, 5, 7] false f_ref02_MeasuresFault_l13))))) (.reg [1, 2, 5] f15r14)))

def f15r16 : List Abs.Op := [qi 4 0]
def a_ref02_MeasuresFault : Ann := ⟨[(14, [4]), (5, [1, 2, 5]), (11, [1, 2, 5, 7]), (13, [4]), (12, [1, 2, 5, 7, 41]), (10, [1, 2, 5, 7, 28]), (9, [1, 2, 5, 7]), (8, [4]), (7, [1, 2, 5, 6, 24]), (6, [1, 2, 5, 6]), (4, [1, 2, 5, 14]), (3, [1, 2, 5]), (2, [4]), (1, [1, 2, 10]), (0, [1, 2])], [(2, [1, 2, 5, 7]), (0, [1, 2, 5])], [], [], [], [], [], [], [], [], []⟩
def f_ref02_MeasuresFault : Abs.Fn := ⟨2, [.t 4],
  (.seq (.reg [1, 2] f15r0) (.seq (.seq (.reg [1, 2, 10] f15r1) (.ite (.t 10) (.seq (.reg [4] f15r2) .ret) .nop)) (.seq (.seq (.reg [1, 2, 5] f15r3) (.blk 0 (.loop [1, 2, 5] false f_ref02_MeasuresFault_l15))) (.seq (.reg [4] f15r16) .ret))))⟩
@[simp] theorem e15 : type_of% (show f15r0 = _ ∧ f15r1 = _ ∧ f15r2 = _ ∧ f15r3 = _ ∧ f15r4 = _ ∧ f15r5 = _ ∧ f15r6 = _ ∧ f15r7 = _ ∧ f15r8 = _ ∧ f15r9 = _ ∧ f15r10 = _ ∧ f15r11 = _ ∧ f15r12 = _ ∧ f15r14 = _ ∧ f15r16 = _ from by simp only [f15r0, f15r1, f15r2, f15r3, f15r4, f15r5, f15r6, f15r7, f15r8, f15r9, f15r10, f15r11, f15r12, f15r14, f15r16, qo, qm, qM, qi, qF, qL, qA, qx, qe, qJ, qk, qn, qc, List.map_cons, List.map_nil]; exact ⟨rfl, rfl, rfl, rfl, rfl, rfl, rfl, rfl, rfl, rfl, rfl, rfl, rfl, rfl, rfl⟩) := ⟨rfl, rfl, rfl, rfl, rfl, rfl, rfl, rfl, rfl, rfl, rfl, rfl, rfl, rfl, rfl⟩
theorem e_ref02_MeasuresFault_l13 : type_of% f_ref02_MeasuresFault_l13.eq_1 := by_rfl f_ref02_MeasuresFault_l13.eq_1
theorem e_ref02_MeasuresFault_l15 : type_of% f_ref02_MeasuresFault_l15.eq_1 := by_rfl f_ref02_MeasuresFault_l15.eq_1
theorem e_ref02_MeasuresFault : type_of% f_ref02_MeasuresFault.eq_1 := by_rfl f_ref02_MeasuresFault.eq_1
theorem ok_ref02_MeasuresFault : fnC Tryz.prog a_ref02_MeasuresFault Tryz.f15 = some f_ref02_MeasuresFault := by kernel_rfl

/-! 16 fumarole/fumaroleref05.ReadingsFault -/
def f16r0 : List Abs.Op := [qx 3 0, qi 6 0]
def f16r1 : List Abs.Op := [qm 9 2, qe 10 9, qn 11 .gtr 10 40]
def f16r2 : List Abs.Op := [qi 6 3]
def f16r3 : List Abs.Op := [qi 7 0]
def f16r4 : List Abs.Op := [qm 12 7, qm 13 2, qe 14 13, qk 15 .lss 12 14]
def f16r5 : List Abs.Op := [qm 18 2, qm 19 7, qj 20 5 18 19, qa 21 5 20, qo 8 (.alcv [] [(.int .i64 0), (.int .u8 0), (.int .i64 0), (.int .i64 0), (.int .i64 0)]), qs 8 5 8 21]
def f16r6 : List Abs.Op := [qf 22 1 8, qv 23 8 1 22, qo 24 (.bin .lss (.t 23) (.c (.int .u8 1))), qm 25 24, qg 25 false (qf 26 1 8), qg 25 false (qv 27 8 1 26), qg 25 false (qo 28 (.bin .gtr (.t 27) (.c (.int .u8 4)))), qP 29 25 28, qm 30 29, qg 30 false (qf 31 3 8), qg 30 false (qf 32 0 31), qg 30 false (qv 33 8 1 32), qg 30 false (qn 34 .lss 33 (-10000000000)), qP 35 30 34, qm 36 35, qg 36 false (qf 37 3 8), qg 36 false (qf 38 0 37), qg 36 false (qv 39 8 1 38), qg 36 false (qf 40 3 8), qg 36 false (qf 41 1 40), qg 36 false (qv 42 8 1 41), qg 36 false (qk 43 .gtr 39 42), qP 44 36 43, qm 45 44, qg 45 false (qf 46 3 8), qg 45 false (qf 47 1 46), qg 45 false (qv 48 8 1 47), qg 45 false (qn 49 .gtr 48 10000000000), qP 50 45 49]
def f16r7 : List Abs.Op := [qi 6 1]
def f16r8 : List Abs.Op := [qF 51 1 8, qV 52 8 1 51, qO 53 (.bin .eql (.t 52) (.c (.int .u8 1))), qM 54 53, qg 54 true (qF 55 0 8), qg 54 true (qV 56 8 1 55), qg 54 true (qM 57 1), qg 54 true (qO 58 (.call false (.c (.fn i_ref01_In [] [])) [(.t 56), (.c (.int .i64 0)), (.t 57)])), qg 54 true (qO 59 (.un .not (.t 58))), qg 54 true (qM 60 59), qg 60 false (qF 61 2 8), qg 60 false (qV 62 8 1 61), qg 60 false (qF 63 0 3), qg 60 false (qA 64 4 63), qg 60 false (qC 65 i_ref02_Size [64]), qg 60 false (qN 66 .sub 65 1), qg 60 false (qO 67 (.call false (.c (.fn i_ref01_In [] [])) [(.t 62), (.c (.int .i64 0)), (.t 66)])), qg 60 false (qO 68 (.un .not (.t 67))), qg 54 true (qO 69 (.pick (.t 60) (.c (.bool true)) (.t 68))), qO 70 (.pick (.t 54) (.t 69) (.c (.bool false))), qM 71 70, qg 71 false (qF 72 1 8), qg 71 false (qV 73 8 1 72), qg 71 false (qO 74 (.bin .gtr (.t 73) (.c (.int .u8 1)))), qg 71 false (qM 75 74), qg 75 true (qF 76 0 8), qg 75 true (qV 77 8 1 76), qg 75 true (qM 78 1), qg 75 true (qO 79 (.call false (.c (.fn i_ref01_In [] [])) [(.t 77), (.c (.int .i64 1)), (.t 78)])), qg 75 true (qO 80 (.un .not (.t 79))), qg 75 true (qM 81 80), qg 81 false (qF 82 2 8), qg 81 false (qV 83 8 1 82), qg 81 false (qF 84 8 3), qg 81 false (qL 85 1 84), qg 81 false (qE 86 85), qg 81 false (qN 87 .sub 86 1), qg 81 false (qo 88 (.call false (.c (.fn i_ref01_In [] [])) [(.t 83), (.c (.int .i64 0)), (.t 87)])), qg 81 false (qu 89 88), qg 75 true (qP 90 81 89), qg 71 false (qp 91 75 90), qP 92 71 91]
def f16r9 : List Abs.Op := [qi 6 2]
def f16r10 : List Abs.Op := [qm 16 7, qn 17 .add 16 1, qm 7 17]
def f_ref05_ReadingsFault_l11 : Abs.Cmd :=
  (.seq (.seq (.reg [1, 2, 3, 7, 15] f16r4) (.ite (.t 15) .nop (.exit 0))) (.seq (.blk 1 (.seq (.reg [1, 2, 3, 7, 8] f16r5) (.seq (.seq (.reg [1, 2, 3, 7, 8, 50] f16r6) (.ite (.t 50) (.seq (.reg [6] f16r7) .ret) .nop)) (.seq (.reg [1, 2, 3, 7, 92] f16r8) (.ite (.t 92) (.seq (.reg [6] f16r9) .ret) .nop))))) (.reg [1, 2, 3, 7] f16r10)))

def f16r12 : List Abs.Op := [qi 6 0]
def a_ref05_ReadingsFault : Ann := ⟨[(11, [6]), (5, [1, 2, 3, 7]), (10, [6]), (9, [1, 2, 3, 7, 92]), (8, [6]), (7, [1, 2, 3, 7, 8, 50]), (6, [1, 2, 3, 7, 8]), (4, [1, 2, 3, 7, 15]), (3, [1, 2, 3, 7]), (2, [6]), (1, [1, 2, 3, 11]), (0, [1, 2, 3])], [(0, [1, 2, 3, 7])], [], [8], [8], [], [], [], [], [], []⟩
def f_ref05_ReadingsFault : Abs.Fn := ⟨3, [.t 6],
  (.seq (.reg [1, 2, 3] f16r0) (.seq (.seq (.reg [1, 2, 3, 11] f16r1) (.ite (.t 11) (.seq (.reg [6] f16r2) .ret) .nop)) (.seq (.seq (.reg [1, 2, 3, 7] f16r3) (.blk 0 (.loop [1, 2, 3, 7] false f_ref05_ReadingsFault_l11))) (.seq (.reg [6] f16r12) .ret))))⟩
@[simp] theorem e16 : type_of% (show f16r0 = _ ∧ f16r1 = _ ∧ f16r2 = _ ∧ f16r3 = _ ∧ f16r4 = _ ∧ f16r5 = _ ∧ f16r6 = _ ∧ f16r7 = _ ∧ f16r8 = _ ∧ f16r9 = _ ∧ f16r10 = _ ∧ f16r12 = _ from by simp only [f16r0, f16r1, f16r2, f16r3, f16r4, f16r5, f16r6, f16r7, f16r8, f16r9, f16r10, f16r12, qo, qO, qm, qM, qi, qf, qF, qL, qa, qA, qv, qV, qx, qe, qE, qj, qk, qn, qN, qu, qp, qP, qs, qC, qg, List.map_cons, List.map_nil]; exact ⟨rfl, rfl, rfl, rfl, rfl, rfl, rfl, rfl, rfl, rfl, rfl, rfl⟩) := ⟨rfl, rfl, rfl, rfl, rfl, rfl, rfl, rfl, rfl, rfl, rfl, rfl⟩
theorem e_ref05_ReadingsFault_l11 : type_of% f_ref05_ReadingsFault_l11.eq_1 := by_rfl f_ref05_ReadingsFault_l11.eq_1
theorem e_ref05_ReadingsFault : type_of% f_ref05_ReadingsFault.eq_1 := by_rfl f_ref05_ReadingsFault.eq_1
theorem ok_ref05_ReadingsFault : fnC Tryz.prog a_ref05_ReadingsFault Tryz.f16 = some f_ref05_ReadingsFault := by kernel_rfl

/-! 17 fumarole/fumarolelaw02.Field -/
def f17r0 : List Abs.Op := [qx 1 0, qo 2 (.alcv [] [(.int .i64 0), (.int .i64 0), (.int .i64 0), (.int .i64 0)])]
def f17r1 : List Abs.Op := [qf 3 0 1, ql 4 1 3, qf 5 1 1, ql 6 1 5, qf 7 2 1, ql 8 1 7, qf 9 3 1, ql 10 1 9, qo 11 (.bld [(.int .i64 0), (.int .i64 0), (.int .i64 0), (.int .i64 0)] [(0, 1, (.t 4)), (1, 1, (.t 6)), (2, 1, (.t 8)), (3, 1, (.t 10))]), qs 2 4 2 11]
def a_law02_Field : Ann := ⟨[(1, [2]), (0, [1, 2])], [], [], [2], [2], [], [], [], [], [], []⟩
def f_law02_Field : Abs.Fn := ⟨1, [.v 2 true 4],
  (.seq (.reg [1, 2] f17r0) (.seq (.reg [2] f17r1) .ret))⟩
@[simp] theorem e17 : type_of% (show f17r0 = _ ∧ f17r1 = _ from by simp only [f17r0, f17r1, qo, qf, ql, qx, qs]; exact ⟨rfl, rfl⟩) := ⟨rfl, rfl⟩
theorem e_law02_Field : type_of% f_law02_Field.eq_1 := by_rfl f_law02_Field.eq_1
theorem ok_law02_Field : fnC Tryz.prog a_law02_Field Tryz.f17 = some f_law02_Field := by kernel_rfl

/-! 18 fumarole/field.Strikes -/
def f18r0 : List Abs.Op := [qx 3 0, qo 6 (.nilb 1), qo 7 (.nilb 3), qi 8 0]
def f18r1 : List Abs.Op := [qa 14 4 3, qm 15 1, qm 16 2, qc 17 i_field_both [14, 15, 16], qm 9 17]
def f18r2 : List Abs.Op := [qm 18 9, qn 19 .neq 18 0]
def f18r3 : List Abs.Op := [qm 20 9, qo 6 (.nilb 1), qo 7 (.nilb 3), qm 8 20]
def f18r4 : List Abs.Op := [qm 21 1, qe 22 21, qi 23 0]
def f18r5 : List Abs.Op := [qk 24 .lss 23 22]
def f18r6 : List Abs.Op := [qm 25 23, qj 26 2 21 23, qa 27 2 26, qo 11 (.alcv [] [(.str []), .nils]), qm 10 25, qs 11 2 11 27]
def f18r7 : List Abs.Op := [qa 28 4 3, qw 29 11 2 11, qm 30 2, qc 31 i_field_Field_misses [28, 29, 30], qm 12 31]
def f18r8 : List Abs.Op := [qm 32 12, qo 33 (.call false (.c (.fn i_slices_IndexFunc_int [] [])) [(.t 32), (.c (.fn i_field_Strikes_1 [] []))]), qm 13 33]
def f18r9 : List Abs.Op := [qm 34 13, qn 35 .geq 34 0]
def f18r10 : List Abs.Op := [qm 36 7, qm 37 10, qm 38 13, qm 39 12, qm 40 13, qj 41 1 39 40, ql 42 1 41, qo 43 (.bld [(.int .i64 0), (.int .i64 0), (.int .i64 0)] [(0, 1, (.t 37)), (1, 1, (.t 38)), (2, 1, (.t 42))]), qo 44 (.bsi 1 3 [(.int .i64 0), (.int .i64 0), (.int .i64 0)] [(0, 3, (.t 43))]), qy 45 3 24 36 44, qm 7 45]
def f18r11 : List Abs.Op := [qm 46 6, qm 47 10, qo 48 (.bsi 1 1 [(.int .i64 0)] [(0, 1, (.t 47))]), qy 49 1 8 46 48, qm 6 49]
def f18r12 : List Abs.Op := [qn 50 .add 23 1, qm 23 50]
def f_field_Strikes_l13 : Abs.Cmd :=
  (.seq (.reg [2, 3, 6, 7, 21, 22, 23, 24] f18r5) (.seq (.ite (.t 24) .nop (.exit 0)) (.seq (.blk 1 (.seq (.reg [2, 3, 6, 7, 10, 11, 21, 22, 23] f18r6) (.seq (.reg [2, 3, 6, 7, 10, 12, 21, 22, 23] f18r7) (.seq (.reg [2, 3, 6, 7, 10, 12, 13, 21, 22, 23] f18r8) (.seq (.reg [2, 3, 6, 7, 10, 12, 13, 21, 22, 23, 35] f18r9) (.ite (.t 35) (.reg [2, 3, 6, 7, 21, 22, 23] f18r10) (.reg [2, 3, 6, 7, 21, 22, 23] f18r11))))))) (.reg [2, 3, 6, 7, 21, 22, 23] f18r12))))

def f18r14 : List Abs.Op := [qm 51 6, qm 52 7, qm 6 51, qm 7 52, qi 8 0]
def a_field_Strikes : Ann := ⟨[(13, [6, 7, 8]), (12, [2, 3, 6, 7, 21, 22, 23]), (10, [2, 3, 6, 7, 21, 22, 23]), (11, [2, 3, 6, 7, 21, 22, 23]), (9, [2, 3, 6, 7, 10, 12, 13, 21, 22, 23, 35]), (8, [2, 3, 6, 7, 10, 12, 13, 21, 22, 23]), (7, [2, 3, 6, 7, 10, 12, 21, 22, 23]), (6, [2, 3, 6, 7, 10, 11, 21, 22, 23]), (5, [2, 3, 6, 7, 21, 22, 23, 24]), (4, [2, 3, 6, 7, 21, 22, 23]), (3, [6, 7, 8]), (2, [1, 2, 3, 6, 7, 9, 19]), (1, [1, 2, 3, 6, 7, 9]), (0, [1, 2, 3, 6, 7])], [(0, [2, 3, 6, 7, 21, 22, 23])], [], [6, 7, 11], [11], [], [], [], [], [], []⟩
def f_field_Strikes : Abs.Fn := ⟨3, [.t 6, .t 7, .t 8],
  (.seq (.reg [1, 2, 3, 6, 7] f18r0) (.seq (.seq (.reg [1, 2, 3, 6, 7, 9] f18r1) (.seq (.reg [1, 2, 3, 6, 7, 9, 19] f18r2) (.ite (.t 19) (.seq (.reg [6, 7, 8] f18r3) .ret) .nop))) (.seq (.seq (.reg [2, 3, 6, 7, 21, 22, 23] f18r4) (.blk 0 (.loop [2, 3, 6, 7, 21, 22, 23] false f_field_Strikes_l13))) (.seq (.reg [6, 7, 8] f18r14) .ret))))⟩
@[simp] theorem e18 : type_of% (show f18r0 = _ ∧ f18r1 = _ ∧ f18r2 = _ ∧ f18r3 = _ ∧ f18r4 = _ ∧ f18r5 = _ ∧ f18r6 = _ ∧ f18r7 = _ ∧ f18r8 = _ ∧ f18r9 = _ ∧ f18r10 = _ ∧ f18r11 = _ ∧ f18r12 = _ ∧ f18r14 = _ from by simp only [f18r0, f18r1, f18r2, f18r3, f18r4, f18r5, f18r6, f18r7, f18r8, f18r9, f18r10, f18r11, f18r12, f18r14, qo, qm, qi, ql, qa, qw, qx, qe, qj, qk, qn, qs, qc, qy, List.map_cons, List.map_nil]; exact ⟨rfl, rfl, rfl, rfl, rfl, rfl, rfl, rfl, rfl, rfl, rfl, rfl, rfl, rfl⟩) := ⟨rfl, rfl, rfl, rfl, rfl, rfl, rfl, rfl, rfl, rfl, rfl, rfl, rfl, rfl⟩
theorem e_field_Strikes_l13 : type_of% f_field_Strikes_l13.eq_1 := by_rfl f_field_Strikes_l13.eq_1
theorem e_field_Strikes : type_of% f_field_Strikes.eq_1 := by_rfl f_field_Strikes.eq_1
theorem ok_field_Strikes : fnC Tryz.prog a_field_Strikes Tryz.f18 = some f_field_Strikes := by kernel_rfl

/-! 19 fumarole/fumarolelaw02.Measures -/
def f19r0 : List Abs.Op := [qo 2 (.mv (.c .nils))]
def f19r1 : List Abs.Op := [qo 3 (.nilb 6)]
def f19r2 : List Abs.Op := [qi 4 0]
def f19r3 : List Abs.Op := [qm 5 4, qm 6 0, qe 7 6, qk 8 .lss 5 7]
def f19r4 : List Abs.Op := [qm 11 3, qm 12 0, qm 13 4, qj 14 6 12 13, qa 15 6 14, qc 16 i_law02_Measure [15], qo 17 (.bsi 1 6 [(.str []), (.int .i64 0), .nils, .nils, (.int .i64 0), (.int .i64 0)] [(0, 6, (.t 16))]), qy 18 6 88 11 17, qm 3 18]
def f19r5 : List Abs.Op := [qm 9 4, qn 10 .add 9 1, qm 4 10]
def f_law02_Measures_l6 : Abs.Cmd :=
  (.seq (.seq (.reg [0, 3, 4, 8] f19r3) (.ite (.t 8) .nop (.exit 0))) (.seq (.blk 1 (.reg [0, 3, 4] f19r4)) (.reg [0, 3, 4] f19r5)))

def f19r7 : List Abs.Op := [qm 19 3, qm 2 19]
def a_law02_Measures : Ann := ⟨[(6, [2]), (4, [0, 3, 4]), (5, [0, 3, 4]), (3, [0, 3, 4, 8]), (2, [0, 3, 4]), (1, [0, 3]), (0, [0])], [(0, [0, 3, 4])], [], [3], [], [], [], [], [], [], []⟩
def f_law02_Measures : Abs.Fn := ⟨1, [.t 2],
  (.seq (.reg [0] f19r0) (.seq (.reg [0, 3] f19r1) (.seq (.seq (.reg [0, 3, 4] f19r2) (.blk 0 (.loop [0, 3, 4] false f_law02_Measures_l6))) (.seq (.reg [2] f19r7) .ret))))⟩
@[simp] theorem e19 : type_of% (show f19r0 = _ ∧ f19r1 = _ ∧ f19r2 = _ ∧ f19r3 = _ ∧ f19r4 = _ ∧ f19r5 = _ ∧ f19r7 = _ from by simp only [f19r0, f19r1, f19r2, f19r3, f19r4, f19r5, f19r7, qo, qm, qi, qa, qe, qj, qk, qn, qc, qy, List.map_cons, List.map_nil]; exact ⟨rfl, rfl, rfl, rfl, rfl, rfl, rfl⟩) := ⟨rfl, rfl, rfl, rfl, rfl, rfl, rfl⟩
theorem e_law02_Measures_l6 : type_of% f_law02_Measures_l6.eq_1 := by_rfl f_law02_Measures_l6.eq_1
theorem e_law02_Measures : type_of% f_law02_Measures.eq_1 := by_rfl f_law02_Measures.eq_1
theorem ok_law02_Measures : fnC Tryz.prog a_law02_Measures Tryz.f19 = some f_law02_Measures := by kernel_rfl

/-! 20 fumarole/rock.Strikes -/
def f20r0 : List Abs.Op := [qx 4 0, qo 8 (.nilb 1), qo 9 (.nilb 3), qo 10 (.alc [] [(.int .i64 0)])]
def f20r1 : List Abs.Op := [qa 22 9 4, qm 23 1, qm 24 2, qc 25 i_rock_ready [22, 23, 24], qm 11 25]
def f20r2 : List Abs.Op := [qm 26 11, qn 27 .neq 26 0]
def f20r3 : List Abs.Op := [qm 28 11, qo 8 (.nilb 1), qo 9 (.nilb 3), qt 1 10 28]
def f20r4 : List Abs.Op := [qm 29 3, qe 30 29, qn 31 .gtr 30 40]
def f20r5 : List Abs.Op := [qo 8 (.nilb 1), qo 9 (.nilb 3), ⟨none, none, false, .st [] 1 (.t 10) (.c (.int .i64 3))⟩]
def f20r6 : List Abs.Op := [qm 32 3, qe 33 32, qi 34 0]
def f20r7 : List Abs.Op := [qk 35 .lss 34 33]
def f20r8 : List Abs.Op := [qj 36 5 32 34, qa 37 5 36, qo 13 (.alcv [] [(.int .i64 0), (.int .u8 0), (.int .i64 0), (.int .i64 0), (.int .i64 0)]), qs 13 5 13 37]
def f20r9 : List Abs.Op := [qa 38 9 4, qw 39 13 5 13, qm 40 2, qe 41 40, qc 42 i_rock_Bed_reading [38, 39, 41], qm 14 42]
def f20r10 : List Abs.Op := [qm 43 14, qn 44 .neq 43 0]
def f20r11 : List Abs.Op := [qm 45 14, qo 8 (.nilb 1), qo 9 (.nilb 3), qt 1 10 45]
def f20r12 : List Abs.Op := [qn 46 .add 34 1, qm 34 46]
def f_rock_Strikes_l13 : Abs.Cmd :=
  (.seq (.reg [1, 2, 3, 4, 8, 9, 10, 32, 33, 34, 35] f20r7) (.seq (.ite (.t 35) .nop (.exit 0)) (.seq (.blk 1 (.seq (.reg [1, 2, 3, 4, 8, 9, 10, 13, 32, 33, 34] f20r8) (.seq (.reg [1, 2, 3, 4, 8, 9, 10, 14, 32, 33, 34] f20r9) (.seq (.reg [1, 2, 3, 4, 8, 9, 10, 14, 32, 33, 34, 44] f20r10) (.ite (.t 44) (.seq (.reg [8, 9, 10] f20r11) .ret) .nop))))) (.reg [1, 2, 3, 4, 8, 9, 10, 32, 33, 34] f20r12))))

def f20r14 : List Abs.Op := [qa 47 9 4, qm 48 1, qm 49 2]
def f20r15 : List Abs.Op := [qm 15 50]
def f20r16 : List Abs.Op := [qm 51 1, qe 52 51, qi 53 0]
def f20r17 : List Abs.Op := [qk 54 .lss 53 52]
def f20r18 : List Abs.Op := [qm 55 53, qj 56 2 51 53, qa 57 2 56, qo 17 (.alcv [] [(.str []), .nils]), qm 16 55, qs 17 2 17 57]
def f20r19 : List Abs.Op := [qm 58 3, qe 59 58, qm 18 59]
def f20r20 : List Abs.Op := [qm 60 3, qe 61 60, qi 62 0]
def f20r21 : List Abs.Op := [qk 63 .lss 62 61]
def f20r22 : List Abs.Op := [qm 64 62, qj 65 5 60 62, qa 66 5 65, qo 20 (.alcv [] [(.int .i64 0), (.int .u8 0), (.int .i64 0), (.int .i64 0), (.int .i64 0)]), qm 19 64, qs 20 5 20 66]
def f20r23 : List Abs.Op := [qF 67 3 20, qW 68 20 2 67, qA 69 9 4, qW 70 17 2 17, qO 71 (.bld [(.int .i64 0), (.int .i64 0), (.int .i64 0), (.int .i64 0), .nils, (.int .i64 0), (.int .i64 0), (.int .i64 0), .nils, (.str []), .nils] [(0, 9, (.t 69)), (9, 2, (.t 70))]), qM 72 15, qM 73 16, qJ 74 2 72 73, qA 75 2 74, qW 76 20 5 20, qC 77 i_rock_bedded_value [71, 75, 76], qc 78 i_rock_Range_miss [68, 77], qm 21 78]
def f20r24 : List Abs.Op := [qm 79 21, qn 80 .neq 79 0, qm 81 80, qg 81 true (qm 82 18), qg 81 true (qm 83 3), qg 81 true (qe 84 83), qg 81 true (qk 85 .eql 82 84), qp 86 81 85]
def f20r25 : List Abs.Op := [qm 87 19, qm 18 87]
def f20r26 : List Abs.Op := [qm 88 9, qm 89 16, qm 90 19, qm 91 21, qo 92 (.bld [(.int .i64 0), (.int .i64 0), (.int .i64 0)] [(0, 1, (.t 89)), (1, 1, (.t 90)), (2, 1, (.t 91))]), qo 93 (.bsi 1 3 [(.int .i64 0), (.int .i64 0), (.int .i64 0)] [(0, 3, (.t 92))]), qy 94 3 24 88 93, qm 9 94]
def f20r27 : List Abs.Op := [qn 95 .add 62 1, qm 62 95]
def f_rock_Strikes_l28 : Abs.Cmd :=
  (.seq (.reg [3, 4, 8, 9, 10, 15, 16, 17, 18, 51, 52, 53, 60, 61, 62, 63] f20r21) (.seq (.ite (.t 63) .nop (.exit 4)) (.seq (.blk 5 (.seq (.reg [3, 4, 8, 9, 10, 15, 16, 17, 18, 19, 20, 51, 52, 53, 60, 61, 62] f20r22) (.seq (.reg [3, 4, 8, 9, 10, 15, 16, 17, 18, 19, 21, 51, 52, 53, 60, 61, 62] f20r23) (.seq (.reg [3, 4, 8, 9, 10, 15, 16, 17, 18, 19, 21, 51, 52, 53, 60, 61, 62, 86] f20r24) (.ite (.t 86) (.seq (.reg [3, 4, 8, 9, 10, 15, 16, 17, 18, 19, 21, 51, 52, 53, 60, 61, 62] f20r25) (.reg [3, 4, 8, 9, 10, 15, 16, 17, 18, 51, 52, 53, 60, 61, 62] f20r26)) .nop))))) (.reg [3, 4, 8, 9, 10, 15, 16, 17, 18, 51, 52, 53, 60, 61, 62] f20r27))))

def f20r29 : List Abs.Op := [qm 96 18, qm 97 3, qe 98 97, qk 99 .eql 96 98]
def f20r30 : List Abs.Op := [qm 100 8, qm 101 16, qo 102 (.bsi 1 1 [(.int .i64 0)] [(0, 1, (.t 101))]), qy 103 1 8 100 102, qm 8 103]
def f20r31 : List Abs.Op := [qn 104 .add 53 1, qm 53 104]
def f_rock_Strikes_l32 : Abs.Cmd :=
  (.seq (.reg [3, 4, 8, 9, 10, 15, 51, 52, 53, 54] f20r17) (.seq (.ite (.t 54) .nop (.exit 2)) (.seq (.blk 3 (.seq (.reg [3, 4, 8, 9, 10, 15, 16, 17, 51, 52, 53] f20r18) (.seq (.reg [3, 4, 8, 9, 10, 15, 16, 17, 18, 51, 52, 53] f20r19) (.seq (.seq (.reg [3, 4, 8, 9, 10, 15, 16, 17, 18, 51, 52, 53, 60, 61, 62] f20r20) (.blk 4 (.loop [3, 4, 8, 9, 10, 15, 16, 17, 18, 51, 52, 53, 60, 61, 62] false f_rock_Strikes_l28))) (.seq (.reg [3, 4, 8, 9, 10, 15, 16, 51, 52, 53, 99] f20r29) (.ite (.t 99) (.reg [3, 4, 8, 9, 10, 15, 51, 52, 53] f20r30) .nop)))))) (.reg [3, 4, 8, 9, 10, 15, 51, 52, 53] f20r31))))

def f20r33 : List Abs.Op := [qm 105 8, qm 106 9, qm 8 105, qm 9 106, ⟨none, none, false, .st [] 1 (.t 10) (.c (.int .i64 0))⟩]
def f_rock_Strikes_b34 : Abs.Cmd :=
  (.seq (.treg [1, 3, 4, 8, 9, 10, 15] f20r14 ⟨some 50, none, false, .call false (.c (.fn i_rock_runs [] [])) [(.t 47), (.t 48), (.t 49)]⟩ f20r15) (.seq (.seq (.reg [3, 4, 8, 9, 10, 15, 51, 52, 53] f20r16) (.blk 2 (.loop [3, 4, 8, 9, 10, 15, 51, 52, 53] false f_rock_Strikes_l32))) (.seq (.reg [8, 9, 10] f20r33) .ret)))

def a_rock_Strikes : Ann := ⟨[(30, [8, 9, 10]), (29, [3, 4, 8, 9, 10, 15, 51, 52, 53]), (28, [3, 4, 8, 9, 10, 15, 51, 52, 53]), (27, [3, 4, 8, 9, 10, 15, 16, 51, 52, 53, 99]), (26, [3, 4, 8, 9, 10, 15, 16, 17, 18, 51, 52, 53, 60, 61, 62]), (25, [3, 4, 8, 9, 10, 15, 16, 17, 18, 51, 52, 53, 60, 61, 62]), (24, [3, 4, 8, 9, 10, 15, 16, 17, 18, 19, 21, 51, 52, 53, 60, 61, 62]), (23, [3, 4, 8, 9, 10, 15, 16, 17, 18, 19, 21, 51, 52, 53, 60, 61, 62, 86]), (22, [3, 4, 8, 9, 10, 15, 16, 17, 18, 19, 21, 51, 52, 53, 60, 61, 62]), (21, [3, 4, 8, 9, 10, 15, 16, 17, 18, 19, 20, 51, 52, 53, 60, 61, 62]), (20, [3, 4, 8, 9, 10, 15, 16, 17, 18, 51, 52, 53, 60, 61, 62, 63]), (19, [3, 4, 8, 9, 10, 15, 16, 17, 18, 51, 52, 53, 60, 61, 62]), (18, [3, 4, 8, 9, 10, 15, 16, 17, 18, 51, 52, 53]), (17, [3, 4, 8, 9, 10, 15, 16, 17, 51, 52, 53]), (16, [3, 4, 8, 9, 10, 15, 51, 52, 53, 54]), (15, [3, 4, 8, 9, 10, 15, 51, 52, 53]), (14, [1, 3, 4, 8, 9, 10, 15]), (13, [1, 2, 3, 4, 8, 9, 10]), (12, [1, 2, 3, 4, 8, 9, 10, 32, 33, 34]), (11, [8, 9, 10]), (10, [1, 2, 3, 4, 8, 9, 10, 14, 32, 33, 34, 44]), (9, [1, 2, 3, 4, 8, 9, 10, 14, 32, 33, 34]), (8, [1, 2, 3, 4, 8, 9, 10, 13, 32, 33, 34]), (7, [1, 2, 3, 4, 8, 9, 10, 32, 33, 34, 35]), (6, [1, 2, 3, 4, 8, 9, 10, 32, 33, 34]), (5, [8, 9, 10]), (4, [1, 2, 3, 4, 8, 9, 10, 31]), (3, [8, 9, 10]), (2, [1, 2, 3, 4, 8, 9, 10, 11, 27]), (1, [1, 2, 3, 4, 8, 9, 10, 11]), (0, [1, 2, 3, 4, 8, 9, 10])], [(4, [3, 4, 8, 9, 10, 15, 16, 17, 18, 51, 52, 53, 60, 61, 62]), (2, [3, 4, 8, 9, 10, 15, 51, 52, 53]), (0, [1, 2, 3, 4, 8, 9, 10, 32, 33, 34])], [0], [8, 9, 10, 13, 17, 20], [13, 17, 20], [], [], [], [], [], [(14, some 3)]⟩
def f_rock_Strikes : Abs.Fn := ⟨4, [.t 8, .t 9, .c 10 false 1],
  (.seq (.reg [1, 2, 3, 4, 8, 9, 10] f20r0) (.seq (.seq (.reg [1, 2, 3, 4, 8, 9, 10, 11] f20r1) (.seq (.reg [1, 2, 3, 4, 8, 9, 10, 11, 27] f20r2) (.ite (.t 27) (.seq (.reg [8, 9, 10] f20r3) .ret) .nop))) (.seq (.seq (.reg [1, 2, 3, 4, 8, 9, 10, 31] f20r4) (.ite (.t 31) (.seq (.reg [8, 9, 10] f20r5) .ret) .nop)) (.seq (.seq (.reg [1, 2, 3, 4, 8, 9, 10, 32, 33, 34] f20r6) (.blk 0 (.loop [1, 2, 3, 4, 8, 9, 10, 32, 33, 34] true f_rock_Strikes_l13))) (.dfr (.c (.fn i_rock_caught [] [])) [(.t 10)] f_rock_Strikes_b34)))))⟩
@[simp] theorem e20 : type_of% (show f20r0 = _ ∧ f20r1 = _ ∧ f20r2 = _ ∧ f20r3 = _ ∧ f20r4 = _ ∧ f20r5 = _ ∧ f20r6 = _ ∧ f20r7 = _ ∧ f20r8 = _ ∧ f20r9 = _ ∧ f20r10 = _ ∧ f20r11 = _ ∧ f20r12 = _ ∧ f20r14 = _ ∧ f20r15 = _ ∧ f20r16 = _ ∧ f20r17 = _ ∧ f20r18 = _ ∧ f20r19 = _ ∧ f20r20 = _ ∧ f20r21 = _ ∧ f20r22 = _ ∧ f20r23 = _ ∧ f20r24 = _ ∧ f20r25 = _ ∧ f20r26 = _ ∧ f20r27 = _ ∧ f20r29 = _ ∧ f20r30 = _ ∧ f20r31 = _ ∧ f20r33 = _ from by simp only [f20r0, f20r1, f20r2, f20r3, f20r4, f20r5, f20r6, f20r7, f20r8, f20r9, f20r10, f20r11, f20r12, f20r14, f20r15, f20r16, f20r17, f20r18, f20r19, f20r20, f20r21, f20r22, f20r23, f20r24, f20r25, f20r26, f20r27, f20r29, f20r30, f20r31, f20r33, qo, qO, qm, qM, qi, qF, qa, qA, qw, qW, qx, qe, qj, qJ, qk, qn, qp, qs, qt, qc, qC, qy, qg, List.map_cons, List.map_nil]; exact ⟨rfl, rfl, rfl, rfl, rfl, rfl, rfl, rfl, rfl, rfl, rfl, rfl, rfl, rfl, rfl, rfl, rfl, rfl, rfl, rfl, rfl, rfl, rfl, rfl, rfl, rfl, rfl, rfl, rfl, rfl, rfl⟩) := ⟨rfl, rfl, rfl, rfl, rfl, rfl, rfl, rfl, rfl, rfl, rfl, rfl, rfl, rfl, rfl, rfl, rfl, rfl, rfl, rfl, rfl, rfl, rfl, rfl, rfl, rfl, rfl, rfl, rfl, rfl, rfl⟩
theorem e_rock_Strikes_l13 : type_of% f_rock_Strikes_l13.eq_1 := by_rfl f_rock_Strikes_l13.eq_1
theorem e_rock_Strikes_l28 : type_of% f_rock_Strikes_l28.eq_1 := by_rfl f_rock_Strikes_l28.eq_1
theorem e_rock_Strikes_l32 : type_of% f_rock_Strikes_l32.eq_1 := by_rfl f_rock_Strikes_l32.eq_1
theorem e_rock_Strikes_b34 : type_of% f_rock_Strikes_b34.eq_1 := by_rfl f_rock_Strikes_b34.eq_1
theorem e_rock_Strikes : type_of% f_rock_Strikes.eq_1 := by_rfl f_rock_Strikes.eq_1
theorem ok_rock_Strikes : fnC Tryz.prog a_rock_Strikes Tryz.f20 = some f_rock_Strikes := by kernel_rfl

/-! 21 fumarole/fumarolelaw05.Readings -/
def f21r0 : List Abs.Op := [qo 2 (.mv (.c .nils))]
def f21r1 : List Abs.Op := [qo 3 (.nilb 5)]
def f21r2 : List Abs.Op := [qi 4 0]
def f21r3 : List Abs.Op := [qm 5 4, qm 6 0, qe 7 6, qk 8 .lss 5 7]
def f21r4 : List Abs.Op := [qM 11 3, qM 12 0, qM 13 4, qJ 14 5 12 13, qF 15 0 14, qL 16 1 15, qM 17 0, qM 18 4, qJ 19 5 17 18, qF 20 1 19, qL 21 1 20, qM 22 0, qM 23 4, qJ 24 5 22 23, qF 25 2 24, qL 26 1 25, qM 27 0, qM 28 4, qJ 29 5 27 28, qF 30 3 29, qF 31 0 30, qL 32 1 31, qM 33 0, qM 34 4, qJ 35 5 33 34, qF 36 3 35, qF 37 1 36, qL 38 1 37, qO 39 (.bld [(.int .i64 0), (.int .i64 0)] [(0, 1, (.t 32)), (1, 1, (.t 38))]), qO 40 (.bld [(.int .i64 0), (.int .u8 0), (.int .i64 0), (.int .i64 0), (.int .i64 0)] [(0, 1, (.t 16)), (1, 1, (.t 21)), (2, 1, (.t 26)), (3, 2, (.t 39))]), qO 41 (.bsi 1 5 [(.int .i64 0), (.int .u8 0), (.int .i64 0), (.int .i64 0), (.int .i64 0)] [(0, 5, (.t 40))]), qy 42 5 40 11 41, qm 3 42]
def f21r5 : List Abs.Op := [qm 9 4, qn 10 .add 9 1, qm 4 10]
def f_law05_Readings_l6 : Abs.Cmd :=
  (.seq (.seq (.reg [0, 3, 4, 8] f21r3) (.ite (.t 8) .nop (.exit 0))) (.seq (.blk 1 (.reg [0, 3, 4] f21r4)) (.reg [0, 3, 4] f21r5)))

def f21r7 : List Abs.Op := [qm 43 3, qm 2 43]
def a_law05_Readings : Ann := ⟨[(6, [2]), (4, [0, 3, 4]), (5, [0, 3, 4]), (3, [0, 3, 4, 8]), (2, [0, 3, 4]), (1, [0, 3]), (0, [0])], [(0, [0, 3, 4])], [], [3], [], [], [], [], [], [], []⟩
def f_law05_Readings : Abs.Fn := ⟨1, [.t 2],
  (.seq (.reg [0] f21r0) (.seq (.reg [0, 3] f21r1) (.seq (.seq (.reg [0, 3, 4] f21r2) (.blk 0 (.loop [0, 3, 4] false f_law05_Readings_l6))) (.seq (.reg [2] f21r7) .ret))))⟩
@[simp] theorem e21 : type_of% (show f21r0 = _ ∧ f21r1 = _ ∧ f21r2 = _ ∧ f21r3 = _ ∧ f21r4 = _ ∧ f21r5 = _ ∧ f21r7 = _ from by simp only [f21r0, f21r1, f21r2, f21r3, f21r4, f21r5, f21r7, qo, qO, qm, qM, qi, qF, qL, qe, qJ, qk, qn, qy]; exact ⟨rfl, rfl, rfl, rfl, rfl, rfl, rfl⟩) := ⟨rfl, rfl, rfl, rfl, rfl, rfl, rfl⟩
theorem e_law05_Readings_l6 : type_of% f_law05_Readings_l6.eq_1 := by_rfl f_law05_Readings_l6.eq_1
theorem e_law05_Readings : type_of% f_law05_Readings.eq_1 := by_rfl f_law05_Readings.eq_1
theorem ok_law05_Readings : fnC Tryz.prog a_law05_Readings Tryz.f21 = some f_law05_Readings := by kernel_rfl

/-! 22 fumarole/fumaroletop.some -/
def f22r0 : List Abs.Op := [qo 4 (.mv (.c .nils)), qb 5 false]
def f22r1 : List Abs.Op := [qo 6 (.nilb 2)]
def f22r2 : List Abs.Op := [qi 7 0]
def f22r3 : List Abs.Op := [qm 8 7, qm 9 1, qe 10 9, qk 11 .lss 8 10]
def f22r4 : List Abs.Op := [qm 14 1, qm 15 7, qj 16 1 14 15, ql 17 1 16, qn 18 .lss 17 0, qm 19 18, qg 19 false (qm 20 1), qg 19 false (qm 21 7), qg 19 false (qj 22 1 20 21), qg 19 false (ql 23 1 22), qg 19 false (qm 24 0), qg 19 false (qe 25 24), qg 19 false (qk 26 .geq 23 25), qP 27 19 26]
def f22r5 : List Abs.Op := [qo 4 (.mv (.c .nils)), qb 5 false]
def f22r6 : List Abs.Op := [qm 28 6, qm 29 0, qm 30 1, qm 31 7, qj 32 1 30 31, ql 33 1 32, qj 34 2 29 33, qa 35 2 34, qo 36 (.bsi 1 2 [(.str []), .nils] [(0, 2, (.t 35))]), qy 37 2 40 28 36, qm 6 37]
def f22r7 : List Abs.Op := [qm 12 7, qn 13 .add 12 1, qm 7 13]
def f_top_some_l8 : Abs.Cmd :=
  (.seq (.seq (.reg [0, 1, 6, 7, 11] f22r3) (.ite (.t 11) .nop (.exit 0))) (.seq (.blk 1 (.seq (.seq (.reg [0, 1, 6, 7, 27] f22r4) (.ite (.t 27) (.seq (.reg [4, 5] f22r5) .ret) .nop)) (.reg [0, 1, 6, 7] f22r6))) (.reg [0, 1, 6, 7] f22r7)))

def f22r9 : List Abs.Op := [qm 38 6, qm 4 38, qb 5 true]
def a_top_some : Ann := ⟨[(8, [4, 5]), (4, [0, 1, 6, 7]), (7, [0, 1, 6, 7]), (6, [4, 5]), (5, [0, 1, 6, 7, 27]), (3, [0, 1, 6, 7, 11]), (2, [0, 1, 6, 7]), (1, [0, 1, 6]), (0, [0, 1])], [(0, [0, 1, 6, 7])], [], [6], [], [], [], [], [], [], []⟩
def f_top_some : Abs.Fn := ⟨2, [.t 4, .t 5],
  (.seq (.reg [0, 1] f22r0) (.seq (.reg [0, 1, 6] f22r1) (.seq (.seq (.reg [0, 1, 6, 7] f22r2) (.blk 0 (.loop [0, 1, 6, 7] false f_top_some_l8))) (.seq (.reg [4, 5] f22r9) .ret))))⟩
@[simp] theorem e22 : type_of% (show f22r0 = _ ∧ f22r1 = _ ∧ f22r2 = _ ∧ f22r3 = _ ∧ f22r4 = _ ∧ f22r5 = _ ∧ f22r6 = _ ∧ f22r7 = _ ∧ f22r9 = _ from by simp only [f22r0, f22r1, f22r2, f22r3, f22r4, f22r5, f22r6, f22r7, f22r9, qo, qm, qi, qb, ql, qa, qe, qj, qk, qn, qP, qy, qg]; exact ⟨rfl, rfl, rfl, rfl, rfl, rfl, rfl, rfl, rfl⟩) := ⟨rfl, rfl, rfl, rfl, rfl, rfl, rfl, rfl, rfl⟩
theorem e_top_some_l8 : type_of% f_top_some_l8.eq_1 := by_rfl f_top_some_l8.eq_1
theorem e_top_some : type_of% f_top_some.eq_1 := by_rfl f_top_some.eq_1
theorem ok_top_some : fnC Tryz.prog a_top_some Tryz.f22 = some f_top_some := by kernel_rfl

/-! 29 fumarole/fumarolelaw02.Model -/
def f29r0 : List Abs.Op := [qx 1 0, qo 2 (.alcv [] [(.str []), .nils])]
def f29r1 : List Abs.Op := [qF 3 0 1, qO 4 (.ldi false 1 (.t 3)), qO 5 (.bsm 0 1 [] []), qF 6 1 1, qO 7 (.ldi false 1 (.t 6)), qo 8 (.apz 1 8 (.t 5) (.t 7)), qo 9 (.bld [(.str []), .nils] [(0, 1, (.t 4)), (1, 1, (.t 8))]), qs 2 2 2 9]
def a_law02_Model : Ann := ⟨[(1, [2]), (0, [1, 2])], [], [], [2, 5], [2], [], [1005], [], [1], [], []⟩
def f_law02_Model : Abs.Fn := ⟨1, [.v 2 true 2],
  (.seq (.reg [1, 2] f29r0) (.seq (.reg [2] f29r1) .ret))⟩
@[simp] theorem e29 : type_of% (show f29r0 = _ ∧ f29r1 = _ from by simp only [f29r0, f29r1, qo, qO, qF, qx, qs]; exact ⟨rfl, rfl⟩) := ⟨rfl, rfl⟩
theorem e_law02_Model : type_of% f_law02_Model.eq_1 := by_rfl f_law02_Model.eq_1
theorem ok_law02_Model : fnC Tryz.prog a_law02_Model Tryz.f29 = some f_law02_Model := by kernel_rfl

/-! 30 fumarole/fumaroleref05.Right -/
def f30r0 : List Abs.Op := [qx 1 0, qb 2 false]
def f30r1 : List Abs.Op := [qf 6 0 1, qa 7 4 6, qc 8 i_ref02_Right [7], qu 9 8, qm 10 9, qg 10 false (qf 11 0 1), qg 10 false (qf 12 3 11), qg 10 false (ql 13 1 12), qg 10 false (qn 14 .lss 13 4), qP 15 10 14, qm 16 15, qg 16 false (qf 17 4 1), qg 16 false (ql 18 1 17), qg 16 false (qc 19 i_ref01_Right [18]), qg 16 false (qu 20 19), qP 21 16 20, qm 22 21, qg 22 false (qf 23 5 1), qg 22 false (ql 24 1 23), qg 22 false (qo 25 (.call false (.c (.fn i_ref01_In [] [])) [(.t 24), (.c (.int .i64 1)), (.c (.int .i64 100000))])), qg 22 false (qu 26 25), qP 27 22 26, qm 28 27, qg 28 false (qf 29 6 1), qg 28 false (ql 30 1 29), qg 28 false (qo 31 (.call false (.c (.fn i_ref01_In [] [])) [(.t 30), (.c (.int .i64 0)), (.c (.int .i64 1000))])), qg 28 false (qu 32 31), qP 33 28 32, qm 34 33, qg 34 false (qf 35 7 1), qg 34 false (ql 36 1 35), qg 34 false (qo 37 (.call false (.c (.fn i_ref01_In [] [])) [(.t 36), (.c (.int .i64 0)), (.c (.int .i64 3000))])), qg 34 false (qu 38 37), qP 39 34 38, qm 40 39, qg 40 false (qf 41 8 1), qg 40 false (ql 42 1 41), qg 40 false (qe 43 42), qg 40 false (qn 44 .gtr 43 8), qP 45 40 44]
def f30r2 : List Abs.Op := [qb 2 false]
def f30r3 : List Abs.Op := [qi 3 0]
def f30r4 : List Abs.Op := [qm 46 3, qf 47 8 1, ql 48 1 47, qe 49 48, qk 50 .lss 46 49]
def f30r5 : List Abs.Op := [qf 53 8 1, ql 54 1 53, qm 55 3, qj 56 3 54 55, qa 57 3 56, qo 4 (.alcv [] [(.int .i64 0), (.int .i64 0), (.int .i64 0)]), qs 4 3 4 57]
def f30r6 : List Abs.Op := [qF 58 0 4, qV 59 4 1 58, qF 60 0 1, qA 61 4 60, qC 62 i_ref02_Size [61], qN 63 .sub 62 1, qo 64 (.call false (.c (.fn i_ref01_In [] [])) [(.t 59), (.c (.int .i64 0)), (.t 63)]), qu 65 64, qm 66 65, qg 66 false (qf 67 1 4), qg 66 false (qv 68 4 1 67), qg 66 false (qo 69 (.call false (.c (.fn i_ref01_In [] [])) [(.t 68), (.c (.int .i64 0)), (.c (.int .i64 3000))])), qg 66 false (qu 70 69), qP 71 66 70, qm 72 71, qg 72 false (qf 73 2 4), qg 72 false (qv 74 4 1 73), qg 72 false (qo 75 (.call false (.c (.fn i_ref01_In [] [])) [(.t 74), (.c (.int .i64 0)), (.c (.int .i64 1000000))])), qg 72 false (qu 76 75), qP 77 72 76]
def f30r7 : List Abs.Op := [qb 2 false]
def f30r8 : List Abs.Op := [qi 5 0]
def f30r9 : List Abs.Op := [qm 78 5, qm 79 3, qk 80 .lss 78 79]
def f30r10 : List Abs.Op := [qF 83 8 1, qL 84 1 83, qM 85 5, qJ 86 3 84 85, qF 87 0 86, qL 88 1 87, qF 89 0 4, qV 90 4 1 89, qk 91 .eql 88 90]
def f30r11 : List Abs.Op := [qb 2 false]
def f30r12 : List Abs.Op := [qm 81 5, qn 82 .add 81 1, qm 5 82]
def f_ref05_Right_l13 : Abs.Cmd :=
  (.seq (.seq (.reg [1, 3, 4, 5, 80] f30r9) (.ite (.t 80) .nop (.exit 2))) (.seq (.blk 3 (.seq (.reg [1, 3, 4, 5, 91] f30r10) (.ite (.t 91) (.seq (.reg [2] f30r11) .ret) .nop))) (.reg [1, 3, 4, 5] f30r12)))

def f30r14 : List Abs.Op := [qm 51 3, qn 52 .add 51 1, qm 3 52]
def f_ref05_Right_l15 : Abs.Cmd :=
  (.seq (.seq (.reg [1, 3, 50] f30r4) (.ite (.t 50) .nop (.exit 0))) (.seq (.blk 1 (.seq (.reg [1, 3, 4] f30r5) (.seq (.seq (.reg [1, 3, 4, 77] f30r6) (.ite (.t 77) (.seq (.reg [2] f30r7) .ret) .nop)) (.seq (.reg [1, 3, 4, 5] f30r8) (.blk 2 (.loop [1, 3, 4, 5] false f_ref05_Right_l13)))))) (.reg [1, 3] f30r14)))

def f30r16 : List Abs.Op := [qb 2 true]
def a_ref05_Right : Ann := ⟨[(14, [2]), (5, [1, 3]), (11, [1, 3, 4, 5]), (13, [2]), (12, [1, 3, 4, 5, 91]), (10, [1, 3, 4, 5, 80]), (9, [1, 3, 4, 5]), (8, [2]), (7, [1, 3, 4, 77]), (6, [1, 3, 4]), (4, [1, 3, 50]), (3, [1, 3]), (2, [2]), (1, [1, 45]), (0, [1])], [(2, [1, 3, 4, 5]), (0, [1, 3])], [], [4], [4], [], [], [], [], [], []⟩
def f_ref05_Right : Abs.Fn := ⟨1, [.t 2],
  (.seq (.reg [1] f30r0) (.seq (.seq (.reg [1, 45] f30r1) (.ite (.t 45) (.seq (.reg [2] f30r2) .ret) .nop)) (.seq (.seq (.reg [1, 3] f30r3) (.blk 0 (.loop [1, 3] false f_ref05_Right_l15))) (.seq (.reg [2] f30r16) .ret))))⟩
@[simp] theorem e30 : type_of% (show f30r0 = _ ∧ f30r1 = _ ∧ f30r2 = _ ∧ f30r3 = _ ∧ f30r4 = _ ∧ f30r5 = _ ∧ f30r6 = _ ∧ f30r7 = _ ∧ f30r8 = _ ∧ f30r9 = _ ∧ f30r10 = _ ∧ f30r11 = _ ∧ f30r12 = _ ∧ f30r14 = _ ∧ f30r16 = _ from by simp only [f30r0, f30r1, f30r2, f30r3, f30r4, f30r5, f30r6, f30r7, f30r8, f30r9, f30r10, f30r11, f30r12, f30r14, f30r16, qo, qm, qM, qi, qb, qf, qF, ql, qL, qa, qA, qv, qV, qx, qe, qj, qJ, qk, qn, qN, qu, qP, qs, qc, qC, qg, List.map_cons, List.map_nil]; exact ⟨rfl, rfl, rfl, rfl, rfl, rfl, rfl, rfl, rfl, rfl, rfl, rfl, rfl, rfl, rfl⟩) := ⟨rfl, rfl, rfl, rfl, rfl, rfl, rfl, rfl, rfl, rfl, rfl, rfl, rfl, rfl, rfl⟩
theorem e_ref05_Right_l13 : type_of% f_ref05_Right_l13.eq_1 := by_rfl f_ref05_Right_l13.eq_1
theorem e_ref05_Right_l15 : type_of% f_ref05_Right_l15.eq_1 := by_rfl f_ref05_Right_l15.eq_1
theorem e_ref05_Right : type_of% f_ref05_Right.eq_1 := by_rfl f_ref05_Right.eq_1
theorem ok_ref05_Right : fnC Tryz.prog a_ref05_Right Tryz.f30 = some f_ref05_Right := by kernel_rfl

/-! 31 fumarole/fumaroleref05.ModelsFault -/
def f31r0 : List Abs.Op := [qx 2 0, qi 4 0]
def f31r1 : List Abs.Op := [qm 6 1, qe 7 6, qn 8 .lss 7 1, qm 9 8, qg 9 false (qm 10 1), qg 9 false (qe 11 10), qg 9 false (qn 12 .gtr 11 40), qP 13 9 12]
def f31r2 : List Abs.Op := [qi 4 3]
def f31r3 : List Abs.Op := [qf 14 0 2, qa 15 4 14, qm 16 1, qc 17 i_ref02_ModelsFault [15, 16], qn 18 .neq 17 0]
def f31r4 : List Abs.Op := [qi 4 1]
def f31r5 : List Abs.Op := [qi 5 0]
def f31r6 : List Abs.Op := [qm 19 5, qm 20 1, qe 21 20, qk 22 .lss 19 21]
def f31r7 : List Abs.Op := [qA 25 9 2, qM 26 1, qM 27 5, qJ 28 2 26 27, qA 29 2 28, qc 30 i_ref05_Fits [25, 29], qu 31 30]
def f31r8 : List Abs.Op := [qi 4 1]
def f31r9 : List Abs.Op := [qm 23 5, qn 24 .add 23 1, qm 5 24]
def f_ref05_ModelsFault_l10 : Abs.Cmd :=
  (.seq (.seq (.reg [1, 2, 5, 22] f31r6) (.ite (.t 22) .nop (.exit 0))) (.seq (.blk 1 (.seq (.reg [1, 2, 5, 31] f31r7) (.ite (.t 31) (.seq (.reg [4] f31r8) .ret) .nop))) (.reg [1, 2, 5] f31r9)))

def f31r11 : List Abs.Op := [qi 4 0]
def a_ref05_ModelsFault : Ann := ⟨[(10, [4]), (7, [1, 2, 5]), (9, [4]), (8, [1, 2, 5, 31]), (6, [1, 2, 5, 22]), (5, [1, 2, 5]), (4, [4]), (3, [1, 2, 18]), (2, [4]), (1, [1, 2, 13]), (0, [1, 2])], [(0, [1, 2, 5])], [], [], [], [], [], [], [], [], []⟩
def f_ref05_ModelsFault : Abs.Fn := ⟨2, [.t 4],
  (.seq (.reg [1, 2] f31r0) (.seq (.seq (.reg [1, 2, 13] f31r1) (.ite (.t 13) (.seq (.reg [4] f31r2) .ret) .nop)) (.seq (.seq (.reg [1, 2, 18] f31r3) (.ite (.t 18) (.seq (.reg [4] f31r4) .ret) .nop)) (.seq (.seq (.reg [1, 2, 5] f31r5) (.blk 0 (.loop [1, 2, 5] false f_ref05_ModelsFault_l10))) (.seq (.reg [4] f31r11) .ret)))))⟩
@[simp] theorem e31 : type_of% (show f31r0 = _ ∧ f31r1 = _ ∧ f31r2 = _ ∧ f31r3 = _ ∧ f31r4 = _ ∧ f31r5 = _ ∧ f31r6 = _ ∧ f31r7 = _ ∧ f31r8 = _ ∧ f31r9 = _ ∧ f31r11 = _ from by simp only [f31r0, f31r1, f31r2, f31r3, f31r4, f31r5, f31r6, f31r7, f31r8, f31r9, f31r11, qm, qM, qi, qf, qa, qA, qx, qe, qJ, qk, qn, qu, qP, qc, qg, List.map_cons, List.map_nil]; exact ⟨rfl, rfl, rfl, rfl, rfl, rfl, rfl, rfl, rfl, rfl, rfl⟩) := ⟨rfl, rfl, rfl, rfl, rfl, rfl, rfl, rfl, rfl, rfl, rfl⟩
theorem e_ref05_ModelsFault_l10 : type_of% f_ref05_ModelsFault_l10.eq_1 := by_rfl f_ref05_ModelsFault_l10.eq_1
theorem e_ref05_ModelsFault : type_of% f_ref05_ModelsFault.eq_1 := by_rfl f_ref05_ModelsFault.eq_1
theorem ok_ref05_ModelsFault : fnC Tryz.prog a_ref05_ModelsFault Tryz.f31 = some f_ref05_ModelsFault := by kernel_rfl

/-! 32 fumarole/fumaroleref05.PlanFault -/
def f32r0 : List Abs.Op := [qx 2 0, qi 4 0]
def f32r1 : List Abs.Op := [qm 7 1, qe 8 7, qn 9 .gtr 8 200]
def f32r2 : List Abs.Op := [qi 4 3]
def f32r3 : List Abs.Op := [qi 5 0]
def f32r4 : List Abs.Op := [qm 10 5, qm 11 1, qe 12 11, qk 13 .lss 10 12]
def f32r5 : List Abs.Op := [qA 16 9 2, qM 17 1, qM 18 5, qJ 19 1 17 18, qL 20 1 19, qc 21 i_ref05_RatesFault [16, 20], qm 6 21]
def f32r6 : List Abs.Op := [qm 22 6, qn 23 .neq 22 0]
def f32r7 : List Abs.Op := [qm 24 6, qm 4 24]
def f32r8 : List Abs.Op := [qm 14 5, qn 15 .add 14 1, qm 5 15]
def f_ref05_PlanFault_l9 : Abs.Cmd :=
  (.seq (.seq (.reg [1, 2, 5, 13] f32r4) (.ite (.t 13) .nop (.exit 0))) (.seq (.blk 1 (.seq (.reg [1, 2, 5, 6] f32r5) (.seq (.reg [1, 2, 5, 6, 23] f32r6) (.ite (.t 23) (.seq (.reg [4] f32r7) .ret) .nop)))) (.reg [1, 2, 5] f32r8)))

def f32r10 : List Abs.Op := [qi 4 0]
def a_ref05_PlanFault : Ann := ⟨[(9, [4]), (5, [1, 2, 5]), (8, [4]), (7, [1, 2, 5, 6, 23]), (6, [1, 2, 5, 6]), (4, [1, 2, 5, 13]), (3, [1, 2, 5]), (2, [4]), (1, [1, 2, 9]), (0, [1, 2])], [(0, [1, 2, 5])], [], [], [], [], [], [], [], [], []⟩
def f_ref05_PlanFault : Abs.Fn := ⟨2, [.t 4],
  (.seq (.reg [1, 2] f32r0) (.seq (.seq (.reg [1, 2, 9] f32r1) (.ite (.t 9) (.seq (.reg [4] f32r2) .ret) .nop)) (.seq (.seq (.reg [1, 2, 5] f32r3) (.blk 0 (.loop [1, 2, 5] false f_ref05_PlanFault_l9))) (.seq (.reg [4] f32r10) .ret))))⟩
@[simp] theorem e32 : type_of% (show f32r0 = _ ∧ f32r1 = _ ∧ f32r2 = _ ∧ f32r3 = _ ∧ f32r4 = _ ∧ f32r5 = _ ∧ f32r6 = _ ∧ f32r7 = _ ∧ f32r8 = _ ∧ f32r10 = _ from by simp only [f32r0, f32r1, f32r2, f32r3, f32r4, f32r5, f32r6, f32r7, f32r8, f32r10, qm, qM, qi, qL, qA, qx, qe, qJ, qk, qn, qc, List.map_cons, List.map_nil]; exact ⟨rfl, rfl, rfl, rfl, rfl, rfl, rfl, rfl, rfl, rfl⟩) := ⟨rfl, rfl, rfl, rfl, rfl, rfl, rfl, rfl, rfl, rfl⟩
theorem e_ref05_PlanFault_l9 : type_of% f_ref05_PlanFault_l9.eq_1 := by_rfl f_ref05_PlanFault_l9.eq_1
theorem e_ref05_PlanFault : type_of% f_ref05_PlanFault.eq_1 := by_rfl f_ref05_PlanFault.eq_1
theorem ok_ref05_PlanFault : fnC Tryz.prog a_ref05_PlanFault Tryz.f32 = some f_ref05_PlanFault := by kernel_rfl

/-! 33 fumarole/fumarolelaw01.Three -/
def f33r0 : List Abs.Op := [qo 0 (.mv (.c .nils))]
def f33r1 : List Abs.Op := [qo 1 (.bld [(.int .i64 0), (.int .i64 0), (.int .i64 0), (.int .i64 0), (.int .i64 0)] [(0, 1, (.c (.int .i64 100))), (1, 1, (.c (.int .i64 101))), (2, 1, (.c (.int .i64 419))), (3, 1, (.c (.int .i64 2676))), (4, 1, (.c (.int .i64 150)))]), qo 2 (.bld [(.int .i64 0), (.int .i64 0), (.int .i64 0), (.int .i64 0), (.int .i64 0)] [(0, 1, (.c (.int .i64 150))), (1, 1, (.c (.int .i64 476))), (2, 1, (.c (.int .i64 632))), (3, 1, (.c (.int .i64 2746))), (4, 1, (.c (.int .i64 300)))]), qo 3 (.bld [(.int .i64 0), (.int .i64 0), (.int .i64 0), (.int .i64 0), (.int .i64 0)] [(0, 1, (.c (.int .i64 200))), (1, 1, (.c (.int .i64 1555))), (2, 1, (.c (.int .i64 852))), (3, 1, (.c (.int .i64 2793))), (4, 1, (.c (.int .i64 600)))]), qo 4 (.bsi 3 5 [(.int .i64 0), (.int .i64 0), (.int .i64 0), (.int .i64 0), (.int .i64 0), (.int .i64 0), (.int .i64 0), (.int .i64 0), (.int .i64 0), (.int .i64 0), (.int .i64 0), (.int .i64 0), (.int .i64 0), (.int .i64 0), (.int .i64 0)] [(0, 5, (.t 1)), (5, 5, (.t 2)), (10, 5, (.t 3))]), qm 0 4]
def a_law01_Three : Ann := ⟨[(1, [0]), (0, [])], [], [], [], [], [], [], [], [], [], []⟩
def f_law01_Three : Abs.Fn := ⟨0, [.t 0],
  (.seq (.reg [] f33r0) (.seq (.reg [0] f33r1) .ret))⟩
@[simp] theorem e33 : type_of% (show f33r0 = _ ∧ f33r1 = _ from by simp only [f33r0, f33r1, qo, qm]; exact ⟨rfl, rfl⟩) := ⟨rfl, rfl⟩
theorem e_law01_Three : type_of% f_law01_Three.eq_1 := by_rfl f_law01_Three.eq_1
theorem ok_law01_Three : fnC Tryz.prog a_law01_Three Tryz.f33 = some f_law01_Three := by kernel_rfl

/-! 34 fumarole/fumarolelaw01.Table -/
def f34r0 : List Abs.Op := [qo 2 (.mv (.c .nils))]
def f34r1 : List Abs.Op := [qo 3 (.nilb 5)]
def f34r2 : List Abs.Op := [qi 4 0]
def f34r3 : List Abs.Op := [qm 5 4, qm 6 0, qe 7 6, qk 8 .lss 5 7]
def f34r4 : List Abs.Op := [qM 11 3, qM 12 0, qM 13 4, qJ 14 5 12 13, qF 15 0 14, qL 16 1 15, qM 17 0, qM 18 4, qJ 19 5 17 18, qF 20 1 19, qL 21 1 20, qM 22 0, qM 23 4, qJ 24 5 22 23, qF 25 2 24, qL 26 1 25, qM 27 0, qM 28 4, qJ 29 5 27 28, qF 30 3 29, qL 31 1 30, qM 32 0, qM 33 4, qJ 34 5 32 33, qF 35 4 34, qL 36 1 35, qO 37 (.bld [(.int .i64 0), (.int .i64 0), (.int .i64 0), (.int .i64 0), (.int .i64 0)] [(0, 1, (.t 16)), (1, 1, (.t 21)), (2, 1, (.t 26)), (3, 1, (.t 31)), (4, 1, (.t 36))]), qO 38 (.bsi 1 5 [(.int .i64 0), (.int .i64 0), (.int .i64 0), (.int .i64 0), (.int .i64 0)] [(0, 5, (.t 37))]), qy 39 5 40 11 38, qm 3 39]
def f34r5 : List Abs.Op := [qm 9 4, qn 10 .add 9 1, qm 4 10]
def f_law01_Table_l6 : Abs.Cmd :=
  (.seq (.seq (.reg [0, 3, 4, 8] f34r3) (.ite (.t 8) .nop (.exit 0))) (.seq (.blk 1 (.reg [0, 3, 4] f34r4)) (.reg [0, 3, 4] f34r5)))

def f34r7 : List Abs.Op := [qm 40 3, qm 2 40]
def a_law01_Table : Ann := ⟨[(6, [2]), (4, [0, 3, 4]), (5, [0, 3, 4]), (3, [0, 3, 4, 8]), (2, [0, 3, 4]), (1, [0, 3]), (0, [0])], [(0, [0, 3, 4])], [], [3], [], [], [], [], [], [], []⟩
def f_law01_Table : Abs.Fn := ⟨1, [.t 2],
  (.seq (.reg [0] f34r0) (.seq (.reg [0, 3] f34r1) (.seq (.seq (.reg [0, 3, 4] f34r2) (.blk 0 (.loop [0, 3, 4] false f_law01_Table_l6))) (.seq (.reg [2] f34r7) .ret))))⟩
@[simp] theorem e34 : type_of% (show f34r0 = _ ∧ f34r1 = _ ∧ f34r2 = _ ∧ f34r3 = _ ∧ f34r4 = _ ∧ f34r5 = _ ∧ f34r7 = _ from by simp only [f34r0, f34r1, f34r2, f34r3, f34r4, f34r5, f34r7, qo, qO, qm, qM, qi, qF, qL, qe, qJ, qk, qn, qy]; exact ⟨rfl, rfl, rfl, rfl, rfl, rfl, rfl⟩) := ⟨rfl, rfl, rfl, rfl, rfl, rfl, rfl⟩
theorem e_law01_Table_l6 : type_of% f_law01_Table_l6.eq_1 := by_rfl f_law01_Table_l6.eq_1
theorem e_law01_Table : type_of% f_law01_Table.eq_1 := by_rfl f_law01_Table.eq_1
theorem ok_law01_Table : fnC Tryz.prog a_law01_Table Tryz.f34 = some f_law01_Table := by kernel_rfl

/-! 35 fumarole/rock.ready -/
def f35r0 : List Abs.Op := [qx 3 0, qi 6 0]
def f35r1 : List Abs.Op := [qa 8 9 3, qc 9 i_rock_Bed_valid [8], qu 10 9, qm 7 10]
def f35r2 : List Abs.Op := [qi 6 1]
def f35r3 : List Abs.Op := [qm 12 1, qe 13 12, qo 14 (.call false (.c (.fn i_rock_within [] [])) [(.t 13), (.c (.int .i64 1)), (.c (.int .i64 40))]), qu 15 14, qm 11 15]
def f35r4 : List Abs.Op := [qi 6 3]
def f35r5 : List Abs.Op := [qf 17 0 3, qa 18 4 17, qm 19 1, qc 20 i_field_CheckModels [18, 19], qn 21 .neq 20 0, qm 22 21, qg 22 false (qm 23 1), qg 22 false (qo 24 (.mkf i_rock_ready_1 [] [(.t 3)])), qg 22 false (qc 25 i_rock_all_field_Model [23, 24]), qg 22 false (qu 26 25), qP 27 22 26, qm 16 27]
def f35r6 : List Abs.Op := [qi 6 1]
def f35r7 : List Abs.Op := [qa 28 9 3, qm 29 2, qc 30 i_rock_Bed_plan [28, 29], qm 6 30]
def a_rock_ready : Ann := ⟨[(7, [6]), (2, [6]), (4, [6]), (6, [6]), (5, [2, 3, 16]), (3, [1, 2, 3, 11]), (1, [1, 2, 3, 7]), (0, [1, 2, 3])], [], [], [], [], [], [], [], [], [], []⟩
def f_rock_ready : Abs.Fn := ⟨3, [.t 6],
  (.seq (.reg [1, 2, 3] f35r0) (.seq (.blk 0 (.seq (.reg [1, 2, 3, 7] f35r1) (.ite (.t 7) (.seq (.reg [6] f35r2) .ret) (.seq (.reg [1, 2, 3, 11] f35r3) (.ite (.t 11) (.seq (.reg [6] f35r4) .ret) (.seq (.reg [2, 3, 16] f35r5) (.ite (.t 16) (.seq (.reg [6] f35r6) .ret) .nop))))))) (.seq (.reg [6] f35r7) .ret)))⟩
@[simp] theorem e35 : type_of% (show f35r0 = _ ∧ f35r1 = _ ∧ f35r2 = _ ∧ f35r3 = _ ∧ f35r4 = _ ∧ f35r5 = _ ∧ f35r6 = _ ∧ f35r7 = _ from by simp only [f35r0, f35r1, f35r2, f35r3, f35r4, f35r5, f35r6, f35r7, qo, qm, qi, qf, qa, qx, qe, qn, qu, qP, qc, qg, List.map_cons, List.map_nil]; exact ⟨rfl, rfl, rfl, rfl, rfl, rfl, rfl, rfl⟩) := ⟨rfl, rfl, rfl, rfl, rfl, rfl, rfl, rfl⟩
theorem e_rock_ready : type_of% f_rock_ready.eq_1 := by_rfl f_rock_ready.eq_1
theorem ok_rock_ready : fnC Tryz.prog a_rock_ready Tryz.f35 = some f_rock_ready := by kernel_rfl

/-! 36 fumarole/rock.caught -/
def f36r0 : List Abs.Op := [qo 5 (.rcv)]
def f36r1 : List Abs.Op := [qo 7 (.isi false (.t 5))]
def f36r2 : List Abs.Op := [qm 2 5]
def f36r3 : List Abs.Op := [qo 8 (.tas 205 (some (.agg [])) (.t 5)), qz 9 8 1, qz 10 8 0]
def f36r4 : List Abs.Op := [qo 3 (.alcv [] []), qs 3 0 3 10]
def f36r5 : List Abs.Op := [qm 11 0, qo 12 (.nck (.t 11)), ⟨none, none, false, .st [] 1 (.t 12) (.c (.int .i64 9))⟩]
def f36r6 : List Abs.Op := [qm 4 5]
def f36r7 : List Abs.Op := [qm 6 4]
def f36r8 : List Abs.Op := []
def a_rock_caught : Ann := ⟨[(4, []), (7, []), (6, [0]), (2, []), (1, [4]), (5, [0, 5, 9, 10]), (3, [0, 5, 7]), (0, [0, 5])], [], [], [0, 3], [3], [], [], [], [], [], [(2, some 1)]⟩
def f_rock_caught : Abs.Fn := ⟨1, [],
  (.seq (.reg [0, 5] f36r0) (.blk 0 (.seq (.reg [0, 5, 7] f36r1) (.ite (.t 7) (.reg [] f36r2) (.seq (.reg [0, 5, 9, 10] f36r3) (.ite (.t 9) (.seq (.reg [0] f36r4) (.reg [] f36r5)) (.seq (.reg [4] f36r6) (.treg [] f36r7 ⟨none, none, false, .pan (.t 6)⟩ f36r8))))))))⟩
@[simp] theorem e36 : type_of% (show f36r0 = _ ∧ f36r1 = _ ∧ f36r2 = _ ∧ f36r3 = _ ∧ f36r4 = _ ∧ f36r5 = _ ∧ f36r6 = _ ∧ f36r7 = _ ∧ f36r8 = _ from by simp only [f36r0, f36r1, f36r2, f36r3, f36r4, f36r5, f36r6, f36r7, f36r8, qo, qm, qs, qz]; exact ⟨rfl, rfl, rfl, rfl, rfl, rfl, rfl, rfl, rfl⟩) := ⟨rfl, rfl, rfl, rfl, rfl, rfl, rfl, rfl, rfl⟩
theorem e_rock_caught : type_of% f_rock_caught.eq_1 := by_rfl f_rock_caught.eq_1
theorem ok_rock_caught : fnC Tryz.prog a_rock_caught Tryz.f36 = some f_rock_caught := by kernel_rfl

/-! 37 fumarole/rock.runs -/
def f37r0 : List Abs.Op := [qx 3 0, qo 6 (.nilb 2)]
def f37r1 : List Abs.Op := [qm 9 1, qe 10 9, qi 11 0]
def f37r2 : List Abs.Op := [qk 12 .lss 11 10]
def f37r3 : List Abs.Op := [qj 13 2 9 11, qa 14 2 13, qo 8 (.alcv [] [(.str []), .nils]), qs 8 2 8 14]
def f37r4 : List Abs.Op := [qm 15 6, qa 16 9 3, qw 17 8 2 8, qo 18 (.bld [(.int .i64 0), (.int .i64 0), (.int .i64 0), (.int .i64 0), .nils, (.int .i64 0), (.int .i64 0), (.int .i64 0), .nils, (.str []), .nils] [(0, 9, (.t 16)), (9, 2, (.t 17))]), qm 19 2]
def f37r5 : List Abs.Op := [qo 21 (.bsi 1 2 [.nils, .nils] [(0, 2, (.t 20))]), qy 22 2 48 15 21, qm 6 22]
def f37r6 : List Abs.Op := [qn 23 .add 11 1, qm 11 23]
def f_rock_runs_l7 : Abs.Cmd :=
  (.seq (.reg [2, 3, 6, 9, 10, 11, 12] f37r2) (.seq (.ite (.t 12) .nop (.exit 0)) (.seq (.blk 1 (.seq (.reg [2, 3, 6, 8, 9, 10, 11] f37r3) (.treg [2, 3, 6, 9, 10, 11] f37r4 ⟨some 20, none, false, .call false (.c (.fn i_rock_bedded_run [] [])) [(.t 18), (.t 19)]⟩ f37r5))) (.reg [2, 3, 6, 9, 10, 11] f37r6))))

def f37r8 : List Abs.Op := [qm 24 6, qm 6 24]
def a_rock_runs : Ann := ⟨[(6, [6]), (5, [2, 3, 6, 9, 10, 11]), (4, [2, 3, 6, 9, 10, 11]), (3, [2, 3, 6, 8, 9, 10, 11]), (2, [2, 3, 6, 9, 10, 11, 12]), (1, [2, 3, 6, 9, 10, 11]), (0, [1, 2, 3, 6])], [(0, [2, 3, 6, 9, 10, 11])], [], [6, 8], [8], [], [], [], [], [], [(4, some 5)]⟩
def f_rock_runs : Abs.Fn := ⟨3, [.t 6],
  (.seq (.reg [1, 2, 3, 6] f37r0) (.seq (.seq (.reg [2, 3, 6, 9, 10, 11] f37r1) (.blk 0 (.loop [2, 3, 6, 9, 10, 11] false f_rock_runs_l7))) (.seq (.reg [6] f37r8) .ret)))⟩
@[simp] theorem e37 : type_of% (show f37r0 = _ ∧ f37r1 = _ ∧ f37r2 = _ ∧ f37r3 = _ ∧ f37r4 = _ ∧ f37r5 = _ ∧ f37r6 = _ ∧ f37r8 = _ from by simp only [f37r0, f37r1, f37r2, f37r3, f37r4, f37r5, f37r6, f37r8, qo, qm, qi, qa, qw, qx, qe, qj, qk, qn, qs, qy]; exact ⟨rfl, rfl, rfl, rfl, rfl, rfl, rfl, rfl⟩) := ⟨rfl, rfl, rfl, rfl, rfl, rfl, rfl, rfl⟩
theorem e_rock_runs_l7 : type_of% f_rock_runs_l7.eq_1 := by_rfl f_rock_runs_l7.eq_1
theorem e_rock_runs : type_of% f_rock_runs.eq_1 := by_rfl f_rock_runs.eq_1
theorem ok_rock_runs : fnC Tryz.prog a_rock_runs Tryz.f37 = some f_rock_runs := by kernel_rfl

/-! 39 (fumarole/rock.Yield).mass -/
def f39r0 : List Abs.Op := [qx 1 0, qi 2 0]
def f39r1 : List Abs.Op := [qf 3 0 1, ql 4 1 3, qm 2 4]
def a_rock_Yield_mass : Ann := ⟨[(1, [2]), (0, [1])], [], [], [], [], [], [], [], [], [], []⟩
def f_rock_Yield_mass : Abs.Fn := ⟨1, [.t 2],
  (.seq (.reg [1] f39r0) (.seq (.reg [2] f39r1) .ret))⟩
@[simp] theorem e39 : type_of% (show f39r0 = _ ∧ f39r1 = _ from by simp only [f39r0, f39r1, qm, qi, qf, ql, qx]; exact ⟨rfl, rfl⟩) := ⟨rfl, rfl⟩
theorem e_rock_Yield_mass : type_of% f_rock_Yield_mass.eq_1 := by_rfl f_rock_Yield_mass.eq_1
theorem ok_rock_Yield_mass : fnC Tryz.prog a_rock_Yield_mass Tryz.f39 = some f_rock_Yield_mass := by kernel_rfl

/-! 41 (fumarole/rock.Yield).stain -/
def f41r0 : List Abs.Op := [qx 1 0, qi 2 0]
def f41r1 : List Abs.Op := [qf 3 2 1, ql 4 1 3, qm 2 4]
def a_rock_Yield_stain : Ann := ⟨[(1, [2]), (0, [1])], [], [], [], [], [], [], [], [], [], []⟩
def f_rock_Yield_stain : Abs.Fn := ⟨1, [.t 2],
  (.seq (.reg [1] f41r0) (.seq (.reg [2] f41r1) .ret))⟩
@[simp] theorem e41 : type_of% (show f41r0 = _ ∧ f41r1 = _ from by simp only [f41r0, f41r1, qm, qi, qf, ql, qx]; exact ⟨rfl, rfl⟩) := ⟨rfl, rfl⟩
theorem e_rock_Yield_stain : type_of% f_rock_Yield_stain.eq_1 := by_rfl f_rock_Yield_stain.eq_1
theorem ok_rock_Yield_stain : fnC Tryz.prog a_rock_Yield_stain Tryz.f41 = some f_rock_Yield_stain := by kernel_rfl

/-! 42 (fumarole/rock.Bed).size -/
def f42r0 : List Abs.Op := [qx 1 0, qi 2 0]
def f42r1 : List Abs.Op := [qf 3 0 1, qf 4 0 3, ql 5 1 4, qf 6 0 1, qf 7 1 6, ql 8 1 7, qk 9 .mul 5 8, qf 10 0 1, qf 11 2 10, ql 12 1 11, qk 13 .mul 9 12, qm 2 13]
def a_rock_Bed_size : Ann := ⟨[(1, [2]), (0, [1])], [], [], [], [], [], [], [], [], [], []⟩
def f_rock_Bed_size : Abs.Fn := ⟨1, [.t 2],
  (.seq (.reg [1] f42r0) (.seq (.reg [2] f42r1) .ret))⟩
@[simp] theorem e42 : type_of% (show f42r0 = _ ∧ f42r1 = _ from by simp only [f42r0, f42r1, qm, qi, qf, ql, qx, qk]; exact ⟨rfl, rfl⟩) := ⟨rfl, rfl⟩
theorem e_rock_Bed_size : type_of% f_rock_Bed_size.eq_1 := by_rfl f_rock_Bed_size.eq_1
theorem ok_rock_Bed_size : fnC Tryz.prog a_rock_Bed_size Tryz.f42 = some f_rock_Bed_size := by kernel_rfl

/-! 43 (fumarole/rock.bedded).pressure -/
def f43r0 : List Abs.Op := [qx 3 0, qi 6 0]
def f43r1 : List Abs.Op := [qA 10 11 3, qM 11 2, qC 12 i_rock_bedded_weight [10, 11], qF 13 0 3, qF 14 5 13, qL 15 1 14, qM 16 1, qM 17 2, qJ 18 3 16 17, qF 19 0 18, qL 20 1 19, qA 21 11 3, qM 22 2, qC 23 i_rock_bedded_hold [21, 22], qK 24 .sub 20 23, qK 25 .mul 15 24, qA 26 11 3, qM 27 2, qC 28 i_rock_bedded_hold [26, 27], qc 29 i_rock_down [25, 28], qk 30 .add 12 29, qo 31 (.mx (.c (.int .i64 0)) (.t 30)), qm 7 31]
def f43r2 : List Abs.Op := [qf 32 0 3, qf 33 4 32, ql 34 1 33, qe 35 34, qi 36 0]
def f43r3 : List Abs.Op := [qk 37 .lss 36 35]
def f43r4 : List Abs.Op := [qj 38 5 34 36, qa 39 5 38, qo 9 (.alcv [] [(.int .i64 0), (.int .i64 0), (.int .i64 0), (.int .i64 0), (.int .i64 0)]), qs 9 5 9 39]
def f43r5 : List Abs.Op := [qF 40 2 9, qV 41 9 1 40, qM 42 1, qM 43 2, qJ 44 3 42 43, qF 45 0 44, qL 46 1 45, qK 47 .mul 41 46, qM 48 1, qM 49 2, qJ 50 3 48 49, qF 51 1 50, qL 52 1 51, qk 53 .leq 47 52]
def f43r6 : List Abs.Op := [qm 54 7, qf 55 1 9, qv 56 9 1 55, qo 57 (.mx (.t 54) (.t 56)), qm 7 57]
def f43r7 : List Abs.Op := [qn 58 .add 36 1, qm 36 58]
def f_rock_bedded_pressure_l8 : Abs.Cmd :=
  (.seq (.reg [1, 2, 7, 34, 35, 36, 37] f43r3) (.seq (.ite (.t 37) .nop (.exit 0)) (.seq (.blk 1 (.seq (.reg [1, 2, 7, 9, 34, 35, 36] f43r4) (.seq (.reg [1, 2, 7, 9, 34, 35, 36, 53] f43r5) (.ite (.t 53) (.reg [1, 2, 7, 34, 35, 36] f43r6) .nop)))) (.reg [1, 2, 7, 34, 35, 36] f43r7))))

def f43r9 : List Abs.Op := [qm 59 7, qm 6 59]
def a_rock_bedded_pressure : Ann := ⟨[(8, [6]), (7, [1, 2, 7, 34, 35, 36]), (6, [1, 2, 7, 34, 35, 36]), (5, [1, 2, 7, 9, 34, 35, 36, 53]), (4, [1, 2, 7, 9, 34, 35, 36]), (3, [1, 2, 7, 34, 35, 36, 37]), (2, [1, 2, 7, 34, 35, 36]), (1, [1, 2, 3, 7]), (0, [1, 2, 3])], [(0, [1, 2, 7, 34, 35, 36])], [], [9], [9], [], [], [], [], [], []⟩
def f_rock_bedded_pressure : Abs.Fn := ⟨3, [.t 6],
  (.seq (.reg [1, 2, 3] f43r0) (.seq (.reg [1, 2, 3, 7] f43r1) (.seq (.seq (.reg [1, 2, 7, 34, 35, 36] f43r2) (.blk 0 (.loop [1, 2, 7, 34, 35, 36] false f_rock_bedded_pressure_l8))) (.seq (.reg [6] f43r9) .ret))))⟩
@[simp] theorem e43 : type_of% (show f43r0 = _ ∧ f43r1 = _ ∧ f43r2 = _ ∧ f43r3 = _ ∧ f43r4 = _ ∧ f43r5 = _ ∧ f43r6 = _ ∧ f43r7 = _ ∧ f43r9 = _ from by simp only [f43r0, f43r1, f43r2, f43r3, f43r4, f43r5, f43r6, f43r7, f43r9, qo, qm, qM, qi, qf, qF, ql, qL, qa, qA, qv, qV, qx, qe, qj, qJ, qk, qK, qn, qs, qc, qC, List.map_cons, List.map_nil]; exact ⟨rfl, rfl, rfl, rfl, rfl, rfl, rfl, rfl, rfl⟩) := ⟨rfl, rfl, rfl, rfl, rfl, rfl, rfl, rfl, rfl⟩
theorem e_rock_bedded_pressure_l8 : type_of% f_rock_bedded_pressure_l8.eq_1 := by_rfl f_rock_bedded_pressure_l8.eq_1
theorem e_rock_bedded_pressure : type_of% f_rock_bedded_pressure.eq_1 := by_rfl f_rock_bedded_pressure.eq_1
theorem ok_rock_bedded_pressure : fnC Tryz.prog a_rock_bedded_pressure Tryz.f43 = some f_rock_bedded_pressure := by kernel_rfl

/-! 46 fumarole/rock.bed -/
def f46r0 : List Abs.Op := [qx 2 0, qx 3 1, qo 4 (.alcv [] [(.int .i64 0), (.int .i64 0), (.int .i64 0), (.int .i64 0), .nils, (.int .i64 0), (.int .i64 0), (.int .i64 0), .nils, (.str []), .nils]), qi 5 0]
def f46r1 : List Abs.Op := [qa 7 9 2, qa 8 2 3, qo 9 (.bld [(.int .i64 0), (.int .i64 0), (.int .i64 0), (.int .i64 0), .nils, (.int .i64 0), (.int .i64 0), (.int .i64 0), .nils, (.str []), .nils] [(0, 9, (.t 7)), (9, 2, (.t 8))]), qo 6 (.alcv [] [(.int .i64 0), (.int .i64 0), (.int .i64 0), (.int .i64 0), .nils, (.int .i64 0), (.int .i64 0), (.int .i64 0), .nils, (.str []), .nils]), qs 6 11 6 9]
def f46r2 : List Abs.Op := [qa 10 9 2, qc 11 i_rock_Bed_valid [10], qu 12 11, qm 13 12, qg 13 false (qw 14 6 11 6), qg 13 false (qc 15 i_rock_bedded_fits [14]), qg 13 false (qu 16 15), qP 17 13 16]
def f46r3 : List Abs.Op := [qo 18 (.bld [(.int .i64 0), (.int .i64 0), (.int .i64 0), (.int .i64 0), .nils, (.int .i64 0), (.int .i64 0), (.int .i64 0), .nils, (.str []), .nils] []), qs 4 11 4 18, qi 5 1]
def f46r4 : List Abs.Op := [qw 19 6 11 6, qs 4 11 4 19, qi 5 0]
def a_rock_bed : Ann := ⟨[(4, [4, 5]), (3, [4, 5]), (2, [4, 6, 17]), (1, [2, 4, 6]), (0, [2, 3, 4])], [], [], [4, 6], [4, 6], [], [], [], [], [], []⟩
def f_rock_bed : Abs.Fn := ⟨2, [.v 4 true 11, .t 5],
  (.seq (.reg [2, 3, 4] f46r0) (.seq (.reg [2, 4, 6] f46r1) (.seq (.seq (.reg [4, 6, 17] f46r2) (.ite (.t 17) (.seq (.reg [4, 5] f46r3) .ret) .nop)) (.seq (.reg [4, 5] f46r4) .ret))))⟩
@[simp] theorem e46 : type_of% (show f46r0 = _ ∧ f46r1 = _ ∧ f46r2 = _ ∧ f46r3 = _ ∧ f46r4 = _ from by simp only [f46r0, f46r1, f46r2, f46r3, f46r4, qo, qm, qi, qa, qw, qx, qu, qP, qs, qc, qg, List.map_cons, List.map_nil]; exact ⟨rfl, rfl, rfl, rfl, rfl⟩) := ⟨rfl, rfl, rfl, rfl, rfl⟩
theorem e_rock_bed : type_of% f_rock_bed.eq_1 := by_rfl f_rock_bed.eq_1
theorem ok_rock_bed : fnC Tryz.prog a_rock_bed Tryz.f46 = some f_rock_bed := by kernel_rfl

/-! 47 (fumarole/rock.Bed).plan -/
def f47r0 : List Abs.Op := [qx 2 0, qi 4 0]
def f47r1 : List Abs.Op := [qm 8 1, qe 9 8, qn 10 .gtr 9 200]
def f47r2 : List Abs.Op := [qi 4 3]
def f47r3 : List Abs.Op := [qm 11 1, qe 12 11, qi 13 0]
def f47r4 : List Abs.Op := [qk 14 .lss 13 12]
def f47r5 : List Abs.Op := [qj 15 1 11 13, ql 16 1 15, qm 6 16]
def f47r6 : List Abs.Op := [qa 17 9 2, qm 18 6, qc 19 i_rock_Bed_rates [17, 18], qm 7 19]
def f47r7 : List Abs.Op := [qm 20 7, qn 21 .neq 20 0]
def f47r8 : List Abs.Op := [qm 22 7, qm 4 22]
def f47r9 : List Abs.Op := [qn 23 .add 13 1, qm 13 23]
def f_rock_Bed_plan_l10 : Abs.Cmd :=
  (.seq (.reg [2, 11, 12, 13, 14] f47r4) (.seq (.ite (.t 14) .nop (.exit 0)) (.seq (.blk 1 (.seq (.reg [2, 6, 11, 12, 13] f47r5) (.seq (.reg [2, 7, 11, 12, 13] f47r6) (.seq (.reg [2, 7, 11, 12, 13, 21] f47r7) (.ite (.t 21) (.seq (.reg [4] f47r8) .ret) .nop))))) (.reg [2, 11, 12, 13] f47r9))))

def f47r11 : List Abs.Op := [qi 4 0]
def a_rock_Bed_plan : Ann := ⟨[(10, [4]), (9, [2, 11, 12, 13]), (8, [4]), (7, [2, 7, 11, 12, 13, 21]), (6, [2, 7, 11, 12, 13]), (5, [2, 6, 11, 12, 13]), (4, [2, 11, 12, 13, 14]), (3, [2, 11, 12, 13]), (2, [4]), (1, [1, 2, 10]), (0, [1, 2])], [(0, [2, 11, 12, 13])], [], [], [], [], [], [], [], [], []⟩
def f_rock_Bed_plan : Abs.Fn := ⟨2, [.t 4],
  (.seq (.reg [1, 2] f47r0) (.seq (.seq (.reg [1, 2, 10] f47r1) (.ite (.t 10) (.seq (.reg [4] f47r2) .ret) .nop)) (.seq (.seq (.reg [2, 11, 12, 13] f47r3) (.blk 0 (.loop [2, 11, 12, 13] false f_rock_Bed_plan_l10))) (.seq (.reg [4] f47r11) .ret))))⟩
@[simp] theorem e47 : type_of% (show f47r0 = _ ∧ f47r1 = _ ∧ f47r2 = _ ∧ f47r3 = _ ∧ f47r4 = _ ∧ f47r5 = _ ∧ f47r6 = _ ∧ f47r7 = _ ∧ f47r8 = _ ∧ f47r9 = _ ∧ f47r11 = _ from by simp only [f47r0, f47r1, f47r2, f47r3, f47r4, f47r5, f47r6, f47r7, f47r8, f47r9, f47r11, qm, qi, ql, qa, qx, qe, qj, qk, qn, qc, List.map_cons, List.map_nil]; exact ⟨rfl, rfl, rfl, rfl, rfl, rfl, rfl, rfl, rfl, rfl, rfl⟩) := ⟨rfl, rfl, rfl, rfl, rfl, rfl, rfl, rfl, rfl, rfl, rfl⟩
theorem e_rock_Bed_plan_l10 : type_of% f_rock_Bed_plan_l10.eq_1 := by_rfl f_rock_Bed_plan_l10.eq_1
theorem e_rock_Bed_plan : type_of% f_rock_Bed_plan.eq_1 := by_rfl f_rock_Bed_plan.eq_1
theorem ok_rock_Bed_plan : fnC Tryz.prog a_rock_Bed_plan Tryz.f47 = some f_rock_Bed_plan := by kernel_rfl

/-! 48 (fumarole/rock.bedded).run -/
def f48r0 : List Abs.Op := [qx 2 0, qo 4 (.alcv [(0, 1), (1, 1)] [.nils, .nils])]
def f48r1 : List Abs.Op := [qa 10 11 2, qc 11 i_rock_bedded_first [10], qo 12 (.bsm 1 1 [.nils] [(0, 1, (.t 11))]), qf 13 0 4, ⟨none, none, false, .stv 4 [(0, 1), (1, 1)] 1 13 (.t 12)⟩]
def f48r2 : List Abs.Op := [qm 14 1, qe 15 14, qi 16 0]
def f48r3 : List Abs.Op := [qk 17 .lss 16 15]
def f48r4 : List Abs.Op := [qm 18 16, qj 19 1 14 16, ql 20 1 19, qm 5 18, qm 6 20]
def f48r5 : List Abs.Op := [qA 22 11 2, qF 23 0 4, qV 24 4 1 23, qM 25 5, qJ 26 1 24 25, qL 27 1 26, qM 28 6, qC 29 i_rock_bedded_tick [22, 27, 28], qM 21 29, qZ 30 21 0, qZ 31 21 1, qZ 32 21 2, qM 7 30, qM 8 31, qm 9 32]
def f48r6 : List Abs.Op := [qm 33 9, qn 34 .neq 33 0]
def f48r7 : List Abs.Op := [qo 35 (.bld [] []), qo 36 (.mki 205 (.t 35))]
def f48r8 : List Abs.Op := []
def f48r9 : List Abs.Op := [qF 37 0 4, qV 38 4 1 37, qM 39 7, qO 40 (.bsi 1 1 [.nils] [(0, 1, (.t 39))]), qO 41 (.app 1 24 (.t 38) (.t 40)), qF 42 1 4, qV 43 4 1 42, qM 44 8, qO 45 (.bsi 1 1 [.nils] [(0, 1, (.t 44))]), qO 46 (.app 1 24 (.t 43) (.t 45)), qF 47 0 4, ⟨none, none, false, .stv 4 [(0, 1), (1, 1)] 1 47 (.t 41)⟩, qf 48 1 4, ⟨none, none, false, .stv 4 [(0, 1)] 1 48 (.t 46)⟩]
def f48r10 : List Abs.Op := [qn 49 .add 16 1, qm 16 49]
def f_rock_bedded_run_l11 : Abs.Cmd :=
  (.seq (.reg [2, 4, 14, 15, 16, 17] f48r3) (.seq (.ite (.t 17) .nop (.exit 0)) (.seq (.blk 1 (.seq (.reg [2, 4, 5, 6, 14, 15, 16] f48r4) (.seq (.reg [2, 4, 7, 8, 9, 14, 15, 16] f48r5) (.seq (.seq (.reg [2, 4, 7, 8, 14, 15, 16, 34] f48r6) (.ite (.t 34) (.treg [2, 4, 7, 8, 14, 15, 16] f48r7 ⟨none, none, false, .pan (.t 36)⟩ f48r8) .nop)) (.reg [2, 4, 14, 15, 16] f48r9))))) (.reg [2, 4, 14, 15, 16] f48r10))))

def f48r12 : List Abs.Op := [qw 50 4 2 4, ⟨none, none, false, .stv 4 [(0, 1), (1, 1)] 2 4 (.t 50)⟩]
def a_rock_bedded_run : Ann := ⟨[(10, [4]), (9, [2, 4, 14, 15, 16]), (8, [2, 4, 14, 15, 16]), (7, [2, 4, 7, 8, 14, 15, 16]), (6, [2, 4, 7, 8, 14, 15, 16, 34]), (5, [2, 4, 7, 8, 9, 14, 15, 16]), (4, [2, 4, 5, 6, 14, 15, 16]), (3, [2, 4, 14, 15, 16, 17]), (2, [2, 4, 14, 15, 16]), (1, [1, 2, 4]), (0, [1, 2, 4])], [(0, [2, 4, 14, 15, 16])], [], [4, 12], [4], [(1, [(0, 1), (1, 1)]), (1004, [(0, 1), (1, 1)]), (8011, [(0, 1), (1, 1)]), (8013, [(0, 1)]), (10001, [(0, 1), (1, 1)])], [], [], [], [], [(7, some 2)]⟩
def f_rock_bedded_run : Abs.Fn := ⟨2, [.v 4 true 2],
  (.seq (.reg [1, 2, 4] f48r0) (.seq (.reg [1, 2, 4] f48r1) (.seq (.seq (.reg [2, 4, 14, 15, 16] f48r2) (.blk 0 (.loop [2, 4, 14, 15, 16] false f_rock_bedded_run_l11))) (.seq (.reg [4] f48r12) .ret))))⟩
@[simp] theorem e48 : type_of% (show f48r0 = _ ∧ f48r1 = _ ∧ f48r2 = _ ∧ f48r3 = _ ∧ f48r4 = _ ∧ f48r5 = _ ∧ f48r6 = _ ∧ f48r7 = _ ∧ f48r8 = _ ∧ f48r9 = _ ∧ f48r10 = _ ∧ f48r12 = _ from by simp only [f48r0, f48r1, f48r2, f48r3, f48r4, f48r5, f48r6, f48r7, f48r8, f48r9, f48r10, f48r12, qo, qO, qm, qM, qi, qf, qF, ql, qL, qa, qA, qV, qw, qx, qe, qj, qJ, qk, qn, qZ, qc, qC, List.map_cons, List.map_nil]; exact ⟨rfl, rfl, rfl, rfl, rfl, rfl, rfl, rfl, rfl, rfl, rfl, rfl⟩) := ⟨rfl, rfl, rfl, rfl, rfl, rfl, rfl, rfl, rfl, rfl, rfl, rfl⟩
theorem e_rock_bedded_run_l11 : type_of% f_rock_bedded_run_l11.eq_1 := by_rfl f_rock_bedded_run_l11.eq_1
theorem e_rock_bedded_run : type_of% f_rock_bedded_run.eq_1 := by_rfl f_rock_bedded_run.eq_1
theorem ok_rock_bedded_run : fnC Tryz.prog a_rock_bedded_run Tryz.f48 = some f_rock_bedded_run := by kernel_rfl

/-! 49 (fumarole/steam.Table).valid -/
def f49r0 : List Abs.Op := [qb 2 false]
def f49r1 : List Abs.Op := [qm 6 0, qe 7 6, qo 8 (.call false (.c (.fn i_steam_within [] [])) [(.t 7), (.c (.int .i64 2)), (.c (.int .i64 20))]), qu 9 8, qm 10 9, qg 10 false (qm 11 0), qg 10 false (qo 12 (.call false (.c (.fn i_steam_all_steam_Row [] [])) [(.t 11), (.c (.fn i_steam_Row_alone [] []))])), qg 10 false (qu 13 12), qP 14 10 13]
def f49r2 : List Abs.Op := [qb 2 false]
def f49r3 : List Abs.Op := [qm 15 0, qo 16 (.slc 5 (.t 15) (some (.c (.int .i64 1))) none none), qe 17 16, qi 18 0]
def f49r4 : List Abs.Op := [qk 19 .lss 18 17]
def f49r5 : List Abs.Op := [qm 20 18, qj 21 5 16 18, qa 22 5 21, qo 4 (.alcv [] [(.int .i64 0), (.int .i64 0), (.int .i64 0), (.int .i64 0), (.int .i64 0)]), qm 3 20, qs 4 5 4 22]
def f49r6 : List Abs.Op := [qm 23 0, qm 24 3, qj 25 5 23 24, qa 26 5 25, qo 5 (.alcv [] [(.int .i64 0), (.int .i64 0), (.int .i64 0), (.int .i64 0), (.int .i64 0)]), qs 5 5 5 26]
def f49r7 : List Abs.Op := [qf 27 0 4, qv 28 4 1 27, qf 29 0 5, qv 30 5 1 29, qk 31 .leq 28 30, qm 32 31, qg 32 false (qf 33 1 4), qg 32 false (qv 34 4 1 33), qg 32 false (qf 35 1 5), qg 32 false (qv 36 5 1 35), qg 32 false (qk 37 .leq 34 36), qP 38 32 37, qm 39 38, qg 39 false (qf 40 2 4), qg 39 false (qv 41 4 1 40), qg 39 false (qf 42 2 5), qg 39 false (qv 43 5 1 42), qg 39 false (qk 44 .leq 41 43), qP 45 39 44, qm 46 45, qg 46 false (qf 47 4 4), qg 46 false (qv 48 4 1 47), qg 46 false (qf 49 4 5), qg 46 false (qv 50 5 1 49), qg 46 false (qk 51 .lss 48 50), qP 52 46 51]
def f49r8 : List Abs.Op := [qb 2 false]
def f49r9 : List Abs.Op := [qn 53 .add 18 1, qm 18 53]
def f_steam_Table_valid_l10 : Abs.Cmd :=
  (.seq (.reg [0, 16, 17, 18, 19] f49r4) (.seq (.ite (.t 19) .nop (.exit 0)) (.seq (.blk 1 (.seq (.reg [0, 3, 4, 16, 17, 18] f49r5) (.seq (.reg [0, 4, 5, 16, 17, 18] f49r6) (.seq (.reg [0, 16, 17, 18, 52] f49r7) (.ite (.t 52) (.seq (.reg [2] f49r8) .ret) .nop))))) (.reg [0, 16, 17, 18] f49r9))))

def f49r11 : List Abs.Op := [qb 2 true]
def a_steam_Table_valid : Ann := ⟨[(10, [2]), (9, [0, 16, 17, 18]), (8, [2]), (7, [0, 16, 17, 18, 52]), (6, [0, 4, 5, 16, 17, 18]), (5, [0, 3, 4, 16, 17, 18]), (4, [0, 16, 17, 18, 19]), (3, [0, 16, 17, 18]), (2, [2]), (1, [0, 14]), (0, [0])], [(0, [0, 16, 17, 18])], [], [4, 5], [4, 5], [], [], [], [], [], []⟩
def f_steam_Table_valid : Abs.Fn := ⟨1, [.t 2],
  (.seq (.reg [0] f49r0) (.seq (.seq (.reg [0, 14] f49r1) (.ite (.t 14) (.seq (.reg [2] f49r2) .ret) .nop)) (.seq (.seq (.reg [0, 16, 17, 18] f49r3) (.blk 0 (.loop [0, 16, 17, 18] false f_steam_Table_valid_l10))) (.seq (.reg [2] f49r11) .ret))))⟩
@[simp] theorem e49 : type_of% (show f49r0 = _ ∧ f49r1 = _ ∧ f49r2 = _ ∧ f49r3 = _ ∧ f49r4 = _ ∧ f49r5 = _ ∧ f49r6 = _ ∧ f49r7 = _ ∧ f49r8 = _ ∧ f49r9 = _ ∧ f49r11 = _ from by simp only [f49r0, f49r1, f49r2, f49r3, f49r4, f49r5, f49r6, f49r7, f49r8, f49r9, f49r11, qo, qm, qi, qb, qf, qa, qv, qe, qj, qk, qn, qu, qP, qs, qg]; exact ⟨rfl, rfl, rfl, rfl, rfl, rfl, rfl, rfl, rfl, rfl, rfl⟩) := ⟨rfl, rfl, rfl, rfl, rfl, rfl, rfl, rfl, rfl, rfl, rfl⟩
theorem e_steam_Table_valid_l10 : type_of% f_steam_Table_valid_l10.eq_1 := by_rfl f_steam_Table_valid_l10.eq_1
theorem e_steam_Table_valid : type_of% f_steam_Table_valid.eq_1 := by_rfl f_steam_Table_valid.eq_1
theorem ok_steam_Table_valid : fnC Tryz.prog a_steam_Table_valid Tryz.f49 = some f_steam_Table_valid := by kernel_rfl

/-! 51 fumarole/steam.within -/
def f51r0 : List Abs.Op := [qb 6 false]
def f51r1 : List Abs.Op := [qm 7 1, qm 8 0, qk 9 .leq 7 8, qm 10 9, qg 10 true (qm 11 0), qg 10 true (qm 12 2), qg 10 true (qk 13 .leq 11 12), qp 14 10 13, qm 6 14]
def a_steam_within : Ann := ⟨[(1, [6]), (0, [0, 1, 2])], [], [], [], [], [], [], [], [], [], []⟩
def f_steam_within : Abs.Fn := ⟨3, [.t 6],
  (.seq (.reg [0, 1, 2] f51r0) (.seq (.reg [6] f51r1) .ret))⟩
@[simp] theorem e51 : type_of% (show f51r0 = _ ∧ f51r1 = _ from by simp only [f51r0, f51r1, qm, qb, qk, qp, qg]; exact ⟨rfl, rfl⟩) := ⟨rfl, rfl⟩
theorem e_steam_within : type_of% f_steam_within.eq_1 := by_rfl f_steam_within.eq_1
theorem ok_steam_within : fnC Tryz.prog a_steam_within Tryz.f51 = some f_steam_within := by kernel_rfl

/-! 56 fumarole/fumaroleref02.MeasureFault -/
def f56r0 : List Abs.Op := [qx 2 0, qx 3 1, qi 4 0]
def f56r1 : List Abs.Op := [qf 5 0 3, ql 6 1 5, qc 7 i_ref02_Name [6], qu 8 7]
def f56r2 : List Abs.Op := [qi 4 5]
def f56r3 : List Abs.Op := [qa 9 4 2, qf 10 1 3, ql 11 1 10, qf 12 2 3, ql 13 1 12, qf 14 3 3, ql 15 1 14, qc 16 i_ref02_sums [9, 11, 13, 15], qu 17 16, qm 18 17, qg 18 false (qf 19 4 3), qg 18 false (qa 20 2 19), qg 18 false (qc 21 i_ref02_Ends [20]), qg 18 false (qu 22 21), qP 23 18 22]
def f56r4 : List Abs.Op := [qi 4 1]
def f56r5 : List Abs.Op := [qi 4 0]
def a_ref02_MeasureFault : Ann := ⟨[(5, [4]), (4, [4]), (3, [23]), (2, [4]), (1, [2, 3, 8]), (0, [2, 3])], [], [], [], [], [], [], [], [], [], []⟩
def f_ref02_MeasureFault : Abs.Fn := ⟨2, [.t 4],
  (.seq (.reg [2, 3] f56r0) (.seq (.seq (.reg [2, 3, 8] f56r1) (.ite (.t 8) (.seq (.reg [4] f56r2) .ret) .nop)) (.seq (.seq (.reg [23] f56r3) (.ite (.t 23) (.seq (.reg [4] f56r4) .ret) .nop)) (.seq (.reg [4] f56r5) .ret))))⟩
@[simp] theorem e56 : type_of% (show f56r0 = _ ∧ f56r1 = _ ∧ f56r2 = _ ∧ f56r3 = _ ∧ f56r4 = _ ∧ f56r5 = _ from by simp only [f56r0, f56r1, f56r2, f56r3, f56r4, f56r5, qm, qi, qf, ql, qa, qx, qu, qP, qc, qg, List.map_cons, List.map_nil]; exact ⟨rfl, rfl, rfl, rfl, rfl, rfl⟩) := ⟨rfl, rfl, rfl, rfl, rfl, rfl⟩
theorem e_ref02_MeasureFault : type_of% f_ref02_MeasureFault.eq_1 := by_rfl f_ref02_MeasureFault.eq_1
theorem ok_ref02_MeasureFault : fnC Tryz.prog a_ref02_MeasureFault Tryz.f56 = some f_ref02_MeasureFault := by kernel_rfl

/-! 57 fumarole/fumaroleref01.In -/
def f57r0 : List Abs.Op := [qb 6 false]
def f57r1 : List Abs.Op := [qm 7 0, qm 8 1, qk 9 .geq 7 8, qm 10 9, qg 10 true (qm 11 0), qg 10 true (qm 12 2), qg 10 true (qk 13 .leq 11 12), qp 14 10 13, qm 6 14]
def a_ref01_In : Ann := ⟨[(1, [6]), (0, [0, 1, 2])], [], [], [], [], [], [], [], [], [], []⟩
def f_ref01_In : Abs.Fn := ⟨3, [.t 6],
  (.seq (.reg [0, 1, 2] f57r0) (.seq (.reg [6] f57r1) .ret))⟩
@[simp] theorem e57 : type_of% (show f57r0 = _ ∧ f57r1 = _ from by simp only [f57r0, f57r1, qm, qb, qk, qp, qg]; exact ⟨rfl, rfl⟩) := ⟨rfl, rfl⟩
theorem e_ref01_In : type_of% f_ref01_In.eq_1 := by_rfl f_ref01_In.eq_1
theorem ok_ref01_In : fnC Tryz.prog a_ref01_In Tryz.f57 = some f_ref01_In := by kernel_rfl

/-! 58 fumarole/fumaroleref02.Size -/
def f58r0 : List Abs.Op := [qx 1 0, qi 2 0]
def f58r1 : List Abs.Op := [qf 3 0 1, ql 4 1 3, qf 5 1 1, ql 6 1 5, qk 7 .mul 4 6, qf 8 2 1, ql 9 1 8, qk 10 .mul 7 9, qm 2 10]
def a_ref02_Size : Ann := ⟨[(1, [2]), (0, [1])], [], [], [], [], [], [], [], [], [], []⟩
def f_ref02_Size : Abs.Fn := ⟨1, [.t 2],
  (.seq (.reg [1] f58r0) (.seq (.reg [2] f58r1) .ret))⟩
@[simp] theorem e58 : type_of% (show f58r0 = _ ∧ f58r1 = _ from by simp only [f58r0, f58r1, qm, qi, qf, ql, qx, qk]; exact ⟨rfl, rfl⟩) := ⟨rfl, rfl⟩
theorem e_ref02_Size : type_of% f_ref02_Size.eq_1 := by_rfl f_ref02_Size.eq_1
theorem ok_ref02_Size : fnC Tryz.prog a_ref02_Size Tryz.f58 = some f_ref02_Size := by kernel_rfl

/-! 59 fumarole/field.both -/
def f59r0 : List Abs.Op := [qx 3 0, qx 4 1, qx 5 2, qi 6 0]
def f59r1 : List Abs.Op := [qa 7 4 3, qo 8 (.mkf i_field_Field_shape [(.t 7)] []), qo 9 (.mkf i_field_both_1 [] [(.t 3), (.t 4)]), qo 10 (.mkf i_field_both_2 [] [(.t 3), (.t 5)]), qo 11 (.bsi 3 1 [.nilf, .nilf, .nilf] [(0, 1, (.t 8)), (1, 1, (.t 9)), (2, 1, (.t 10))]), qc 12 i_field_first [11], qm 6 12]
def a_field_both : Ann := ⟨[(1, [6]), (0, [3, 4, 5])], [], [], [], [], [], [], [], [], [], []⟩
def f_field_both : Abs.Fn := ⟨3, [.t 6],
  (.seq (.reg [3, 4, 5] f59r0) (.seq (.reg [6] f59r1) .ret))⟩
@[simp] theorem e59 : type_of% (show f59r0 = _ ∧ f59r1 = _ from by simp only [f59r0, f59r1, qo, qm, qi, qa, qx, qc, List.map_cons, List.map_nil]; exact ⟨rfl, rfl⟩) := ⟨rfl, rfl⟩
theorem e_field_both : type_of% f_field_both.eq_1 := by_rfl f_field_both.eq_1
theorem ok_field_both : fnC Tryz.prog a_field_both Tryz.f59 = some f_field_both := by kernel_rfl

/-! 60 (fumarole/field.Field).misses -/
def f60r0 : List Abs.Op := [qx 3 0, qx 4 1, qo 6 (.mv (.c .nils))]
def f60r1 : List Abs.Op := [qm 10 2, qe 11 10, qo 12 (.mks 1 8 [(.int .i64 0)] (.t 11) (.t 11)), qm 7 12]
def f60r2 : List Abs.Op := [qm 13 2, qe 14 13, qi 15 0]
def f60r3 : List Abs.Op := [qk 16 .lss 15 14]
def f60r4 : List Abs.Op := [qm 17 15, qj 18 6 13 15, qa 19 6 18, qo 9 (.alcv [] [(.str []), (.int .i64 0), .nils, .nils, (.int .i64 0), (.int .i64 0)]), qm 8 17, qs 9 6 9 19]
def f60r5 : List Abs.Op := [qM 20 7, qM 21 8, qF 22 4 9, qW 23 9 2 22, qA 24 4 3, qW 25 9 6 9, qC 26 i_field_Field_weighs [24, 25], qA 27 2 4, qO 28 (.call false (.t 26) [(.t 27)]), qC 29 i_field_Range_miss [23, 28], qj 30 1 20 21, qt 1 30 29]
def f60r6 : List Abs.Op := [qn 31 .add 15 1, qm 15 31]
def f_field_Field_misses_l7 : Abs.Cmd :=
  (.seq (.reg [3, 4, 7, 13, 14, 15, 16] f60r3) (.seq (.ite (.t 16) .nop (.exit 0)) (.seq (.blk 1 (.seq (.reg [3, 4, 7, 8, 9, 13, 14, 15] f60r4) (.reg [3, 4, 7, 13, 14, 15] f60r5))) (.reg [3, 4, 7, 13, 14, 15] f60r6))))

def f60r8 : List Abs.Op := [qm 32 7, qm 6 32]
def a_field_Field_misses : Ann := ⟨[(7, [6]), (6, [3, 4, 7, 13, 14, 15]), (5, [3, 4, 7, 13, 14, 15]), (4, [3, 4, 7, 8, 9, 13, 14, 15]), (3, [3, 4, 7, 13, 14, 15, 16]), (2, [3, 4, 7, 13, 14, 15]), (1, [2, 3, 4, 7]), (0, [2, 3, 4])], [(0, [3, 4, 7, 13, 14, 15])], [], [9], [9], [], [], [], [], [], []⟩
def f_field_Field_misses : Abs.Fn := ⟨3, [.t 6],
  (.seq (.reg [2, 3, 4] f60r0) (.seq (.reg [2, 3, 4, 7] f60r1) (.seq (.seq (.reg [3, 4, 7, 13, 14, 15] f60r2) (.blk 0 (.loop [3, 4, 7, 13, 14, 15] false f_field_Field_misses_l7))) (.seq (.reg [6] f60r8) .ret))))⟩
@[simp] theorem e60 : type_of% (show f60r0 = _ ∧ f60r1 = _ ∧ f60r2 = _ ∧ f60r3 = _ ∧ f60r4 = _ ∧ f60r5 = _ ∧ f60r6 = _ ∧ f60r8 = _ from by simp only [f60r0, f60r1, f60r2, f60r3, f60r4, f60r5, f60r6, f60r8, qo, qO, qm, qM, qi, qF, qa, qA, qW, qx, qe, qj, qk, qn, qs, qt, qC, List.map_cons, List.map_nil]; exact ⟨rfl, rfl, rfl, rfl, rfl, rfl, rfl, rfl⟩) := ⟨rfl, rfl, rfl, rfl, rfl, rfl, rfl, rfl⟩
theorem e_field_Field_misses_l7 : type_of% f_field_Field_misses_l7.eq_1 := by_rfl f_field_Field_misses_l7.eq_1
theorem e_field_Field_misses : type_of% f_field_Field_misses.eq_1 := by_rfl f_field_Field_misses.eq_1
theorem ok_field_Field_misses : fnC Tryz.prog a_field_Field_misses Tryz.f60 = some f_field_Field_misses := by kernel_rfl

/-! 61 slices.IndexFunc[[]int,int] -/
def f61r0 : List Abs.Op := [qi 4 0]
def f61r1 : List Abs.Op := [qm 6 0, qe 7 6, qi 8 0]
def f61r2 : List Abs.Op := [qk 9 .lss 8 7]
def f61r3 : List Abs.Op := [qm 10 8, qm 5 10]
def f61r4 : List Abs.Op := [qm 11 1, qm 12 0, qm 13 5, qj 14 1 12 13, ql 15 1 14, qo 16 (.call false (.t 11) [(.t 15)])]
def f61r5 : List Abs.Op := [qm 17 5, qm 4 17]
def f61r6 : List Abs.Op := [qn 18 .add 8 1, qm 8 18]
def f_slices_IndexFunc_int_l7 : Abs.Cmd :=
  (.seq (.reg [0, 1, 7, 8, 9] f61r2) (.seq (.ite (.t 9) .nop (.exit 0)) (.seq (.blk 1 (.seq (.reg [0, 1, 5, 7, 8] f61r3) (.seq (.reg [0, 1, 5, 7, 8, 16] f61r4) (.ite (.t 16) (.seq (.reg [4] f61r5) .ret) .nop)))) (.reg [0, 1, 7, 8] f61r6))))

def f61r8 : List Abs.Op := [qi 4 (-1)]
def a_slices_IndexFunc_int : Ann := ⟨[(7, [4]), (6, [0, 1, 7, 8]), (5, [4]), (4, [0, 1, 5, 7, 8, 16]), (3, [0, 1, 5, 7, 8]), (2, [0, 1, 7, 8, 9]), (1, [0, 1, 7, 8]), (0, [0, 1])], [(0, [0, 1, 7, 8])], [], [], [], [], [], [], [], [], []⟩
def f_slices_IndexFunc_int : Abs.Fn := ⟨2, [.t 4],
  (.seq (.reg [0, 1] f61r0) (.seq (.seq (.reg [0, 1, 7, 8] f61r1) (.blk 0 (.loop [0, 1, 7, 8] false f_slices_IndexFunc_int_l7))) (.seq (.reg [4] f61r8) .ret)))⟩
@[simp] theorem e61 : type_of% (show f61r0 = _ ∧ f61r1 = _ ∧ f61r2 = _ ∧ f61r3 = _ ∧ f61r4 = _ ∧ f61r5 = _ ∧ f61r6 = _ ∧ f61r8 = _ from by simp only [f61r0, f61r1, f61r2, f61r3, f61r4, f61r5, f61r6, f61r8, qo, qm, qi, ql, qe, qj, qk, qn]; exact ⟨rfl, rfl, rfl, rfl, rfl, rfl, rfl, rfl⟩) := ⟨rfl, rfl, rfl, rfl, rfl, rfl, rfl, rfl⟩
theorem e_slices_IndexFunc_int_l7 : type_of% f_slices_IndexFunc_int_l7.eq_1 := by_rfl f_slices_IndexFunc_int_l7.eq_1
theorem e_slices_IndexFunc_int : type_of% f_slices_IndexFunc_int.eq_1 := by_rfl f_slices_IndexFunc_int.eq_1
theorem ok_slices_IndexFunc_int : fnC Tryz.prog a_slices_IndexFunc_int Tryz.f61 = some f_slices_IndexFunc_int := by kernel_rfl

/-! 62 fumarole/field.Strikes$1 -/
def f62r0 : List Abs.Op := [qb 2 false]
def f62r1 : List Abs.Op := [qm 3 0, qn 4 .neq 3 0, qm 2 4]
def a_field_Strikes_1 : Ann := ⟨[(1, [2]), (0, [0])], [], [], [], [], [], [], [], [], [], []⟩
def f_field_Strikes_1 : Abs.Fn := ⟨1, [.t 2],
  (.seq (.reg [0] f62r0) (.seq (.reg [2] f62r1) .ret))⟩
@[simp] theorem e62 : type_of% (show f62r0 = _ ∧ f62r1 = _ from by simp only [f62r0, f62r1, qm, qb, qn]; exact ⟨rfl, rfl⟩) := ⟨rfl, rfl⟩
theorem e_field_Strikes_1 : type_of% f_field_Strikes_1.eq_1 := by_rfl f_field_Strikes_1.eq_1
theorem ok_field_Strikes_1 : fnC Tryz.prog a_field_Strikes_1 Tryz.f62 = some f_field_Strikes_1 := by kernel_rfl

/-! 63 fumarole/fumarolelaw02.Measure -/
def f63r0 : List Abs.Op := [qx 1 0, qo 2 (.alcv [] [(.str []), (.int .i64 0), .nils, .nils, (.int .i64 0), (.int .i64 0)])]
def f63r1 : List Abs.Op := [qF 3 0 1, qO 4 (.ldi false 1 (.t 3)), qF 5 1 1, qO 6 (.ldi false 1 (.t 5)), qO 7 (.bse), qF 8 2 1, qO 9 (.ldi false 1 (.t 8)), qo 10 (.ape 1 8 7 (.t 9)), qO 11 (.bse), qF 12 3 1, qO 13 (.ldi false 1 (.t 12)), qo 14 (.ape 1 8 11 (.t 13)), qF 15 4 1, qO 16 (.ldi true 2 (.t 15)), qC 17 i_law02_Range [16], qo 18 (.bld [(.str []), (.int .i64 0), .nils, .nils, (.int .i64 0), (.int .i64 0)] [(0, 1, (.t 4)), (1, 1, (.t 6)), (2, 1, (.t 10)), (3, 1, (.t 14)), (4, 2, (.t 17))]), qs 2 6 2 18]
def a_law02_Measure : Ann := ⟨[(1, [2]), (0, [1, 2])], [], [], [2, 7, 11], [2], [], [1007, 1011, 1001004, 1001007, 1001008, 1001011], [], [1], [], []⟩
def f_law02_Measure : Abs.Fn := ⟨1, [.v 2 true 6],
  (.seq (.reg [1, 2] f63r0) (.seq (.reg [2] f63r1) .ret))⟩
@[simp] theorem e63 : type_of% (show f63r0 = _ ∧ f63r1 = _ from by simp only [f63r0, f63r1, qo, qO, qF, qx, qs, qC, List.map_cons, List.map_nil]; exact ⟨rfl, rfl⟩) := ⟨rfl, rfl⟩
theorem e_law02_Measure : type_of% f_law02_Measure.eq_1 := by_rfl f_law02_Measure.eq_1
theorem ok_law02_Measure : fnC Tryz.prog a_law02_Measure Tryz.f63 = some f_law02_Measure := by kernel_rfl

/-! 64 (fumarole/rock.Bed).reading -/
def f64r0 : List Abs.Op := [qx 3 0, qx 4 1, qi 6 0]
def f64r1 : List Abs.Op := [qf 9 1 4, ql 10 1 9, qo 11 (.cvt .i64 (.t 10)), qo 12 (.call false (.c (.fn i_rock_within [] [])) [(.t 11), (.c (.int .i64 1)), (.c (.int .i64 4))]), qu 13 12, qm 14 13, qg 14 false (qf 15 3 4), qg 14 false (qf 16 0 15), qg 14 false (ql 17 1 16), qg 14 false (qn 18 .lss 17 (-10000000000)), qP 19 14 18, qm 20 19, qg 20 false (qf 21 3 4), qg 20 false (qf 22 0 21), qg 20 false (ql 23 1 22), qg 20 false (qf 24 3 4), qg 20 false (qf 25 1 24), qg 20 false (ql 26 1 25), qg 20 false (qk 27 .gtr 23 26), qP 28 20 27, qm 29 28, qg 29 false (qf 30 3 4), qg 29 false (qf 31 1 30), qg 29 false (ql 32 1 31), qg 29 false (qn 33 .gtr 32 10000000000), qP 34 29 33]
def f64r2 : List Abs.Op := [qi 6 1]
def f64r3 : List Abs.Op := [qF 35 8 3, qL 36 1 35, qE 37 36, qO 7 (.mv (.c (.int .i64 1))), qm 8 37]
def f64r4 : List Abs.Op := [qf 38 1 4, ql 39 1 38, qo 40 (.bin .eql (.t 39) (.c (.int .u8 1)))]
def f64r5 : List Abs.Op := [qa 41 9 3, qc 42 i_rock_Bed_size [41], qi 7 0, qm 8 42]
def f64r6 : List Abs.Op := [qf 43 0 4, ql 44 1 43, qm 45 7, qm 46 2, qc 47 i_rock_within [44, 45, 46], qu 48 47, qm 49 48, qg 49 false (qf 50 2 4), qg 49 false (ql 51 1 50), qg 49 false (qm 52 8), qg 49 false (qn 53 .sub 52 1), qg 49 false (qo 54 (.call false (.c (.fn i_rock_within [] [])) [(.t 51), (.c (.int .i64 0)), (.t 53)])), qg 49 false (qu 55 54), qP 56 49 55]
def f64r7 : List Abs.Op := [qi 6 2]
def f64r8 : List Abs.Op := [qi 6 0]
def a_rock_Bed_reading : Ann := ⟨[(8, [6]), (7, [6]), (6, [56]), (5, [2, 4, 7, 8]), (4, [2, 3, 4, 7, 8, 40]), (3, [2, 3, 4, 7, 8]), (2, [6]), (1, [2, 3, 4, 34]), (0, [2, 3, 4])], [], [], [], [], [], [], [], [], [], []⟩
def f_rock_Bed_reading : Abs.Fn := ⟨3, [.t 6],
  (.seq (.reg [2, 3, 4] f64r0) (.seq (.seq (.reg [2, 3, 4, 34] f64r1) (.ite (.t 34) (.seq (.reg [6] f64r2) .ret) .nop)) (.seq (.reg [2, 3, 4, 7, 8] f64r3) (.seq (.seq (.reg [2, 3, 4, 7, 8, 40] f64r4) (.ite (.t 40) (.reg [2, 4, 7, 8] f64r5) .nop)) (.seq (.seq (.reg [56] f64r6) (.ite (.t 56) (.seq (.reg [6] f64r7) .ret) .nop)) (.seq (.reg [6] f64r8) .ret))))))⟩
@[simp] theorem e64 : type_of% (show f64r0 = _ ∧ f64r1 = _ ∧ f64r2 = _ ∧ f64r3 = _ ∧ f64r4 = _ ∧ f64r5 = _ ∧ f64r6 = _ ∧ f64r7 = _ ∧ f64r8 = _ from by simp only [f64r0, f64r1, f64r2, f64r3, f64r4, f64r5, f64r6, f64r7, f64r8, qo, qO, qm, qi, qf, qF, ql, qL, qa, qx, qE, qk, qn, qu, qP, qc, qg, List.map_cons, List.map_nil]; exact ⟨rfl, rfl, rfl, rfl, rfl, rfl, rfl, rfl, rfl⟩) := ⟨rfl, rfl, rfl, rfl, rfl, rfl, rfl, rfl, rfl⟩
theorem e_rock_Bed_reading : type_of% f_rock_Bed_reading.eq_1 := by_rfl f_rock_Bed_reading.eq_1
theorem ok_rock_Bed_reading : fnC Tryz.prog a_rock_Bed_reading Tryz.f64 = some f_rock_Bed_reading := by kernel_rfl

/-! 65 (fumarole/rock.Range).miss -/
def f65r0 : List Abs.Op := [qx 2 0, qi 4 0]
def f65r1 : List Abs.Op := [qm 5 1, qf 6 1 2, ql 7 1 6, qk 8 .sub 5 7, qo 9 (.mx (.c (.int .i64 0)) (.t 8)), qm 10 1, qf 11 0 2, ql 12 1 11, qk 13 .sub 10 12, qo 14 (.mn (.c (.int .i64 0)) (.t 13)), qk 15 .add 9 14, qm 4 15]
def a_rock_Range_miss : Ann := ⟨[(1, [4]), (0, [1, 2])], [], [], [], [], [], [], [], [], [], []⟩
def f_rock_Range_miss : Abs.Fn := ⟨2, [.t 4],
  (.seq (.reg [1, 2] f65r0) (.seq (.reg [4] f65r1) .ret))⟩
@[simp] theorem e65 : type_of% (show f65r0 = _ ∧ f65r1 = _ from by simp only [f65r0, f65r1, qo, qm, qi, qf, ql, qx, qk]; exact ⟨rfl, rfl⟩) := ⟨rfl, rfl⟩
theorem e_rock_Range_miss : type_of% f_rock_Range_miss.eq_1 := by_rfl f_rock_Range_miss.eq_1
theorem ok_rock_Range_miss : fnC Tryz.prog a_rock_Range_miss Tryz.f65 = some f_rock_Range_miss := by kernel_rfl

/-! 66 (fumarole/rock.bedded).value -/
def f66r0 : List Abs.Op := [qx 3 0, qx 4 1, qx 5 2, qi 6 0]
def f66r1 : List Abs.Op := [qf 7 1 5, ql 8 1 7, qo 9 (.bin .eql (.t 8) (.c (.int .u8 1)))]
def f66r2 : List Abs.Op := [qA 10 11 3, qF 11 0 4, qL 12 1 11, qF 13 0 5, qL 14 1 13, qJ 15 1 12 14, qL 16 1 15, qF 17 2 5, qL 18 1 17, qc 19 i_rock_bedded_pressure [10, 16, 18], qm 6 19]
def f66r3 : List Abs.Op := [qC 20 i_rock_tells [], qF 21 1 5, qL 22 1 21, qO 23 (.idxV false 5 1 (.t 20) (.t 22)), qF 24 1 4, qL 25 1 24, qF 26 0 5, qL 27 1 26, qN 28 .sub 27 1, qJ 29 1 25 28, qL 30 1 29, qF 31 2 5, qL 32 1 31, qJ 33 3 30 32, qA 34 3 33, qo 35 (.call false (.t 23) [(.t 34)]), qm 6 35]
def a_rock_bedded_value : Ann := ⟨[(3, [6]), (2, [6]), (1, [3, 4, 5, 9]), (0, [3, 4, 5])], [], [], [], [], [], [], [], [], [], []⟩
def f_rock_bedded_value : Abs.Fn := ⟨3, [.t 6],
  (.seq (.reg [3, 4, 5] f66r0) (.seq (.seq (.reg [3, 4, 5, 9] f66r1) (.ite (.t 9) (.seq (.reg [6] f66r2) .ret) .nop)) (.seq (.reg [6] f66r3) .ret)))⟩
@[simp] theorem e66 : type_of% (show f66r0 = _ ∧ f66r1 = _ ∧ f66r2 = _ ∧ f66r3 = _ from by simp only [f66r0, f66r1, f66r2, f66r3, qo, qO, qm, qi, qf, qF, ql, qL, qA, qx, qJ, qN, qc, qC, List.map_cons, List.map_nil]; exact ⟨rfl, rfl, rfl, rfl⟩) := ⟨rfl, rfl, rfl, rfl⟩
theorem e_rock_bedded_value : type_of% f_rock_bedded_value.eq_1 := by_rfl f_rock_bedded_value.eq_1
theorem ok_rock_bedded_value : fnC Tryz.prog a_rock_bedded_value Tryz.f66 = some f_rock_bedded_value := by kernel_rfl

/-! 76 fumarole/rock.within -/
def f76r0 : List Abs.Op := [qb 6 false]
def f76r1 : List Abs.Op := [qm 7 1, qm 8 0, qk 9 .leq 7 8, qm 10 9, qg 10 true (qm 11 0), qg 10 true (qm 12 2), qg 10 true (qk 13 .leq 11 12), qp 14 10 13, qm 6 14]
def a_rock_within : Ann := ⟨[(1, [6]), (0, [0, 1, 2])], [], [], [], [], [], [], [], [], [], []⟩
def f_rock_within : Abs.Fn := ⟨3, [.t 6],
  (.seq (.reg [0, 1, 2] f76r0) (.seq (.reg [6] f76r1) .ret))⟩
@[simp] theorem e76 : type_of% (show f76r0 = _ ∧ f76r1 = _ from by simp only [f76r0, f76r1, qm, qb, qk, qp, qg]; exact ⟨rfl, rfl⟩) := ⟨rfl, rfl⟩
theorem e_rock_within : type_of% f_rock_within.eq_1 := by_rfl f_rock_within.eq_1
theorem ok_rock_within : fnC Tryz.prog a_rock_within Tryz.f76 = some f_rock_within := by kernel_rfl

/-! 79 fumarole/fumaroleref02.Right -/
def f79r0 : List Abs.Op := [qx 1 0, qb 2 false]
def f79r1 : List Abs.Op := [qf 3 0 1, ql 4 1 3, qo 5 (.call false (.c (.fn i_ref02_In [] [])) [(.t 4), (.c (.int .i64 1)), (.c (.int .i64 8))]), qm 6 5, qg 6 true (qf 7 1 1), qg 6 true (ql 8 1 7), qg 6 true (qo 9 (.call false (.c (.fn i_ref02_In [] [])) [(.t 8), (.c (.int .i64 1)), (.c (.int .i64 8))])), qp 10 6 9, qm 11 10, qg 11 true (qf 12 2 1), qg 11 true (ql 13 1 12), qg 11 true (qo 14 (.call false (.c (.fn i_ref02_In [] [])) [(.t 13), (.c (.int .i64 1)), (.c (.int .i64 8))])), qp 15 11 14, qm 16 15, qg 16 true (qf 17 0 1), qg 16 true (ql 18 1 17), qg 16 true (qf 19 1 1), qg 16 true (ql 20 1 19), qg 16 true (qk 21 .mul 18 20), qg 16 true (qf 22 2 1), qg 16 true (ql 23 1 22), qg 16 true (qk 24 .mul 21 23), qg 16 true (qn 25 .leq 24 64), qp 26 16 25, qm 27 26, qg 27 true (qf 28 3 1), qg 27 true (ql 29 1 28), qg 27 true (qo 30 (.call false (.c (.fn i_ref02_In [] [])) [(.t 29), (.c (.int .i64 1)), (.c (.int .i64 6))])), qp 31 27 30, qm 2 31]
def a_ref02_Right : Ann := ⟨[(1, [2]), (0, [1])], [], [], [], [], [], [], [], [], [], []⟩
def f_ref02_Right : Abs.Fn := ⟨1, [.t 2],
  (.seq (.reg [1] f79r0) (.seq (.reg [2] f79r1) .ret))⟩
@[simp] theorem e79 : type_of% (show f79r0 = _ ∧ f79r1 = _ from by simp only [f79r0, f79r1, qo, qm, qb, qf, ql, qx, qk, qn, qp, qg]; exact ⟨rfl, rfl⟩) := ⟨rfl, rfl⟩
theorem e_ref02_Right : type_of% f_ref02_Right.eq_1 := by_rfl f_ref02_Right.eq_1
theorem ok_ref02_Right : fnC Tryz.prog a_ref02_Right Tryz.f79 = some f_ref02_Right := by kernel_rfl

/-! 80 fumarole/fumaroleref01.Right -/
def f80r0 : List Abs.Op := [qb 2 false]
def f80r1 : List Abs.Op := [qi 3 0]
def f80r2 : List Abs.Op := [qm 5 3, qm 6 0, qe 7 6, qk 8 .lss 5 7]
def f80r3 : List Abs.Op := [qm 11 0, qm 12 3, qj 13 5 11 12, qa 14 5 13, qo 4 (.alcv [] [(.int .i64 0), (.int .i64 0), (.int .i64 0), (.int .i64 0), (.int .i64 0)]), qs 4 5 4 14]
def f80r4 : List Abs.Op := [qf 15 0 4, qv 16 4 1 15, qo 17 (.call false (.c (.fn i_ref01_In [] [])) [(.t 16), (.c (.int .i64 0)), (.c (.int .i64 400))]), qu 18 17, qm 19 18, qg 19 false (qf 20 1 4), qg 19 false (qv 21 4 1 20), qg 19 false (qo 22 (.call false (.c (.fn i_ref01_In [] [])) [(.t 21), (.c (.int .i64 1)), (.c (.int .i64 10000))])), qg 19 false (qu 23 22), qP 24 19 23, qm 25 24, qg 25 false (qf 26 2 4), qg 25 false (qv 27 4 1 26), qg 25 false (qo 28 (.call false (.c (.fn i_ref01_In [] [])) [(.t 27), (.c (.int .i64 0)), (.c (.int .i64 4000))])), qg 25 false (qu 29 28), qP 30 25 29, qm 31 30, qg 31 false (qf 32 4 4), qg 31 false (qv 33 4 1 32), qg 31 false (qo 34 (.call false (.c (.fn i_ref01_In [] [])) [(.t 33), (.c (.int .i64 0)), (.c (.int .i64 2000))])), qg 31 false (qu 35 34), qP 36 31 35, qm 37 36, qg 37 false (qf 38 3 4), qg 37 false (qv 39 4 1 38), qg 37 false (qf 40 2 4), qg 37 false (qv 41 4 1 40), qg 37 false (qk 42 .leq 39 41), qP 43 37 42, qm 44 43, qg 44 false (qf 45 3 4), qg 44 false (qv 46 4 1 45), qg 44 false (qn 47 .gtr 46 4000), qP 48 44 47]
def f80r5 : List Abs.Op := [qb 2 false]
def f80r6 : List Abs.Op := [qM 49 3, qN 50 .gtr 49 0, qM 51 50, qg 51 true (qF 52 0 4), qg 51 true (qV 53 4 1 52), qg 51 true (qM 54 0), qg 51 true (qM 55 3), qg 51 true (qN 56 .sub 55 1), qg 51 true (qJ 57 5 54 56), qg 51 true (qF 58 0 57), qg 51 true (qL 59 1 58), qg 51 true (qK 60 .leq 53 59), qg 51 true (qM 61 60), qg 61 false (qF 62 1 4), qg 61 false (qV 63 4 1 62), qg 61 false (qM 64 0), qg 61 false (qM 65 3), qg 61 false (qN 66 .sub 65 1), qg 61 false (qJ 67 5 64 66), qg 61 false (qF 68 1 67), qg 61 false (qL 69 1 68), qg 61 false (qK 70 .leq 63 69), qg 51 true (qO 71 (.pick (.t 61) (.c (.bool true)) (.t 70))), qg 51 true (qM 72 71), qg 72 false (qF 73 2 4), qg 72 false (qV 74 4 1 73), qg 72 false (qM 75 0), qg 72 false (qM 76 3), qg 72 false (qN 77 .sub 76 1), qg 72 false (qJ 78 5 75 77), qg 72 false (qF 79 2 78), qg 72 false (qL 80 1 79), qg 72 false (qK 81 .leq 74 80), qg 51 true (qO 82 (.pick (.t 72) (.c (.bool true)) (.t 81))), qg 51 true (qM 83 82), qg 83 false (qF 84 4 4), qg 83 false (qV 85 4 1 84), qg 83 false (qM 86 0), qg 83 false (qM 87 3), qg 83 false (qN 88 .sub 87 1), qg 83 false (qJ 89 5 86 88), qg 83 false (qF 90 4 89), qg 83 false (qL 91 1 90), qg 83 false (qk 92 .lss 85 91), qg 51 true (qP 93 83 92), qp 94 51 93]
def f80r7 : List Abs.Op := [qb 2 false]
def f80r8 : List Abs.Op := [qm 9 3, qn 10 .add 9 1, qm 3 10]
def f_ref01_Right_l9 : Abs.Cmd :=
  (.seq (.seq (.reg [0, 3, 8] f80r2) (.ite (.t 8) .nop (.exit 0))) (.seq (.blk 1 (.seq (.reg [0, 3, 4] f80r3) (.seq (.seq (.reg [0, 3, 4, 48] f80r4) (.ite (.t 48) (.seq (.reg [2] f80r5) .ret) .nop)) (.seq (.reg [0, 3, 94] f80r6) (.ite (.t 94) (.seq (.reg [2] f80r7) .ret) .nop))))) (.reg [0, 3] f80r8)))

def f80r10 : List Abs.Op := [qm 95 0, qe 96 95, qn 97 .geq 96 2, qm 98 97, qg 98 true (qm 99 0), qg 98 true (qe 100 99), qg 98 true (qn 101 .leq 100 20), qp 102 98 101, qm 2 102]
def a_ref01_Right : Ann := ⟨[(9, [2]), (3, [0, 3]), (8, [2]), (7, [0, 3, 94]), (6, [2]), (5, [0, 3, 4, 48]), (4, [0, 3, 4]), (2, [0, 3, 8]), (1, [0, 3]), (0, [0])], [(0, [0, 3])], [], [4], [4], [], [], [], [], [], []⟩
def f_ref01_Right : Abs.Fn := ⟨1, [.t 2],
  (.seq (.reg [0] f80r0) (.seq (.seq (.reg [0, 3] f80r1) (.blk 0 (.loop [0, 3] false f_ref01_Right_l9))) (.seq (.reg [2] f80r10) .ret)))⟩
@[simp] theorem e80 : type_of% (show f80r0 = _ ∧ f80r1 = _ ∧ f80r2 = _ ∧ f80r3 = _ ∧ f80r4 = _ ∧ f80r5 = _ ∧ f80r6 = _ ∧ f80r7 = _ ∧ f80r8 = _ ∧ f80r10 = _ from by simp only [f80r0, f80r1, f80r2, f80r3, f80r4, f80r5, f80r6, f80r7, f80r8, f80r10, qo, qO, qm, qM, qi, qb, qf, qF, qL, qa, qv, qV, qe, qj, qJ, qk, qK, qn, qN, qu, qp, qP, qs, qg]; exact ⟨rfl, rfl, rfl, rfl, rfl, rfl, rfl, rfl, rfl, rfl⟩) := ⟨rfl, rfl, rfl, rfl, rfl, rfl, rfl, rfl, rfl, rfl⟩
theorem e_ref01_Right_l9 : type_of% f_ref01_Right_l9.eq_1 := by_rfl f_ref01_Right_l9.eq_1
theorem e_ref01_Right : type_of% f_ref01_Right.eq_1 := by_rfl f_ref01_Right.eq_1
theorem ok_ref01_Right : fnC Tryz.prog a_ref01_Right Tryz.f80 = some f_ref01_Right := by kernel_rfl

end Go.Proofs.YtehandllpmlcoaaGreat
