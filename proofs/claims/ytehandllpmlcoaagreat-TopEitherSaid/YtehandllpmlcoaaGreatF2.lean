/- The code of functions of the program, in the small instruction set; each is what the translation makes of it. -/
import Derived.Test.YtehandllpmlcoaaGreatIds
set_option linter.unusedVariables false
set_option linter.unusedSimpArgs false
set_option maxRecDepth 100000
namespace Go.Proofs.YtehandllpmlcoaaGreat
open Go Go.Abs
/-! 168 fumarole/field.named -/
def f168r0 : List Abs.Op := [qb 2 false]
def f168r1 : List Abs.Op := [qm 5 0, qo 6 (.pur (.slen) [(.t 5)]), qi 7 0]
def f168r2 : List Abs.Op := [qk 8 .lss 7 6]
def f168r3 : List Abs.Op := [qm 9 7, qm 3 9]
def f168r4 : List Abs.Op := [qm 10 0, qm 11 3, qo 12 (.pur (.sidx) [(.t 10), (.t 11)]), qo 13 (.bin .geq (.t 12) (.c (.int .u8 97))), qm 14 13, qg 14 true (qm 15 0), qg 14 true (qm 16 3), qg 14 true (qo 17 (.pur (.sidx) [(.t 15), (.t 16)])), qg 14 true (qo 18 (.bin .leq (.t 17) (.c (.int .u8 122)))), qp 19 14 18, qm 4 19]
def f168r5 : List Abs.Op := [qm 20 4, qu 21 20, qm 22 21, qg 22 true (qm 23 3), qg 22 true (qn 24 .eql 23 0), qg 22 true (qm 25 24), qg 25 false (qm 26 0), qg 25 false (qm 27 3), qg 25 false (qo 28 (.pur (.sidx) [(.t 26), (.t 27)])), qg 25 false (qo 29 (.bin .lss (.t 28) (.c (.int .u8 48)))), qg 22 true (qP 30 25 29), qg 22 true (qm 31 30), qg 31 false (qm 32 0), qg 31 false (qm 33 3), qg 31 false (qo 34 (.pur (.sidx) [(.t 32), (.t 33)])), qg 31 false (qo 35 (.bin .gtr (.t 34) (.c (.int .u8 57)))), qg 22 true (qP 36 31 35), qp 37 22 36]
def f168r6 : List Abs.Op := [qb 2 false]
def f168r7 : List Abs.Op := [qn 38 .add 7 1, qm 7 38]
def f_field_named_l8 : Abs.Cmd :=
  (.seq (.reg [0, 6, 7, 8] f168r2) (.seq (.ite (.t 8) .nop (.exit 0)) (.seq (.blk 1 (.seq (.reg [0, 3, 6, 7] f168r3) (.seq (.reg [0, 3, 4, 6, 7] f168r4) (.seq (.reg [0, 6, 7, 37] f168r5) (.ite (.t 37) (.seq (.reg [2] f168r6) .ret) .nop))))) (.reg [0, 6, 7] f168r7))))

def f168r9 : List Abs.Op := [qm 39 0, qo 40 (.pur (.slen) [(.t 39)]), qo 41 (.call false (.c (.fn i_field_within [] [])) [(.t 40), (.c (.int .i64 1)), (.c (.int .i64 16))]), qm 2 41]
def a_field_named : Ann := ⟨[(8, [2]), (7, [0, 6, 7]), (6, [2]), (5, [0, 6, 7, 37]), (4, [0, 3, 4, 6, 7]), (3, [0, 3, 6, 7]), (2, [0, 6, 7, 8]), (1, [0, 6, 7]), (0, [0])], [(0, [0, 6, 7])], [], [], [], [], [], [], [], [], []⟩
def f_field_named : Abs.Fn := ⟨1, [.t 2],
  (.seq (.reg [0] f168r0) (.seq (.seq (.reg [0, 6, 7] f168r1) (.blk 0 (.loop [0, 6, 7] false f_field_named_l8))) (.seq (.reg [2] f168r9) .ret)))⟩
@[simp] theorem e168 : type_of% (show f168r0 = _ ∧ f168r1 = _ ∧ f168r2 = _ ∧ f168r3 = _ ∧ f168r4 = _ ∧ f168r5 = _ ∧ f168r6 = _ ∧ f168r7 = _ ∧ f168r9 = _ from by simp only [f168r0, f168r1, f168r2, f168r3, f168r4, f168r5, f168r6, f168r7, f168r9, qo, qm, qi, qb, qk, qn, qu, qp, qP, qg]; exact ⟨rfl, rfl, rfl, rfl, rfl, rfl, rfl, rfl, rfl⟩) := ⟨rfl, rfl, rfl, rfl, rfl, rfl, rfl, rfl, rfl⟩
theorem e_field_named_l8 : type_of% f_field_named_l8.eq_1 := by_rfl f_field_named_l8.eq_1
theorem e_field_named : type_of% f_field_named.eq_1 := by_rfl f_field_named.eq_1
theorem ok_field_named : fnC Tryz.prog a_field_named Tryz.f168 = some f_field_named := by kernel_rfl

/-! 169 fumarole/field.all[int] -/
def f169r0 : List Abs.Op := [qx 3 1, qb 4 false]
def f169r1 : List Abs.Op := [qm 5 0, qo 6 (.mkf i_field_all_int_1 [] [(.t 3)]), qc 7 i_slices_ContainsFunc_int [5, 6], qu 8 7, qm 4 8]
def a_field_all_int : Ann := ⟨[(1, [4]), (0, [0, 3])], [], [], [], [], [], [], [], [], [], []⟩
def f_field_all_int : Abs.Fn := ⟨2, [.t 4],
  (.seq (.reg [0, 3] f169r0) (.seq (.reg [4] f169r1) .ret))⟩
@[simp] theorem e169 : type_of% (show f169r0 = _ ∧ f169r1 = _ from by simp only [f169r0, f169r1, qo, qm, qb, qx, qu, qc, List.map_cons, List.map_nil]; exact ⟨rfl, rfl⟩) := ⟨rfl, rfl⟩
theorem e_field_all_int : type_of% f_field_all_int.eq_1 := by_rfl f_field_all_int.eq_1
theorem ok_field_all_int : fnC Tryz.prog a_field_all_int Tryz.f169 = some f_field_all_int := by kernel_rfl

/-! 170 (fumarole/field.Field).model$1 -/
def f170r0 : List Abs.Op := [qb 2 false]
def f170r1 : List Abs.Op := [qm 3 0, qo 4 (.call false (.c (.fn i_field_within [] [])) [(.t 3), (.c (.int .i64 (-100000))), (.c (.int .i64 100000))]), qm 2 4]
def a_field_Field_model_1 : Ann := ⟨[(1, [2]), (0, [0])], [], [], [], [], [], [], [], [], [], []⟩
def f_field_Field_model_1 : Abs.Fn := ⟨1, [.t 2],
  (.seq (.reg [0] f170r0) (.seq (.reg [2] f170r1) .ret))⟩
@[simp] theorem e170 : type_of% (show f170r0 = _ ∧ f170r1 = _ from by simp only [f170r0, f170r1, qo, qm, qb]; exact ⟨rfl, rfl⟩) := ⟨rfl, rfl⟩
theorem e_field_Field_model_1 : type_of% f_field_Field_model_1.eq_1 := by_rfl f_field_Field_model_1.eq_1
theorem ok_field_Field_model_1 : fnC Tryz.prog a_field_Field_model_1 Tryz.f170 = some f_field_Field_model_1 := by kernel_rfl

/-! 171 (fumarole/field.Field).sums -/
def f171r0 : List Abs.Op := [qx 4 0, qb 8 false]
def f171r1 : List Abs.Op := [qm 12 1, qf 13 3 4, ql 14 1 13, qn 15 .sub 14 1, qo 16 (.call false (.c (.fn i_field_within [] [])) [(.t 12), (.c (.int .i64 0)), (.t 15)]), qu 17 16, qm 18 17, qg 18 false (qm 19 2), qg 18 false (qe 20 19), qg 18 false (qn 21 .lss 20 1), qP 22 18 21, qm 23 22, qg 23 false (qm 24 2), qg 23 false (qe 25 24), qg 23 false (qm 26 3), qg 23 false (qe 27 26), qg 23 false (qk 28 .neq 25 27), qP 29 23 28]
def f171r2 : List Abs.Op := [qb 8 false]
def f171r3 : List Abs.Op := [qi 9 (-1)]
def f171r4 : List Abs.Op := [qm 30 2, qe 31 30, qi 32 0]
def f171r5 : List Abs.Op := [qk 33 .lss 32 31]
def f171r6 : List Abs.Op := [qm 34 32, qj 35 1 30 32, ql 36 1 35, qm 10 34, qm 11 36]
def f171r7 : List Abs.Op := [qm 37 11, qm 38 9, qk 39 .leq 37 38, qm 40 39, qg 40 false (qm 41 11), qg 40 false (qa 42 4 4), qg 40 false (qc 43 i_field_Field_blocks [42]), qg 40 false (qk 44 .geq 41 43), qP 45 40 44, qm 46 45, qg 46 false (qm 47 3), qg 46 false (qm 48 10), qg 46 false (qj 49 1 47 48), qg 46 false (ql 50 1 49), qg 46 false (qo 51 (.call false (.c (.fn i_field_within [] [])) [(.t 50), (.c (.int .i64 (-1000))), (.c (.int .i64 1000))])), qg 46 false (qu 52 51), qP 53 46 52]
def f171r8 : List Abs.Op := [qb 8 false]
def f171r9 : List Abs.Op := [qm 54 11, qm 9 54]
def f171r10 : List Abs.Op := [qn 55 .add 32 1, qm 32 55]
def f_field_Field_sums_l11 : Abs.Cmd :=
  (.seq (.reg [3, 4, 9, 30, 31, 32, 33] f171r5) (.seq (.ite (.t 33) .nop (.exit 0)) (.seq (.blk 1 (.seq (.reg [3, 4, 9, 10, 11, 30, 31, 32] f171r6) (.seq (.seq (.reg [3, 4, 11, 30, 31, 32, 53] f171r7) (.ite (.t 53) (.seq (.reg [8] f171r8) .ret) .nop)) (.reg [3, 4, 9, 30, 31, 32] f171r9)))) (.reg [3, 4, 9, 30, 31, 32] f171r10))))

def f171r12 : List Abs.Op := [qb 8 true]
def a_field_Field_sums : Ann := ⟨[(11, [8]), (10, [3, 4, 9, 30, 31, 32]), (9, [3, 4, 9, 30, 31, 32]), (8, [8]), (7, [3, 4, 11, 30, 31, 32, 53]), (6, [3, 4, 9, 10, 11, 30, 31, 32]), (5, [3, 4, 9, 30, 31, 32, 33]), (4, [3, 4, 9, 30, 31, 32]), (3, [2, 3, 4, 9]), (2, [8]), (1, [2, 3, 4, 29]), (0, [1, 2, 3, 4])], [(0, [3, 4, 9, 30, 31, 32])], [], [], [], [], [], [], [], [], []⟩
def f_field_Field_sums : Abs.Fn := ⟨4, [.t 8],
  (.seq (.reg [1, 2, 3, 4] f171r0) (.seq (.seq (.reg [2, 3, 4, 29] f171r1) (.ite (.t 29) (.seq (.reg [8] f171r2) .ret) .nop)) (.seq (.reg [2, 3, 4, 9] f171r3) (.seq (.seq (.reg [3, 4, 9, 30, 31, 32] f171r4) (.blk 0 (.loop [3, 4, 9, 30, 31, 32] false f_field_Field_sums_l11))) (.seq (.reg [8] f171r12) .ret)))))⟩
@[simp] theorem e171 : type_of% (show f171r0 = _ ∧ f171r1 = _ ∧ f171r2 = _ ∧ f171r3 = _ ∧ f171r4 = _ ∧ f171r5 = _ ∧ f171r6 = _ ∧ f171r7 = _ ∧ f171r8 = _ ∧ f171r9 = _ ∧ f171r10 = _ ∧ f171r12 = _ from by simp only [f171r0, f171r1, f171r2, f171r3, f171r4, f171r5, f171r6, f171r7, f171r8, f171r9, f171r10, f171r12, qo, qm, qi, qb, qf, ql, qa, qx, qe, qj, qk, qn, qu, qP, qc, qg, List.map_cons, List.map_nil]; exact ⟨rfl, rfl, rfl, rfl, rfl, rfl, rfl, rfl, rfl, rfl, rfl, rfl⟩) := ⟨rfl, rfl, rfl, rfl, rfl, rfl, rfl, rfl, rfl, rfl, rfl, rfl⟩
theorem e_field_Field_sums_l11 : type_of% f_field_Field_sums_l11.eq_1 := by_rfl f_field_Field_sums_l11.eq_1
theorem e_field_Field_sums : type_of% f_field_Field_sums.eq_1 := by_rfl f_field_Field_sums.eq_1
theorem ok_field_Field_sums : fnC Tryz.prog a_field_Field_sums Tryz.f171 = some f_field_Field_sums := by kernel_rfl

/-! 172 (fumarole/field.Range).ends -/
def f172r0 : List Abs.Op := [qx 1 0, qb 2 false]
def f172r1 : List Abs.Op := [qf 3 0 1, ql 4 1 3, qo 5 (.bin .leq (.c (.int .i64 (-10000000000))) (.t 4)), qm 6 5, qg 6 true (qf 7 0 1), qg 6 true (ql 8 1 7), qg 6 true (qf 9 1 1), qg 6 true (ql 10 1 9), qg 6 true (qk 11 .leq 8 10), qp 12 6 11, qm 13 12, qg 13 true (qf 14 1 1), qg 13 true (ql 15 1 14), qg 13 true (qn 16 .leq 15 10000000000), qp 17 13 16, qm 2 17]
def a_field_Range_ends : Ann := ⟨[(1, [2]), (0, [1])], [], [], [], [], [], [], [], [], [], []⟩
def f_field_Range_ends : Abs.Fn := ⟨1, [.t 2],
  (.seq (.reg [1] f172r0) (.seq (.reg [2] f172r1) .ret))⟩
@[simp] theorem e172 : type_of% (show f172r0 = _ ∧ f172r1 = _ from by simp only [f172r0, f172r1, qo, qm, qb, qf, ql, qx, qk, qn, qp, qg]; exact ⟨rfl, rfl⟩) := ⟨rfl, rfl⟩
theorem e_field_Range_ends : type_of% f_field_Range_ends.eq_1 := by_rfl f_field_Range_ends.eq_1
theorem ok_field_Range_ends : fnC Tryz.prog a_field_Range_ends Tryz.f172 = some f_field_Range_ends := by kernel_rfl

/-! 174 slices.IndexFunc[[]fumarole/rock.Bore,fumarole/rock.Bore] -/
def f174r0 : List Abs.Op := [qi 4 0]
def f174r1 : List Abs.Op := [qm 6 0, qe 7 6, qi 8 0]
def f174r2 : List Abs.Op := [qk 9 .lss 8 7]
def f174r3 : List Abs.Op := [qm 10 8, qm 5 10]
def f174r4 : List Abs.Op := [qm 11 1, qm 12 0, qm 13 5, qj 14 3 12 13, qa 15 3 14, qo 16 (.call false (.t 11) [(.t 15)])]
def f174r5 : List Abs.Op := [qm 17 5, qm 4 17]
def f174r6 : List Abs.Op := [qn 18 .add 8 1, qm 8 18]
def f_slices_IndexFunc_rock_Bore_l7 : Abs.Cmd :=
  (.seq (.reg [0, 1, 7, 8, 9] f174r2) (.seq (.ite (.t 9) .nop (.exit 0)) (.seq (.blk 1 (.seq (.reg [0, 1, 5, 7, 8] f174r3) (.seq (.reg [0, 1, 5, 7, 8, 16] f174r4) (.ite (.t 16) (.seq (.reg [4] f174r5) .ret) .nop)))) (.reg [0, 1, 7, 8] f174r6))))

def f174r8 : List Abs.Op := [qi 4 (-1)]
def a_slices_IndexFunc_rock_Bore : Ann := ⟨[(7, [4]), (6, [0, 1, 7, 8]), (5, [4]), (4, [0, 1, 5, 7, 8, 16]), (3, [0, 1, 5, 7, 8]), (2, [0, 1, 7, 8, 9]), (1, [0, 1, 7, 8]), (0, [0, 1])], [(0, [0, 1, 7, 8])], [], [], [], [], [], [], [], [], []⟩
def f_slices_IndexFunc_rock_Bore : Abs.Fn := ⟨2, [.t 4],
  (.seq (.reg [0, 1] f174r0) (.seq (.seq (.reg [0, 1, 7, 8] f174r1) (.blk 0 (.loop [0, 1, 7, 8] false f_slices_IndexFunc_rock_Bore_l7))) (.seq (.reg [4] f174r8) .ret)))⟩
@[simp] theorem e174 : type_of% (show f174r0 = _ ∧ f174r1 = _ ∧ f174r2 = _ ∧ f174r3 = _ ∧ f174r4 = _ ∧ f174r5 = _ ∧ f174r6 = _ ∧ f174r8 = _ from by simp only [f174r0, f174r1, f174r2, f174r3, f174r4, f174r5, f174r6, f174r8, qo, qm, qi, qa, qe, qj, qk, qn]; exact ⟨rfl, rfl, rfl, rfl, rfl, rfl, rfl, rfl⟩) := ⟨rfl, rfl, rfl, rfl, rfl, rfl, rfl, rfl⟩
theorem e_slices_IndexFunc_rock_Bore_l7 : type_of% f_slices_IndexFunc_rock_Bore_l7.eq_1 := by_rfl f_slices_IndexFunc_rock_Bore_l7.eq_1
theorem e_slices_IndexFunc_rock_Bore : type_of% f_slices_IndexFunc_rock_Bore.eq_1 := by_rfl f_slices_IndexFunc_rock_Bore.eq_1
theorem ok_slices_IndexFunc_rock_Bore : fnC Tryz.prog a_slices_IndexFunc_rock_Bore Tryz.f174 = some f_slices_IndexFunc_rock_Bore := by kernel_rfl

/-! 175 (fumarole/rock.Bed).links$1 -/
def f175r0 : List Abs.Op := [qF 6 0 1, qF 7 0 6, qL 8 1 7, qF 9 0 1, qF 10 1 9, qL 11 1 10, qM 3 8, qm 4 11]
def f175r1 : List Abs.Op := [qa 12 9 1, qc 13 i_rock_Bed_size [12], qi 14 0]
def f175r2 : List Abs.Op := [qk 15 .lss 14 13]
def f175r3 : List Abs.Op := [qm 16 14, qm 5 16]
def f175r4 : List Abs.Op := [qm 17 5, qn 18 .add 17 1, qm 19 3, qk 20 .rem 18 19, qn 21 .neq 20 0, qm 22 21, qg 22 true (qm 23 0), qg 22 true (qm 24 5), qg 22 true (qm 25 5), qg 22 true (qn 26 .add 25 1), qg 22 true (qo 27 (.bld [(.int .i64 0), (.int .i64 0)] [(0, 1, (.t 24)), (1, 1, (.t 26))])), qg 22 true (qo 28 (.call false (.t 23) [(.t 27)])), qg 22 true (qu 29 28), qp 30 22 29]
def f175r5 : List Abs.Op := [qm 31 5, qm 32 3, qk 33 .quo 31 32, qm 34 4, qk 35 .rem 33 34, qm 36 4, qn 37 .sub 36 1, qk 38 .neq 35 37, qm 39 38, qg 39 true (qm 40 0), qg 39 true (qm 41 5), qg 39 true (qm 42 5), qg 39 true (qm 43 3), qg 39 true (qk 44 .add 42 43), qg 39 true (qo 45 (.bld [(.int .i64 0), (.int .i64 0)] [(0, 1, (.t 41)), (1, 1, (.t 44))])), qg 39 true (qo 46 (.call false (.t 40) [(.t 45)])), qg 39 true (qu 47 46), qp 48 39 47]
def f175r6 : List Abs.Op := [qm 49 5, qm 50 3, qm 51 4, qk 52 .mul 50 51, qk 53 .add 49 52, qa 54 9 1, qc 55 i_rock_Bed_size [54], qk 56 .lss 53 55, qm 57 56, qg 57 true (qm 58 0), qg 57 true (qm 59 5), qg 57 true (qm 60 5), qg 57 true (qm 61 3), qg 57 true (qm 62 4), qg 57 true (qk 63 .mul 61 62), qg 57 true (qk 64 .add 60 63), qg 57 true (qo 65 (.bld [(.int .i64 0), (.int .i64 0)] [(0, 1, (.t 59)), (1, 1, (.t 64))])), qg 57 true (qo 66 (.call false (.t 58) [(.t 65)])), qg 57 true (qu 67 66), qp 68 57 67]
def f175r7 : List Abs.Op := [qn 69 .add 14 1, qm 14 69]
def f_rock_Bed_links_1_l8 : Abs.Cmd :=
  (.seq (.reg [0, 1, 3, 4, 13, 14, 15] f175r2) (.seq (.ite (.t 15) .nop (.exit 0)) (.seq (.blk 1 (.seq (.reg [0, 1, 3, 4, 5, 13, 14] f175r3) (.seq (.seq (.reg [0, 1, 3, 4, 5, 13, 14, 30] f175r4) (.ite (.t 30) .ret .nop)) (.seq (.seq (.reg [0, 1, 3, 4, 5, 13, 14, 48] f175r5) (.ite (.t 48) .ret .nop)) (.seq (.reg [0, 1, 3, 4, 13, 14, 68] f175r6) (.ite (.t 68) .ret .nop)))))) (.reg [0, 1, 3, 4, 13, 14] f175r7))))

def a_rock_Bed_links_1 : Ann := ⟨[(7, [0, 1, 3, 4, 13, 14]), (6, [0, 1, 3, 4, 13, 14, 68]), (5, [0, 1, 3, 4, 5, 13, 14, 48]), (4, [0, 1, 3, 4, 5, 13, 14, 30]), (3, [0, 1, 3, 4, 5, 13, 14]), (2, [0, 1, 3, 4, 13, 14, 15]), (1, [0, 1, 3, 4, 13, 14]), (0, [0, 1, 3, 4])], [(0, [0, 1, 3, 4, 13, 14])], [], [], [], [], [], [], [], [], []⟩
def f_rock_Bed_links_1 : Abs.Fn := ⟨2, [],
  (.seq (.reg [0, 1, 3, 4] f175r0) (.seq (.reg [0, 1, 3, 4, 13, 14] f175r1) (.blk 0 (.loop [0, 1, 3, 4, 13, 14] false f_rock_Bed_links_1_l8))))⟩
@[simp] theorem e175 : type_of% (show f175r0 = _ ∧ f175r1 = _ ∧ f175r2 = _ ∧ f175r3 = _ ∧ f175r4 = _ ∧ f175r5 = _ ∧ f175r6 = _ ∧ f175r7 = _ from by simp only [f175r0, f175r1, f175r2, f175r3, f175r4, f175r5, f175r6, f175r7, qo, qm, qM, qi, qF, qL, qa, qk, qn, qu, qp, qc, qg, List.map_cons, List.map_nil]; exact ⟨rfl, rfl, rfl, rfl, rfl, rfl, rfl, rfl⟩) := ⟨rfl, rfl, rfl, rfl, rfl, rfl, rfl, rfl⟩
theorem e_rock_Bed_links_1_l8 : type_of% f_rock_Bed_links_1_l8.eq_1 := by_rfl f_rock_Bed_links_1_l8.eq_1
theorem e_rock_Bed_links_1 : type_of% f_rock_Bed_links_1.eq_1 := by_rfl f_rock_Bed_links_1.eq_1
theorem ok_rock_Bed_links_1 : fnC Tryz.prog a_rock_Bed_links_1 Tryz.f175 = some f_rock_Bed_links_1 := by kernel_rfl

/-! 176 slices.ContainsFunc[[]fumarole/rock.Block,fumarole/rock.Block] -/
def f176r0 : List Abs.Op := [qb 4 false]
def f176r1 : List Abs.Op := [qm 5 0, qm 6 1, qc 7 i_slices_IndexFunc_rock_Block [5, 6], qn 8 .geq 7 0, qm 4 8]
def a_slices_ContainsFunc_rock_Block : Ann := ⟨[(1, [4]), (0, [0, 1])], [], [], [], [], [], [], [], [], [], []⟩
def f_slices_ContainsFunc_rock_Block : Abs.Fn := ⟨2, [.t 4],
  (.seq (.reg [0, 1] f176r0) (.seq (.reg [4] f176r1) .ret))⟩
@[simp] theorem e176 : type_of% (show f176r0 = _ ∧ f176r1 = _ from by simp only [f176r0, f176r1, qm, qb, qn, qc, List.map_cons, List.map_nil]; exact ⟨rfl, rfl⟩) := ⟨rfl, rfl⟩
theorem e_slices_ContainsFunc_rock_Block : type_of% f_slices_ContainsFunc_rock_Block.eq_1 := by_rfl f_slices_ContainsFunc_rock_Block.eq_1
theorem ok_slices_ContainsFunc_rock_Block : fnC Tryz.prog a_slices_ContainsFunc_rock_Block Tryz.f176 = some f_slices_ContainsFunc_rock_Block := by kernel_rfl

/-! 177 fumarole/rock.all[fumarole/rock.Block]$1 -/
def f177r0 : List Abs.Op := [qx 2 0, qb 3 false]
def f177r1 : List Abs.Op := [ql 4 1 1, qa 5 3 2, qo 6 (.call false (.t 4) [(.t 5)]), qu 7 6, qm 3 7]
def a_rock_all_rock_Block_1 : Ann := ⟨[(1, [3]), (0, [1, 2])], [], [], [], [], [], [], [], [], [], []⟩
def f_rock_all_rock_Block_1 : Abs.Fn := ⟨2, [.t 3],
  (.seq (.reg [1, 2] f177r0) (.seq (.reg [3] f177r1) .ret))⟩
@[simp] theorem e177 : type_of% (show f177r0 = _ ∧ f177r1 = _ from by simp only [f177r0, f177r1, qo, qm, qb, ql, qa, qx, qu]; exact ⟨rfl, rfl⟩) := ⟨rfl, rfl⟩
theorem e_rock_all_rock_Block_1 : type_of% f_rock_all_rock_Block_1.eq_1 := by_rfl f_rock_all_rock_Block_1.eq_1
theorem ok_rock_all_rock_Block_1 : fnC Tryz.prog a_rock_all_rock_Block_1 Tryz.f177 = some f_rock_all_rock_Block_1 := by kernel_rfl

/-! 178 fumarole/field.all[int]$1 -/
def f178r0 : List Abs.Op := [qb 3 false]
def f178r1 : List Abs.Op := [ql 4 1 1, qm 5 0, qo 6 (.call false (.t 4) [(.t 5)]), qu 7 6, qm 3 7]
def a_field_all_int_1 : Ann := ⟨[(1, [3]), (0, [0, 1])], [], [], [], [], [], [], [], [], [], []⟩
def f_field_all_int_1 : Abs.Fn := ⟨2, [.t 3],
  (.seq (.reg [0, 1] f178r0) (.seq (.reg [3] f178r1) .ret))⟩
@[simp] theorem e178 : type_of% (show f178r0 = _ ∧ f178r1 = _ from by simp only [f178r0, f178r1, qo, qm, qb, ql, qu]; exact ⟨rfl, rfl⟩) := ⟨rfl, rfl⟩
theorem e_field_all_int_1 : type_of% f_field_all_int_1.eq_1 := by_rfl f_field_all_int_1.eq_1
theorem ok_field_all_int_1 : fnC Tryz.prog a_field_all_int_1 Tryz.f178 = some f_field_all_int_1 := by kernel_rfl

/-! 179 slices.IndexFunc[[]fumarole/rock.Block,fumarole/rock.Block] -/
def f179r0 : List Abs.Op := [qi 4 0]
def f179r1 : List Abs.Op := [qm 6 0, qe 7 6, qi 8 0]
def f179r2 : List Abs.Op := [qk 9 .lss 8 7]
def f179r3 : List Abs.Op := [qm 10 8, qm 5 10]
def f179r4 : List Abs.Op := [qm 11 1, qm 12 0, qm 13 5, qj 14 3 12 13, qa 15 3 14, qo 16 (.call false (.t 11) [(.t 15)])]
def f179r5 : List Abs.Op := [qm 17 5, qm 4 17]
def f179r6 : List Abs.Op := [qn 18 .add 8 1, qm 8 18]
def f_slices_IndexFunc_rock_Block_l7 : Abs.Cmd :=
  (.seq (.reg [0, 1, 7, 8, 9] f179r2) (.seq (.ite (.t 9) .nop (.exit 0)) (.seq (.blk 1 (.seq (.reg [0, 1, 5, 7, 8] f179r3) (.seq (.reg [0, 1, 5, 7, 8, 16] f179r4) (.ite (.t 16) (.seq (.reg [4] f179r5) .ret) .nop)))) (.reg [0, 1, 7, 8] f179r6))))

def f179r8 : List Abs.Op := [qi 4 (-1)]
def a_slices_IndexFunc_rock_Block : Ann := ⟨[(7, [4]), (6, [0, 1, 7, 8]), (5, [4]), (4, [0, 1, 5, 7, 8, 16]), (3, [0, 1, 5, 7, 8]), (2, [0, 1, 7, 8, 9]), (1, [0, 1, 7, 8]), (0, [0, 1])], [(0, [0, 1, 7, 8])], [], [], [], [], [], [], [], [], []⟩
def f_slices_IndexFunc_rock_Block : Abs.Fn := ⟨2, [.t 4],
  (.seq (.reg [0, 1] f179r0) (.seq (.seq (.reg [0, 1, 7, 8] f179r1) (.blk 0 (.loop [0, 1, 7, 8] false f_slices_IndexFunc_rock_Block_l7))) (.seq (.reg [4] f179r8) .ret)))⟩
@[simp] theorem e179 : type_of% (show f179r0 = _ ∧ f179r1 = _ ∧ f179r2 = _ ∧ f179r3 = _ ∧ f179r4 = _ ∧ f179r5 = _ ∧ f179r6 = _ ∧ f179r8 = _ from by simp only [f179r0, f179r1, f179r2, f179r3, f179r4, f179r5, f179r6, f179r8, qo, qm, qi, qa, qe, qj, qk, qn]; exact ⟨rfl, rfl, rfl, rfl, rfl, rfl, rfl, rfl⟩) := ⟨rfl, rfl, rfl, rfl, rfl, rfl, rfl, rfl⟩
theorem e_slices_IndexFunc_rock_Block_l7 : type_of% f_slices_IndexFunc_rock_Block_l7.eq_1 := by_rfl f_slices_IndexFunc_rock_Block_l7.eq_1
theorem e_slices_IndexFunc_rock_Block : type_of% f_slices_IndexFunc_rock_Block.eq_1 := by_rfl f_slices_IndexFunc_rock_Block.eq_1
theorem ok_slices_IndexFunc_rock_Block : fnC Tryz.prog a_slices_IndexFunc_rock_Block Tryz.f179 = some f_slices_IndexFunc_rock_Block := by kernel_rfl

end Go.Proofs.YtehandllpmlcoaaGreat
