/- The code of functions of the program, in the small instruction set; each is what the translation makes of it. -/
import Derived.Test.YtehandllpmlcoaaGreatIds
set_option linter.unusedVariables false
set_option linter.unusedSimpArgs false
set_option maxRecDepth 100000
namespace Go.Proofs.YtehandllpmlcoaaGreat
open Go Go.Abs
/-! 81 fumarole/fumaroleref02.ModelsFault -/
def f81r0 : List Abs.Op := [qx 2 0, qi 4 0]
def f81r1 : List Abs.Op := [qm 8 1, qe 9 8, qn 10 .lss 9 1, qm 11 10, qg 11 false (qm 12 1), qg 11 false (qe 13 12), qg 11 false (qn 14 .gtr 13 40), qP 15 11 14]
def f81r2 : List Abs.Op := [qi 4 3]
def f81r3 : List Abs.Op := [qi 5 0]
def f81r4 : List Abs.Op := [qm 16 5, qm 17 1, qe 18 17, qk 19 .lss 16 18]
def f81r5 : List Abs.Op := [qA 22 4 2, qM 23 1, qM 24 5, qJ 25 2 23 24, qA 26 2 25, qc 27 i_ref02_ModelFault [22, 26], qm 6 27]
def f81r6 : List Abs.Op := [qm 28 6, qn 29 .neq 28 0]
def f81r7 : List Abs.Op := [qm 30 6, qm 4 30]
def f81r8 : List Abs.Op := [qi 7 0]
def f81r9 : List Abs.Op := [qm 31 7, qm 32 5, qk 33 .lss 31 32]
def f81r10 : List Abs.Op := [qM 36 1, qM 37 7, qJ 38 2 36 37, qF 39 0 38, qL 40 1 39, qM 41 1, qM 42 5, qJ 43 2 41 42, qF 44 0 43, qL 45 1 44, qo 46 (.pur (.seq false) [(.t 40), (.t 45)])]
def f81r11 : List Abs.Op := [qi 4 6]
def f81r12 : List Abs.Op := [qm 34 7, qn 35 .add 34 1, qm 7 35]
def f_ref02_ModelsFault_l13 : Abs.Cmd :=
  (.seq (.seq (.reg [1, 2, 5, 7, 33] f81r9) (.ite (.t 33) .nop (.exit 2))) (.seq (.blk 3 (.seq (.reg [1, 2, 5, 7, 46] f81r10) (.ite (.t 46) (.seq (.reg [4] f81r11) .ret) .nop))) (.reg [1, 2, 5, 7] f81r12)))

def f81r14 : List Abs.Op := [qm 20 5, qn 21 .add 20 1, qm 5 21]
def f_ref02_ModelsFault_l15 : Abs.Cmd :=
  (.seq (.seq (.reg [1, 2, 5, 19] f81r4) (.ite (.t 19) .nop (.exit 0))) (.seq (.blk 1 (.seq (.seq (.reg [1, 2, 5, 6] f81r5) (.seq (.reg [1, 2, 5, 6, 29] f81r6) (.ite (.t 29) (.seq (.reg [4] f81r7) .ret) .nop))) (.seq (.reg [1, 2, 5, 7] f81r8) (.blk 2 (.loop [1, 2, 5, 7] false f_ref02_ModelsFault_l13))))) (.reg [1, 2, 5] f81r14)))

def f81r16 : List Abs.Op := [qi 4 0]
def a_ref02_ModelsFault : Ann := ⟨[(14, [4]), (5, [1, 2, 5]), (11, [1, 2, 5, 7]), (13, [4]), (12, [1, 2, 5, 7, 46]), (10, [1, 2, 5, 7, 33]), (9, [1, 2, 5, 7]), (8, [4]), (7, [1, 2, 5, 6, 29]), (6, [1, 2, 5, 6]), (4, [1, 2, 5, 19]), (3, [1, 2, 5]), (2, [4]), (1, [1, 2, 15]), (0, [1, 2])], [(2, [1, 2, 5, 7]), (0, [1, 2, 5])], [], [], [], [], [], [], [], [], []⟩
def f_ref02_ModelsFault : Abs.Fn := ⟨2, [.t 4],
  (.seq (.reg [1, 2] f81r0) (.seq (.seq (.reg [1, 2, 15] f81r1) (.ite (.t 15) (.seq (.reg [4] f81r2) .ret) .nop)) (.seq (.seq (.reg [1, 2, 5] f81r3) (.blk 0 (.loop [1, 2, 5] false f_ref02_ModelsFault_l15))) (.seq (.reg [4] f81r16) .ret))))⟩
@[simp] theorem e81 : type_of% (show f81r0 = _ ∧ f81r1 = _ ∧ f81r2 = _ ∧ f81r3 = _ ∧ f81r4 = _ ∧ f81r5 = _ ∧ f81r6 = _ ∧ f81r7 = _ ∧ f81r8 = _ ∧ f81r9 = _ ∧ f81r10 = _ ∧ f81r11 = _ ∧ f81r12 = _ ∧ f81r14 = _ ∧ f81r16 = _ from by simp only [f81r0, f81r1, f81r2, f81r3, f81r4, f81r5, f81r6, f81r7, f81r8, f81r9, f81r10, f81r11, f81r12, f81r14, f81r16, qo, qm, qM, qi, qF, qL, qA, qx, qe, qJ, qk, qn, qP, qc, qg, List.map_cons, List.map_nil]; exact ⟨rfl, rfl, rfl, rfl, rfl, rfl, rfl, rfl, rfl, rfl, rfl, rfl, rfl, rfl, rfl⟩) := ⟨rfl, rfl, rfl, rfl, rfl, rfl, rfl, rfl, rfl, rfl, rfl, rfl, rfl, rfl, rfl⟩
theorem e_ref02_ModelsFault_l13 : type_of% f_ref02_ModelsFault_l13.eq_1 := by_rfl f_ref02_ModelsFault_l13.eq_1
theorem e_ref02_ModelsFault_l15 : type_of% f_ref02_ModelsFault_l15.eq_1 := by_rfl f_ref02_ModelsFault_l15.eq_1
theorem e_ref02_ModelsFault : type_of% f_ref02_ModelsFault.eq_1 := by_rfl f_ref02_ModelsFault.eq_1
theorem ok_ref02_ModelsFault : fnC Tryz.prog a_ref02_ModelsFault Tryz.f81 = some f_ref02_ModelsFault := by kernel_rfl

/-! 82 fumarole/fumaroleref05.Fits -/
def f82r0 : List Abs.Op := [qx 2 0, qx 3 1, qb 4 false]
def f82r1 : List Abs.Op := [qf 6 0 2, qa 7 4 6, qa 8 2 3, qc 9 i_ref02_ModelFault [7, 8], qn 10 .neq 9 0]
def f82r2 : List Abs.Op := [qb 4 false]
def f82r3 : List Abs.Op := [qi 5 0]
def f82r4 : List Abs.Op := [qm 11 5, qf 12 0 2, qa 13 4 12, qc 14 i_ref02_Size [13], qk 15 .lss 11 14]
def f82r5 : List Abs.Op := [qa 18 9 2, qa 19 2 3, qm 20 5, qo 21 (.call false (.c (.fn i_ref05_Value [] [])) [(.t 18), (.t 19), (.c (.int .i64 0)), (.t 20)]), qo 22 (.call false (.c (.fn i_ref01_In [] [])) [(.t 21), (.c (.int .i64 1000)), (.c (.int .i64 100000))]), qu 23 22, qm 24 23, qg 24 false (qa 25 9 2), qg 24 false (qa 26 2 3), qg 24 false (qm 27 5), qg 24 false (qo 28 (.call false (.c (.fn i_ref05_Value [] [])) [(.t 25), (.t 26), (.c (.int .i64 1)), (.t 27)])), qg 24 false (qo 29 (.call false (.c (.fn i_ref01_In [] [])) [(.t 28), (.c (.int .i64 0)), (.c (.int .i64 1000))])), qg 24 false (qu 30 29), qP 31 24 30, qm 32 31, qg 32 false (qa 33 9 2), qg 32 false (qa 34 2 3), qg 32 false (qm 35 5), qg 32 false (qo 36 (.call false (.c (.fn i_ref05_Value [] [])) [(.t 33), (.t 34), (.c (.int .i64 2)), (.t 35)])), qg 32 false (qo 37 (.call false (.c (.fn i_ref01_In [] [])) [(.t 36), (.c (.int .i64 0)), (.c (.int .i64 3000))])), qg 32 false (qu 38 37), qP 39 32 38, qm 40 39, qg 40 false (qa 41 9 2), qg 40 false (qa 42 2 3), qg 40 false (qm 43 5), qg 40 false (qo 44 (.call false (.c (.fn i_ref05_Value [] [])) [(.t 41), (.t 42), (.c (.int .i64 3)), (.t 43)])), qg 40 false (qo 45 (.call false (.c (.fn i_ref01_In [] [])) [(.t 44), (.c (.int .i64 0)), (.c (.int .i64 1000))])), qg 40 false (qu 46 45), qP 47 40 46]
def f82r6 : List Abs.Op := [qb 4 false]
def f82r7 : List Abs.Op := [qm 16 5, qn 17 .add 16 1, qm 5 17]
def f_ref05_Fits_l8 : Abs.Cmd :=
  (.seq (.seq (.reg [2, 3, 5, 15] f82r4) (.ite (.t 15) .nop (.exit 0))) (.seq (.blk 1 (.seq (.reg [2, 3, 5, 47] f82r5) (.ite (.t 47) (.seq (.reg [4] f82r6) .ret) .nop))) (.reg [2, 3, 5] f82r7)))

def f82r9 : List Abs.Op := [qb 4 true]
def a_ref05_Fits : Ann := ⟨[(8, [4]), (5, [2, 3, 5]), (7, [4]), (6, [2, 3, 5, 47]), (4, [2, 3, 5, 15]), (3, [2, 3, 5]), (2, [4]), (1, [2, 3, 10]), (0, [2, 3])], [(0, [2, 3, 5])], [], [], [], [], [], [], [], [], []⟩
def f_ref05_Fits : Abs.Fn := ⟨2, [.t 4],
  (.seq (.reg [2, 3] f82r0) (.seq (.seq (.reg [2, 3, 10] f82r1) (.ite (.t 10) (.seq (.reg [4] f82r2) .ret) .nop)) (.seq (.seq (.reg [2, 3, 5] f82r3) (.blk 0 (.loop [2, 3, 5] false f_ref05_Fits_l8))) (.seq (.reg [4] f82r9) .ret))))⟩
@[simp] theorem e82 : type_of% (show f82r0 = _ ∧ f82r1 = _ ∧ f82r2 = _ ∧ f82r3 = _ ∧ f82r4 = _ ∧ f82r5 = _ ∧ f82r6 = _ ∧ f82r7 = _ ∧ f82r9 = _ from by simp only [f82r0, f82r1, f82r2, f82r3, f82r4, f82r5, f82r6, f82r7, f82r9, qo, qm, qi, qb, qf, qa, qx, qk, qn, qu, qP, qc, qg, List.map_cons, List.map_nil]; exact ⟨rfl, rfl, rfl, rfl, rfl, rfl, rfl, rfl, rfl⟩) := ⟨rfl, rfl, rfl, rfl, rfl, rfl, rfl, rfl, rfl⟩
theorem e_ref05_Fits_l8 : type_of% f_ref05_Fits_l8.eq_1 := by_rfl f_ref05_Fits_l8.eq_1
theorem e_ref05_Fits : type_of% f_ref05_Fits.eq_1 := by_rfl f_ref05_Fits.eq_1
theorem ok_ref05_Fits : fnC Tryz.prog a_ref05_Fits Tryz.f82 = some f_ref05_Fits := by kernel_rfl

/-! 83 fumarole/fumaroleref05.RatesFault -/
def f83r0 : List Abs.Op := [qx 2 0, qi 4 0]
def f83r1 : List Abs.Op := [qm 6 1, qe 7 6, qf 8 8 2, ql 9 1 8, qe 10 9, qk 11 .neq 7 10]
def f83r2 : List Abs.Op := [qi 4 1]
def f83r3 : List Abs.Op := [qi 5 0]
def f83r4 : List Abs.Op := [qm 12 5, qm 13 1, qe 14 13, qk 15 .lss 12 14]
def f83r5 : List Abs.Op := [qm 18 1, qm 19 5, qj 20 1 18 19, ql 21 1 20, qo 22 (.call false (.c (.fn i_ref01_In [] [])) [(.t 21), (.c (.int .i64 (-100000))), (.c (.int .i64 100000))]), qu 23 22]
def f83r6 : List Abs.Op := [qi 4 2]
def f83r7 : List Abs.Op := [qm 16 5, qn 17 .add 16 1, qm 5 17]
def f_ref05_RatesFault_l8 : Abs.Cmd :=
  (.seq (.seq (.reg [1, 5, 15] f83r4) (.ite (.t 15) .nop (.exit 0))) (.seq (.blk 1 (.seq (.reg [1, 5, 23] f83r5) (.ite (.t 23) (.seq (.reg [4] f83r6) .ret) .nop))) (.reg [1, 5] f83r7)))

def f83r9 : List Abs.Op := [qi 4 0]
def a_ref05_RatesFault : Ann := ⟨[(8, [4]), (5, [1, 5]), (7, [4]), (6, [1, 5, 23]), (4, [1, 5, 15]), (3, [1, 5]), (2, [4]), (1, [1, 11]), (0, [1, 2])], [(0, [1, 5])], [], [], [], [], [], [], [], [], []⟩
def f_ref05_RatesFault : Abs.Fn := ⟨2, [.t 4],
  (.seq (.reg [1, 2] f83r0) (.seq (.seq (.reg [1, 11] f83r1) (.ite (.t 11) (.seq (.reg [4] f83r2) .ret) .nop)) (.seq (.seq (.reg [1, 5] f83r3) (.blk 0 (.loop [1, 5] false f_ref05_RatesFault_l8))) (.seq (.reg [4] f83r9) .ret))))⟩
@[simp] theorem e83 : type_of% (show f83r0 = _ ∧ f83r1 = _ ∧ f83r2 = _ ∧ f83r3 = _ ∧ f83r4 = _ ∧ f83r5 = _ ∧ f83r6 = _ ∧ f83r7 = _ ∧ f83r9 = _ from by simp only [f83r0, f83r1, f83r2, f83r3, f83r4, f83r5, f83r6, f83r7, f83r9, qo, qm, qi, qf, ql, qx, qe, qj, qk, qn, qu]; exact ⟨rfl, rfl, rfl, rfl, rfl, rfl, rfl, rfl, rfl⟩) := ⟨rfl, rfl, rfl, rfl, rfl, rfl, rfl, rfl, rfl⟩
theorem e_ref05_RatesFault_l8 : type_of% f_ref05_RatesFault_l8.eq_1 := by_rfl f_ref05_RatesFault_l8.eq_1
theorem e_ref05_RatesFault : type_of% f_ref05_RatesFault.eq_1 := by_rfl f_ref05_RatesFault.eq_1
theorem ok_ref05_RatesFault : fnC Tryz.prog a_ref05_RatesFault Tryz.f83 = some f_ref05_RatesFault := by kernel_rfl

/-! 84 (fumarole/rock.Bed).valid -/
def f84r0 : List Abs.Op := [qx 1 0, qb 2 false]
def f84r1 : List Abs.Op := [qf 4 0 1, qa 5 4 4, qc 6 i_field_CheckField [5], qn 7 .neq 6 0, qm 8 7, qg 8 false (qf 9 0 1), qg 8 false (qf 10 3 9), qg 8 false (ql 11 1 10), qg 8 false (qn 12 .lss 11 4), qP 13 8 12, qm 14 13, qg 14 false (qf 15 4 1), qg 14 false (ql 16 1 15), qg 14 false (qc 17 i_steam_CheckTable [16]), qg 14 false (qn 18 .neq 17 0), qP 19 14 18, qm 20 19, qg 20 false (qf 21 5 1), qg 20 false (ql 22 1 21), qg 20 false (qo 23 (.call false (.c (.fn i_rock_within [] [])) [(.t 22), (.c (.int .i64 1)), (.c (.int .i64 100000))])), qg 20 false (qu 24 23), qP 25 20 24, qm 26 25, qg 26 false (qf 27 6 1), qg 26 false (ql 28 1 27), qg 26 false (qo 29 (.call false (.c (.fn i_rock_within [] [])) [(.t 28), (.c (.int .i64 0)), (.c (.int .i64 1000))])), qg 26 false (qu 30 29), qP 31 26 30, qm 32 31, qg 32 false (qf 33 7 1), qg 32 false (ql 34 1 33), qg 32 false (qo 35 (.call false (.c (.fn i_rock_within [] [])) [(.t 34), (.c (.int .i64 0)), (.c (.int .i64 3000))])), qg 32 false (qu 36 35), qP 37 32 36, qm 38 37, qg 38 false (qf 39 8 1), qg 38 false (ql 40 1 39), qg 38 false (qe 41 40), qg 38 false (qn 42 .gtr 41 8), qP 43 38 42]
def f84r2 : List Abs.Op := [qb 2 false]
def f84r3 : List Abs.Op := [qa 44 9 1, qc 45 i_rock_Bed_size [44], qo 46 (.mks 1 1 [(.bool false)] (.t 45) (.t 45)), qo 3 (.alc [] [.nils]), qt 1 3 46]
def f84r4 : List Abs.Op := [qf 47 8 1, ql 48 1 47, qo 49 (.mkf i_rock_Bed_valid_1 [] [(.t 3)]), qc 50 i_rock_all_rock_Bore [48, 49], qm 2 50]
def a_rock_Bed_valid : Ann := ⟨[(4, [2]), (3, [1, 3]), (2, [2]), (1, [1, 43]), (0, [1])], [], [], [3], [], [], [], [], [], [], []⟩
def f_rock_Bed_valid : Abs.Fn := ⟨1, [.t 2],
  (.seq (.reg [1] f84r0) (.seq (.seq (.reg [1, 43] f84r1) (.ite (.t 43) (.seq (.reg [2] f84r2) .ret) .nop)) (.seq (.reg [1, 3] f84r3) (.seq (.reg [2] f84r4) .ret))))⟩
@[simp] theorem e84 : type_of% (show f84r0 = _ ∧ f84r1 = _ ∧ f84r2 = _ ∧ f84r3 = _ ∧ f84r4 = _ from by simp only [f84r0, f84r1, f84r2, f84r3, f84r4, qo, qm, qb, qf, ql, qa, qx, qe, qn, qu, qP, qt, qc, qg, List.map_cons, List.map_nil]; exact ⟨rfl, rfl, rfl, rfl, rfl⟩) := ⟨rfl, rfl, rfl, rfl, rfl⟩
theorem e_rock_Bed_valid : type_of% f_rock_Bed_valid.eq_1 := by_rfl f_rock_Bed_valid.eq_1
theorem ok_rock_Bed_valid : fnC Tryz.prog a_rock_Bed_valid Tryz.f84 = some f_rock_Bed_valid := by kernel_rfl

/-! 85 fumarole/field.CheckModels -/
def f85r0 : List Abs.Op := [qx 2 0, qx 3 1, qi 4 0]
def f85r1 : List Abs.Op := [qa 5 4 2, qo 6 (.mkf i_field_Field_shape [(.t 5)] []), qo 7 (.mkf i_field_CheckModels_1 [] [(.t 2), (.t 3)]), qo 8 (.bsi 2 1 [.nilf, .nilf] [(0, 1, (.t 6)), (1, 1, (.t 7))]), qc 9 i_field_first [8], qm 4 9]
def a_field_CheckModels : Ann := ⟨[(1, [4]), (0, [2, 3])], [], [], [], [], [], [], [], [], [], []⟩
def f_field_CheckModels : Abs.Fn := ⟨2, [.t 4],
  (.seq (.reg [2, 3] f85r0) (.seq (.reg [4] f85r1) .ret))⟩
@[simp] theorem e85 : type_of% (show f85r0 = _ ∧ f85r1 = _ from by simp only [f85r0, f85r1, qo, qm, qi, qa, qx, qc, List.map_cons, List.map_nil]; exact ⟨rfl, rfl⟩) := ⟨rfl, rfl⟩
theorem e_field_CheckModels : type_of% f_field_CheckModels.eq_1 := by_rfl f_field_CheckModels.eq_1
theorem ok_field_CheckModels : fnC Tryz.prog a_field_CheckModels Tryz.f85 = some f_field_CheckModels := by kernel_rfl

/-! 86 fumarole/rock.all[fumarole/field.Model] -/
def f86r0 : List Abs.Op := [qx 3 1, qb 4 false]
def f86r1 : List Abs.Op := [qm 5 0, qo 6 (.mkf i_rock_all_field_Model_1 [] [(.t 3)]), qc 7 i_slices_ContainsFunc_field_Model [5, 6], qu 8 7, qm 4 8]
def a_rock_all_field_Model : Ann := ⟨[(1, [4]), (0, [0, 3])], [], [], [], [], [], [], [], [], [], []⟩
def f_rock_all_field_Model : Abs.Fn := ⟨2, [.t 4],
  (.seq (.reg [0, 3] f86r0) (.seq (.reg [4] f86r1) .ret))⟩
@[simp] theorem e86 : type_of% (show f86r0 = _ ∧ f86r1 = _ from by simp only [f86r0, f86r1, qo, qm, qb, qx, qu, qc, List.map_cons, List.map_nil]; exact ⟨rfl, rfl⟩) := ⟨rfl, rfl⟩
theorem e_rock_all_field_Model : type_of% f_rock_all_field_Model.eq_1 := by_rfl f_rock_all_field_Model.eq_1
theorem ok_rock_all_field_Model : fnC Tryz.prog a_rock_all_field_Model Tryz.f86 = some f_rock_all_field_Model := by kernel_rfl

/-! 87 fumarole/rock.ready$1 -/
def f87r0 : List Abs.Op := [qx 2 0, qb 3 false]
def f87r1 : List Abs.Op := [qa 4 9 1, qa 5 2 2, qo 6 (.bld [(.int .i64 0), (.int .i64 0), (.int .i64 0), (.int .i64 0), .nils, (.int .i64 0), (.int .i64 0), (.int .i64 0), .nils, (.str []), .nils] [(0, 9, (.t 4)), (9, 2, (.t 5))]), qc 7 i_rock_bedded_fits [6], qm 3 7]
def a_rock_ready_1 : Ann := ⟨[(1, [3]), (0, [1, 2])], [], [], [], [], [], [], [], [], [], []⟩
def f_rock_ready_1 : Abs.Fn := ⟨2, [.t 3],
  (.seq (.reg [1, 2] f87r0) (.seq (.reg [3] f87r1) .ret))⟩
@[simp] theorem e87 : type_of% (show f87r0 = _ ∧ f87r1 = _ from by simp only [f87r0, f87r1, qo, qm, qb, qa, qx, qc, List.map_cons, List.map_nil]; exact ⟨rfl, rfl⟩) := ⟨rfl, rfl⟩
theorem e_rock_ready_1 : type_of% f_rock_ready_1.eq_1 := by_rfl f_rock_ready_1.eq_1
theorem ok_rock_ready_1 : fnC Tryz.prog a_rock_ready_1 Tryz.f87 = some f_rock_ready_1 := by kernel_rfl

/-! 88 (fumarole/rock.bedded).fits -/
def f88r0 : List Abs.Op := [qx 1 0, qb 2 false]
def f88r1 : List Abs.Op := [qf 5 0 1, qf 6 0 5, qa 7 4 6, qf 8 9 1, qa 9 2 8, qo 10 (.bsi 1 2 [(.str []), .nils] [(0, 2, (.t 9))]), qc 11 i_field_CheckModels [7, 10], qn 12 .neq 11 0]
def f88r2 : List Abs.Op := [qb 2 false]
def f88r3 : List Abs.Op := [qo 13 (.bld [(.int .i64 0), (.int .i64 0)] [(0, 1, (.c (.int .i64 1000))), (1, 1, (.c (.int .i64 100000)))]), qo 14 (.bld [(.int .i64 0), (.int .i64 0)] [(0, 1, (.c (.int .i64 0))), (1, 1, (.c (.int .i64 1000)))]), qo 15 (.bld [(.int .i64 0), (.int .i64 0)] [(0, 1, (.c (.int .i64 0))), (1, 1, (.c (.int .i64 3000)))]), qo 16 (.bld [(.int .i64 0), (.int .i64 0)] [(0, 1, (.c (.int .i64 0))), (1, 1, (.c (.int .i64 1000)))]), qo 17 (.bld [(.int .i64 0), (.int .i64 0), (.int .i64 0), (.int .i64 0), (.int .i64 0), (.int .i64 0), (.int .i64 0), (.int .i64 0)] [(0, 2, (.t 13)), (2, 2, (.t 14)), (4, 2, (.t 15)), (6, 2, (.t 16))]), qi 18 0]
def f88r4 : List Abs.Op := [qn 19 .lss 18 4]
def f88r5 : List Abs.Op := [qm 20 18, qo 21 (.idxV true 4 2 (.t 17) (.t 18)), qo 4 (.alc [] [(.int .i64 0), (.int .i64 0)]), qm 3 20, qt 2 4 21]
def f88r6 : List Abs.Op := [qa 22 11 1, qm 23 3, qc 24 i_rock_bedded_kind [22, 23], qo 25 (.mkf i_rock_bedded_fits_1 [] [(.t 4)]), qc 26 i_rock_all_int [24, 25], qu 27 26]
def f88r7 : List Abs.Op := [qb 2 false]
def f88r8 : List Abs.Op := [qn 28 .add 18 1, qm 18 28]
def f_rock_bedded_fits_l9 : Abs.Cmd :=
  (.seq (.reg [1, 17, 18, 19] f88r4) (.seq (.ite (.t 19) .nop (.exit 0)) (.seq (.blk 1 (.seq (.reg [1, 3, 4, 17, 18] f88r5) (.seq (.reg [1, 17, 18, 27] f88r6) (.ite (.t 27) (.seq (.reg [2] f88r7) .ret) .nop)))) (.reg [1, 17, 18] f88r8))))

def f88r10 : List Abs.Op := [qb 2 true]
def a_rock_bedded_fits : Ann := ⟨[(9, [2]), (8, [1, 17, 18]), (7, [2]), (6, [1, 17, 18, 27]), (5, [1, 3, 4, 17, 18]), (4, [1, 17, 18, 19]), (3, [1, 17, 18]), (2, [2]), (1, [1, 12]), (0, [1])], [(0, [1, 17, 18])], [0], [4], [], [], [], [], [], [], []⟩
def f_rock_bedded_fits : Abs.Fn := ⟨1, [.t 2],
  (.seq (.reg [1] f88r0) (.seq (.seq (.reg [1, 12] f88r1) (.ite (.t 12) (.seq (.reg [2] f88r2) .ret) .nop)) (.seq (.seq (.reg [1, 17, 18] f88r3) (.blk 0 (.loop [1, 17, 18] true f_rock_bedded_fits_l9))) (.seq (.reg [2] f88r10) .ret))))⟩
@[simp] theorem e88 : type_of% (show f88r0 = _ ∧ f88r1 = _ ∧ f88r2 = _ ∧ f88r3 = _ ∧ f88r4 = _ ∧ f88r5 = _ ∧ f88r6 = _ ∧ f88r7 = _ ∧ f88r8 = _ ∧ f88r10 = _ from by simp only [f88r0, f88r1, f88r2, f88r3, f88r4, f88r5, f88r6, f88r7, f88r8, f88r10, qo, qm, qi, qb, qf, qa, qx, qn, qu, qt, qc, List.map_cons, List.map_nil]; exact ⟨rfl, rfl, rfl, rfl, rfl, rfl, rfl, rfl, rfl, rfl⟩) := ⟨rfl, rfl, rfl, rfl, rfl, rfl, rfl, rfl, rfl, rfl⟩
theorem e_rock_bedded_fits_l9 : type_of% f_rock_bedded_fits_l9.eq_1 := by_rfl f_rock_bedded_fits_l9.eq_1
theorem e_rock_bedded_fits : type_of% f_rock_bedded_fits.eq_1 := by_rfl f_rock_bedded_fits.eq_1
theorem ok_rock_bedded_fits : fnC Tryz.prog a_rock_bedded_fits Tryz.f88 = some f_rock_bedded_fits := by kernel_rfl

/-! 89 (fumarole/rock.bedded).weight -/
def f89r0 : List Abs.Op := [qx 2 0, qi 4 0]
def f89r1 : List Abs.Op := [qM 5 1, qF 6 0 2, qF 7 0 6, qF 8 0 7, qL 9 1 8, qF 10 0 2, qF 11 0 10, qF 12 1 11, qL 13 1 12, qK 14 .mul 9 13, qK 15 .quo 5 14, qF 16 0 2, qF 17 6 16, qL 18 1 17, qk 19 .mul 15 18, qm 4 19]
def a_rock_bedded_weight : Ann := ⟨[(1, [4]), (0, [1, 2])], [], [], [], [], [], [], [], [], [], []⟩
def f_rock_bedded_weight : Abs.Fn := ⟨2, [.t 4],
  (.seq (.reg [1, 2] f89r0) (.seq (.reg [4] f89r1) .ret))⟩
@[simp] theorem e89 : type_of% (show f89r0 = _ ∧ f89r1 = _ from by simp only [f89r0, f89r1, qm, qM, qi, qF, qL, qx, qk, qK]; exact ⟨rfl, rfl⟩) := ⟨rfl, rfl⟩
theorem e_rock_bedded_weight : type_of% f_rock_bedded_weight.eq_1 := by_rfl f_rock_bedded_weight.eq_1
theorem ok_rock_bedded_weight : fnC Tryz.prog a_rock_bedded_weight Tryz.f89 = some f_rock_bedded_weight := by kernel_rfl

/-! 90 fumarole/rock.down -/
def f90r0 : List Abs.Op := [qi 4 0]
def f90r1 : List Abs.Op := [qm 6 0, qm 7 1, qk 8 .quo 6 7, qm 5 8]
def f90r2 : List Abs.Op := [qm 9 5, qm 10 1, qk 11 .mul 9 10, qm 12 0, qk 13 .gtr 11 12]
def f90r3 : List Abs.Op := [qm 14 5, qn 15 .sub 14 1, qm 5 15]
def f90r4 : List Abs.Op := [qm 16 5, qm 4 16]
def a_rock_down : Ann := ⟨[(4, [4]), (3, [5]), (2, [5, 13]), (1, [0, 1, 5]), (0, [0, 1])], [], [], [], [], [], [], [], [], [], []⟩
def f_rock_down : Abs.Fn := ⟨2, [.t 4],
  (.seq (.reg [0, 1] f90r0) (.seq (.reg [0, 1, 5] f90r1) (.seq (.seq (.reg [5, 13] f90r2) (.ite (.t 13) (.reg [5] f90r3) .nop)) (.seq (.reg [4] f90r4) .ret))))⟩
@[simp] theorem e90 : type_of% (show f90r0 = _ ∧ f90r1 = _ ∧ f90r2 = _ ∧ f90r3 = _ ∧ f90r4 = _ from by simp only [f90r0, f90r1, f90r2, f90r3, f90r4, qm, qi, qk, qn]; exact ⟨rfl, rfl, rfl, rfl, rfl⟩) := ⟨rfl, rfl, rfl, rfl, rfl⟩
theorem e_rock_down : type_of% f_rock_down.eq_1 := by_rfl f_rock_down.eq_1
theorem ok_rock_down : fnC Tryz.prog a_rock_down Tryz.f90 = some f_rock_down := by kernel_rfl

/-! 91 (fumarole/rock.bedded).hold -/
def f91r0 : List Abs.Op := [qx 2 0, qi 4 0]
def f91r1 : List Abs.Op := [qa 5 11 2, qo 6 (.call false (.c (.fn i_rock_bedded_kind [] [])) [(.t 5), (.c (.int .i64 0))]), qm 7 1, qj 8 1 6 7, ql 9 1 8, qm 4 9]
def a_rock_bedded_hold : Ann := ⟨[(1, [4]), (0, [1, 2])], [], [], [], [], [], [], [], [], [], []⟩
def f_rock_bedded_hold : Abs.Fn := ⟨2, [.t 4],
  (.seq (.reg [1, 2] f91r0) (.seq (.reg [4] f91r1) .ret))⟩
@[simp] theorem e91 : type_of% (show f91r0 = _ ∧ f91r1 = _ from by simp only [f91r0, f91r1, qo, qm, qi, ql, qa, qx, qj]; exact ⟨rfl, rfl⟩) := ⟨rfl, rfl⟩
theorem e_rock_bedded_hold : type_of% f_rock_bedded_hold.eq_1 := by_rfl f_rock_bedded_hold.eq_1
theorem ok_rock_bedded_hold : fnC Tryz.prog a_rock_bedded_hold Tryz.f91 = some f_rock_bedded_hold := by kernel_rfl

/-! 92 (fumarole/rock.Bed).rates -/
def f92r0 : List Abs.Op := [qx 2 0, qi 4 0]
def f92r1 : List Abs.Op := [qm 6 1, qe 7 6, qf 8 8 2, ql 9 1 8, qe 10 9, qk 11 .neq 7 10, qm 5 11]
def f92r2 : List Abs.Op := [qi 4 1]
def f92r3 : List Abs.Op := [qm 13 1, qo 14 (.call false (.c (.fn i_rock_all_int [] [])) [(.t 13), (.c (.fn i_rock_Bed_rates_1 [] []))]), qu 15 14, qm 12 15]
def f92r4 : List Abs.Op := [qi 4 2]
def f92r5 : List Abs.Op := [qi 4 0]
def a_rock_Bed_rates : Ann := ⟨[(5, [4]), (2, [4]), (4, [4]), (3, [12]), (1, [1, 5]), (0, [1, 2])], [], [], [], [], [], [], [], [], [], []⟩
def f_rock_Bed_rates : Abs.Fn := ⟨2, [.t 4],
  (.seq (.reg [1, 2] f92r0) (.seq (.blk 0 (.seq (.reg [1, 5] f92r1) (.ite (.t 5) (.seq (.reg [4] f92r2) .ret) (.seq (.reg [12] f92r3) (.ite (.t 12) (.seq (.reg [4] f92r4) .ret) .nop))))) (.seq (.reg [4] f92r5) .ret)))⟩
@[simp] theorem e92 : type_of% (show f92r0 = _ ∧ f92r1 = _ ∧ f92r2 = _ ∧ f92r3 = _ ∧ f92r4 = _ ∧ f92r5 = _ from by simp only [f92r0, f92r1, f92r2, f92r3, f92r4, f92r5, qo, qm, qi, qf, ql, qx, qe, qk, qu]; exact ⟨rfl, rfl, rfl, rfl, rfl, rfl⟩) := ⟨rfl, rfl, rfl, rfl, rfl, rfl⟩
theorem e_rock_Bed_rates : type_of% f_rock_Bed_rates.eq_1 := by_rfl f_rock_Bed_rates.eq_1
theorem ok_rock_Bed_rates : fnC Tryz.prog a_rock_Bed_rates Tryz.f92 = some f_rock_Bed_rates := by kernel_rfl

/-! 93 (fumarole/rock.bedded).first -/
def f93r0 : List Abs.Op := [qx 1 0, qo 2 (.nilb 3)]
def f93r1 : List Abs.Op := [qf 4 0 1, qa 5 9 4, qc 6 i_rock_Bed_size [5], qi 7 0]
def f93r2 : List Abs.Op := [qk 8 .lss 7 6]
def f93r3 : List Abs.Op := [qm 9 7, qm 3 9]
def f93r4 : List Abs.Op := [qM 10 2, qA 11 11 1, qM 12 3, qC 13 i_rock_bedded_hold [11, 12], qA 14 11 1, qM 15 3, qC 16 i_rock_bedded_hold [14, 15], qA 17 11 1, qM 18 3, qC 19 i_rock_bedded_warm [17, 18], qK 20 .mul 16 19, qO 21 (.bld [(.int .i64 0), (.int .i64 0), (.int .i64 0)] [(0, 1, (.t 13)), (1, 1, (.t 20))]), qO 22 (.bsi 1 3 [(.int .i64 0), (.int .i64 0), (.int .i64 0)] [(0, 3, (.t 21))]), qy 23 3 24 10 22, qm 2 23]
def f93r5 : List Abs.Op := [qn 24 .add 7 1, qm 7 24]
def f_rock_bedded_first_l6 : Abs.Cmd :=
  (.seq (.reg [1, 2, 6, 7, 8] f93r2) (.seq (.ite (.t 8) .nop (.exit 0)) (.seq (.blk 1 (.seq (.reg [1, 2, 3, 6, 7] f93r3) (.reg [1, 2, 6, 7] f93r4))) (.reg [1, 2, 6, 7] f93r5))))

def f93r7 : List Abs.Op := [qm 25 2, qm 2 25]
def a_rock_bedded_first : Ann := ⟨[(6, [2]), (5, [1, 2, 6, 7]), (4, [1, 2, 6, 7]), (3, [1, 2, 3, 6, 7]), (2, [1, 2, 6, 7, 8]), (1, [1, 2, 6, 7]), (0, [1, 2])], [(0, [1, 2, 6, 7])], [], [2], [], [], [], [], [], [], []⟩
def f_rock_bedded_first : Abs.Fn := ⟨1, [.t 2],
  (.seq (.reg [1, 2] f93r0) (.seq (.seq (.reg [1, 2, 6, 7] f93r1) (.blk 0 (.loop [1, 2, 6, 7] false f_rock_bedded_first_l6))) (.seq (.reg [2] f93r7) .ret)))⟩
@[simp] theorem e93 : type_of% (show f93r0 = _ ∧ f93r1 = _ ∧ f93r2 = _ ∧ f93r3 = _ ∧ f93r4 = _ ∧ f93r5 = _ ∧ f93r7 = _ from by simp only [f93r0, f93r1, f93r2, f93r3, f93r4, f93r5, f93r7, qo, qO, qm, qM, qi, qf, qa, qA, qx, qk, qK, qn, qc, qC, qy, List.map_cons, List.map_nil]; exact ⟨rfl, rfl, rfl, rfl, rfl, rfl, rfl⟩) := ⟨rfl, rfl, rfl, rfl, rfl, rfl, rfl⟩
theorem e_rock_bedded_first_l6 : type_of% f_rock_bedded_first_l6.eq_1 := by_rfl f_rock_bedded_first_l6.eq_1
theorem e_rock_bedded_first : type_of% f_rock_bedded_first.eq_1 := by_rfl f_rock_bedded_first.eq_1
theorem ok_rock_bedded_first : fnC Tryz.prog a_rock_bedded_first Tryz.f93 = some f_rock_bedded_first := by kernel_rfl

/-! 94 (fumarole/rock.bedded).tick -/
def f94r0 : List Abs.Op := [qx 3 0, qo 6 (.mv (.c .nils)), qo 7 (.mv (.c .nils)), qi 8 0]
def f94r1 : List Abs.Op := [qm 18 1, qo 19 (.call true (.c (.fn i_slices_Clone_rock_State_rock_Block [] [])) [(.t 18)]), qm 9 19]
def f94r2 : List Abs.Op := [qa 20 11 3, qm 21 1, qo 22 (.call true (.c (.fn i_rock_bedded_flows [] [])) [(.t 20), (.t 21)]), qo 23 (.mp (.rng) [(.t 22)])]
def f94r3 : List Abs.Op := [qo 26 (.mp (.ent) [(.t 23)]), qz 27 26 0, qz 28 26 1, qo 10 (.alcv [] [(.int .i64 0), (.int .i64 0)]), qo 11 (.alcv [] [(.int .i64 0), (.int .i64 0), (.int .i64 0)]), qs 10 2 10 27, qs 11 3 11 28]
def f94r4 : List Abs.Op := [qM 29 9, qF 30 0 10, qV 31 10 1 30, qJ 32 3 29 31, qW 33 11 3 11, qo 34 (.call false (.c (.fn i_rock_Block_move [] [])) [(.t 32), (.t 33), (.c (.int .i64 (-1)))])]
def f94r5 : List Abs.Op := [qM 35 9, qF 36 1 10, qV 37 10 1 36, qJ 38 3 35 37, qW 39 11 3 11, qo 40 (.call false (.c (.fn i_rock_Block_move [] [])) [(.t 38), (.t 39), (.c (.int .i64 1))])]
def f_rock_bedded_tick_l6 : Abs.Cmd :=
  (.seq (.ite (.t 25) .nop (.exit 0)) (.blk 1 (.seq (.reg [1, 2, 3, 9, 10, 11, 23] f94r3) (.seq (.reg [1, 2, 3, 9, 10, 11, 23] f94r4) (.reg [1, 2, 3, 9, 23] f94r5)))))

def f94r7 : List Abs.Op := [qo 12 (.nilb 3)]
def f94r8 : List Abs.Op := [qm 41 2, qe 42 41, qi 43 0]
def f94r9 : List Abs.Op := [qk 44 .lss 43 42]
def f94r10 : List Abs.Op := [qm 45 43, qj 46 1 41 43, ql 47 1 46, qm 13 45, qm 14 47]
def f94r11 : List Abs.Op := [qf 48 0 3, qf 49 8 48, ql 50 1 49, qm 51 13, qj 52 3 50 51, qf 53 0 52, ql 54 1 53, qm 15 54]
def f94r12 : List Abs.Op := [qo 16 (.alcv [] [(.int .i64 0), (.int .i64 0), (.int .i64 0)])]
def f94r13 : List Abs.Op := [qm 55 14, qn 56 .lss 55 0]
def f94r14 : List Abs.Op := [qM 57 9, qM 58 15, qJ 59 3 57 58, qF 60 0 3, qF 61 8 60, qL 62 1 61, qM 63 13, qJ 64 3 62 63, qA 65 3 64, qM 66 14, qC 67 i_rock_Bore_given [65, 66], qo 68 (.call false (.c (.fn i_rock_Block_move [] [])) [(.t 59), (.t 67), (.c (.int .i64 1))])]
def f94r15 : List Abs.Op := [qM 69 1, qM 70 15, qJ 71 3 69 70, qA 72 3 71, qM 73 14, qM 74 1, qM 75 15, qJ 76 3 74 75, qF 77 0 76, qL 78 1 77, qN 79 .quo 78 8, qO 80 (.mn (.t 73) (.t 79)), qc 81 i_rock_Block_out [72, 80], qs 16 3 16 81]
def f94r16 : List Abs.Op := [qM 82 9, qM 83 15, qJ 84 3 82 83, qW 85 16 3 16, qo 86 (.call false (.c (.fn i_rock_Block_move [] [])) [(.t 84), (.t 85), (.c (.int .i64 (-1)))])]
def f94r17 : List Abs.Op := [qm 87 12, qw 88 16 3 16, qo 89 (.bsi 1 3 [(.int .i64 0), (.int .i64 0), (.int .i64 0)] [(0, 3, (.t 88))]), qy 90 3 24 87 89, qm 12 90]
def f94r18 : List Abs.Op := [qn 91 .add 43 1, qm 43 91]
def f_rock_bedded_tick_l19 : Abs.Cmd :=
  (.seq (.reg [1, 3, 9, 12, 41, 42, 43, 44] f94r9) (.seq (.ite (.t 44) .nop (.exit 2)) (.seq (.blk 3 (.seq (.reg [1, 3, 9, 12, 13, 14, 41, 42, 43] f94r10) (.seq (.reg [1, 3, 9, 12, 13, 14, 15, 41, 42, 43] f94r11) (.seq (.reg [1, 3, 9, 12, 13, 14, 15, 16, 41, 42, 43] f94r12) (.seq (.seq (.reg [1, 3, 9, 12, 13, 14, 15, 16, 41, 42, 43, 56] f94r13) (.ite (.t 56) (.reg [1, 3, 9, 12, 16, 41, 42, 43] f94r14) (.seq (.reg [1, 3, 9, 12, 15, 16, 41, 42, 43] f94r15) (.reg [1, 3, 9, 12, 16, 41, 42, 43] f94r16)))) (.reg [1, 3, 9, 12, 41, 42, 43] f94r17)))))) (.reg [1, 3, 9, 12, 41, 42, 43] f94r18))))

def f94r20 : List Abs.Op := [qm 92 9, qe 93 92, qi 94 0]
def f94r21 : List Abs.Op := [qk 95 .lss 94 93]
def f94r22 : List Abs.Op := [qm 96 94, qm 17 96]
def f94r23 : List Abs.Op := [qM 97 9, qM 98 17, qJ 99 3 97 98, qA 100 11 3, qM 101 17, qC 102 i_rock_bedded_fed [100, 101], qo 103 (.call false (.c (.fn i_rock_Block_move [] [])) [(.t 99), (.t 102), (.c (.int .i64 1))])]
def f94r24 : List Abs.Op := [qn 104 .add 94 1, qm 94 104]
def f_rock_bedded_tick_l25 : Abs.Cmd :=
  (.seq (.reg [3, 9, 12, 93, 94, 95] f94r21) (.seq (.ite (.t 95) .nop (.exit 4)) (.seq (.blk 5 (.seq (.reg [3, 9, 12, 17, 93, 94] f94r22) (.reg [3, 9, 12, 93, 94] f94r23))) (.reg [3, 9, 12, 93, 94] f94r24))))

def f94r26 : List Abs.Op := [qa 105 11 3, qm 106 9, qc 107 i_rock_bedded_state [105, 106], qu 108 107]
def f94r27 : List Abs.Op := [qo 6 (.mv (.c .nils)), qo 7 (.mv (.c .nils)), qi 8 9]
def f94r28 : List Abs.Op := [qm 109 9, qm 110 12, qm 6 109, qm 7 110, qi 8 0]
def f_rock_bedded_tick_l29 : Abs.Cmd :=
  (.seq (.reg [1, 2, 3, 9, 12] f94r7) (.seq (.seq (.reg [1, 3, 9, 12, 41, 42, 43] f94r8) (.blk 2 (.loop [1, 3, 9, 12, 41, 42, 43] false f_rock_bedded_tick_l19))) (.seq (.seq (.reg [3, 9, 12, 93, 94] f94r20) (.blk 4 (.loop [3, 9, 12, 93, 94] false f_rock_bedded_tick_l25))) (.seq (.seq (.reg [9, 12, 108] f94r26) (.ite (.t 108) (.seq (.reg [6, 7, 8] f94r27) .ret) .nop)) (.seq (.reg [6, 7, 8] f94r28) .ret)))))

def a_rock_bedded_tick : Ann := ⟨[(26, [6, 7, 8]), (25, [6, 7, 8]), (24, [9, 12, 108]), (23, [3, 9, 12, 93, 94]), (22, [3, 9, 12, 93, 94]), (21, [3, 9, 12, 17, 93, 94]), (20, [3, 9, 12, 93, 94, 95]), (19, [3, 9, 12, 93, 94]), (18, [1, 3, 9, 12, 41, 42, 43]), (17, [1, 3, 9, 12, 41, 42, 43]), (14, [1, 3, 9, 12, 16, 41, 42, 43]), (16, [1, 3, 9, 12, 16, 41, 42, 43]), (15, [1, 3, 9, 12, 15, 16, 41, 42, 43]), (13, [1, 3, 9, 12, 13, 14, 15, 16, 41, 42, 43, 56]), (12, [1, 3, 9, 12, 13, 14, 15, 16, 41, 42, 43]), (11, [1, 3, 9, 12, 13, 14, 15, 41, 42, 43]), (10, [1, 3, 9, 12, 13, 14, 41, 42, 43]), (9, [1, 3, 9, 12, 41, 42, 43, 44]), (8, [1, 3, 9, 12, 41, 42, 43]), (7, [1, 2, 3, 9, 12]), (6, [1, 2, 3, 9, 23]), (5, [1, 2, 3, 9, 10, 11, 23]), (4, [1, 2, 3, 9, 10, 11, 23]), (3, [1, 2, 3, 9, 23, 25]), (2, [1, 2, 3, 9, 23]), (1, [1, 2, 3, 9]), (0, [1, 2, 3])], [(4, [3, 9, 12, 93, 94]), (2, [1, 3, 9, 12, 41, 42, 43]), (0, [1, 2, 3, 9, 23])], [], [10, 11, 12, 16], [10, 11, 16], [], [2002, 1001], [], [], [], []⟩
def f_rock_bedded_tick : Abs.Fn := ⟨3, [.t 6, .t 7, .t 8],
  (.seq (.reg [1, 2, 3] f94r0) (.seq (.reg [1, 2, 3, 9] f94r1) (.seq (.reg [1, 2, 3, 9, 23] f94r2) (.mloop [1, 2, 3, 9, 23] (.t 23) 24 25 0 f_rock_bedded_tick_l6 f_rock_bedded_tick_l29))))⟩
@[simp] theorem e94 : type_of% (show f94r0 = _ ∧ f94r1 = _ ∧ f94r2 = _ ∧ f94r3 = _ ∧ f94r4 = _ ∧ f94r5 = _ ∧ f94r7 = _ ∧ f94r8 = _ ∧ f94r9 = _ ∧ f94r10 = _ ∧ f94r11 = _ ∧ f94r12 = _ ∧ f94r13 = _ ∧ f94r14 = _ ∧ f94r15 = _ ∧ f94r16 = _ ∧ f94r17 = _ ∧ f94r18 = _ ∧ f94r20 = _ ∧ f94r21 = _ ∧ f94r22 = _ ∧ f94r23 = _ ∧ f94r24 = _ ∧ f94r26 = _ ∧ f94r27 = _ ∧ f94r28 = _ from by simp only [f94r0, f94r1, f94r2, f94r3, f94r4, f94r5, f94r7, f94r8, f94r9, f94r10, f94r11, f94r12, f94r13, f94r14, f94r15, f94r16, f94r17, f94r18, f94r20, f94r21, f94r22, f94r23, f94r24, f94r26, f94r27, f94r28, qo, qO, qm, qM, qi, qf, qF, ql, qL, qa, qA, qV, qw, qW, qx, qe, qj, qJ, qk, qn, qN, qu, qs, qz, qc, qC, qy, List.map_cons, List.map_nil]; exact ⟨rfl, rfl, rfl, rfl, rfl, rfl, rfl, rfl, rfl, rfl, rfl, rfl, rfl, rfl, rfl, rfl, rfl, rfl, rfl, rfl, rfl, rfl, rfl, rfl, rfl, rfl⟩) := ⟨rfl, rfl, rfl, rfl, rfl, rfl, rfl, rfl, rfl, rfl, rfl, rfl, rfl, rfl, rfl, rfl, rfl, rfl, rfl, rfl, rfl, rfl, rfl, rfl, rfl, rfl⟩
theorem e_rock_bedded_tick_l6 : type_of% f_rock_bedded_tick_l6.eq_1 := by_rfl f_rock_bedded_tick_l6.eq_1
theorem e_rock_bedded_tick_l19 : type_of% f_rock_bedded_tick_l19.eq_1 := by_rfl f_rock_bedded_tick_l19.eq_1
theorem e_rock_bedded_tick_l25 : type_of% f_rock_bedded_tick_l25.eq_1 := by_rfl f_rock_bedded_tick_l25.eq_1
theorem e_rock_bedded_tick_l29 : type_of% f_rock_bedded_tick_l29.eq_1 := by_rfl f_rock_bedded_tick_l29.eq_1
theorem e_rock_bedded_tick : type_of% f_rock_bedded_tick.eq_1 := by_rfl f_rock_bedded_tick.eq_1
theorem ok_rock_bedded_tick : fnC Tryz.prog a_rock_bedded_tick Tryz.f94 = some f_rock_bedded_tick := by kernel_rfl

/-! 95 fumarole/steam.all[fumarole/steam.Row] -/
def f95r0 : List Abs.Op := [qx 3 1, qb 4 false]
def f95r1 : List Abs.Op := [qm 5 0, qo 6 (.mkf i_steam_all_steam_Row_1 [] [(.t 3)]), qc 7 i_slices_ContainsFunc_steam_Row [5, 6], qu 8 7, qm 4 8]
def a_steam_all_steam_Row : Ann := ⟨[(1, [4]), (0, [0, 3])], [], [], [], [], [], [], [], [], [], []⟩
def f_steam_all_steam_Row : Abs.Fn := ⟨2, [.t 4],
  (.seq (.reg [0, 3] f95r0) (.seq (.reg [4] f95r1) .ret))⟩
@[simp] theorem e95 : type_of% (show f95r0 = _ ∧ f95r1 = _ from by simp only [f95r0, f95r1, qo, qm, qb, qx, qu, qc, List.map_cons, List.map_nil]; exact ⟨rfl, rfl⟩) := ⟨rfl, rfl⟩
theorem e_steam_all_steam_Row : type_of% f_steam_all_steam_Row.eq_1 := by_rfl f_steam_all_steam_Row.eq_1
theorem ok_steam_all_steam_Row : fnC Tryz.prog a_steam_all_steam_Row Tryz.f95 = some f_steam_all_steam_Row := by kernel_rfl

/-! 96 (fumarole/steam.Row).alone -/
def f96r0 : List Abs.Op := [qx 1 0, qb 2 false]
def f96r1 : List Abs.Op := [qf 3 0 1, ql 4 1 3, qo 5 (.call false (.c (.fn i_steam_within [] [])) [(.t 4), (.c (.int .i64 0)), (.c (.int .i64 400))]), qm 6 5, qg 6 true (qf 7 1 1), qg 6 true (ql 8 1 7), qg 6 true (qo 9 (.call false (.c (.fn i_steam_within [] [])) [(.t 8), (.c (.int .i64 1)), (.c (.int .i64 10000))])), qp 10 6 9, qm 11 10, qg 11 true (qf 12 2 1), qg 11 true (ql 13 1 12), qg 11 true (qo 14 (.call false (.c (.fn i_steam_within [] [])) [(.t 13), (.c (.int .i64 0)), (.c (.int .i64 4000))])), qp 15 11 14, qm 16 15, qg 16 true (qf 17 4 1), qg 16 true (ql 18 1 17), qg 16 true (qo 19 (.call false (.c (.fn i_steam_within [] [])) [(.t 18), (.c (.int .i64 0)), (.c (.int .i64 2000))])), qp 20 16 19, qm 21 20, qg 21 true (qf 22 2 1), qg 21 true (ql 23 1 22), qg 21 true (qf 24 3 1), qg 21 true (ql 25 1 24), qg 21 true (qk 26 .lss 23 25), qp 27 21 26, qm 28 27, qg 28 true (qf 29 3 1), qg 28 true (ql 30 1 29), qg 28 true (qn 31 .leq 30 4000), qp 32 28 31, qm 2 32]
def a_steam_Row_alone : Ann := ⟨[(1, [2]), (0, [1])], [], [], [], [], [], [], [], [], [], []⟩
def f_steam_Row_alone : Abs.Fn := ⟨1, [.t 2],
  (.seq (.reg [1] f96r0) (.seq (.reg [2] f96r1) .ret))⟩
@[simp] theorem e96 : type_of% (show f96r0 = _ ∧ f96r1 = _ from by simp only [f96r0, f96r1, qo, qm, qb, qf, ql, qx, qk, qn, qp, qg]; exact ⟨rfl, rfl⟩) := ⟨rfl, rfl⟩
theorem e_steam_Row_alone : type_of% f_steam_Row_alone.eq_1 := by_rfl f_steam_Row_alone.eq_1
theorem ok_steam_Row_alone : fnC Tryz.prog a_steam_Row_alone Tryz.f96 = some f_steam_Row_alone := by kernel_rfl

/-! 98 fumarole/fumaroleref02.Name -/
def f98r0 : List Abs.Op := [qb 2 false]
def f98r1 : List Abs.Op := [qi 3 0]
def f98r2 : List Abs.Op := [qm 5 3, qm 6 0, qo 7 (.pur (.slen) [(.t 6)]), qk 8 .lss 5 7]
def f98r3 : List Abs.Op := [qm 11 0, qm 12 3, qo 13 (.pur (.sidx) [(.t 11), (.t 12)]), qo 14 (.bin .geq (.t 13) (.c (.int .u8 97))), qm 15 14, qg 15 true (qm 16 0), qg 15 true (qm 17 3), qg 15 true (qo 18 (.pur (.sidx) [(.t 16), (.t 17)])), qg 15 true (qo 19 (.bin .leq (.t 18) (.c (.int .u8 122)))), qp 20 15 19, qm 4 20]
def f98r4 : List Abs.Op := [qm 21 4, qu 22 21, qm 23 22, qg 23 true (qm 24 3), qg 23 true (qn 25 .eql 24 0), qg 23 true (qm 26 25), qg 26 false (qm 27 0), qg 26 false (qm 28 3), qg 26 false (qo 29 (.pur (.sidx) [(.t 27), (.t 28)])), qg 26 false (qo 30 (.bin .lss (.t 29) (.c (.int .u8 48)))), qg 23 true (qP 31 26 30), qg 23 true (qm 32 31), qg 32 false (qm 33 0), qg 32 false (qm 34 3), qg 32 false (qo 35 (.pur (.sidx) [(.t 33), (.t 34)])), qg 32 false (qo 36 (.bin .gtr (.t 35) (.c (.int .u8 57)))), qg 23 true (qP 37 32 36), qp 38 23 37]
def f98r5 : List Abs.Op := [qb 2 false]
def f98r6 : List Abs.Op := [qm 9 3, qn 10 .add 9 1, qm 3 10]
def f_ref02_Name_l7 : Abs.Cmd :=
  (.seq (.seq (.reg [0, 3, 8] f98r2) (.ite (.t 8) .nop (.exit 0))) (.seq (.blk 1 (.seq (.reg [0, 3, 4] f98r3) (.seq (.reg [0, 3, 38] f98r4) (.ite (.t 38) (.seq (.reg [2] f98r5) .ret) .nop)))) (.reg [0, 3] f98r6)))

def f98r8 : List Abs.Op := [qm 39 0, qo 40 (.pur (.slen) [(.t 39)]), qn 41 .geq 40 1, qm 42 41, qg 42 true (qm 43 0), qg 42 true (qo 44 (.pur (.slen) [(.t 43)])), qg 42 true (qn 45 .leq 44 16), qp 46 42 45, qm 2 46]
def a_ref02_Name : Ann := ⟨[(7, [2]), (3, [0, 3]), (6, [2]), (5, [0, 3, 38]), (4, [0, 3, 4]), (2, [0, 3, 8]), (1, [0, 3]), (0, [0])], [(0, [0, 3])], [], [], [], [], [], [], [], [], []⟩
def f_ref02_Name : Abs.Fn := ⟨1, [.t 2],
  (.seq (.reg [0] f98r0) (.seq (.seq (.reg [0, 3] f98r1) (.blk 0 (.loop [0, 3] false f_ref02_Name_l7))) (.seq (.reg [2] f98r8) .ret)))⟩
@[simp] theorem e98 : type_of% (show f98r0 = _ ∧ f98r1 = _ ∧ f98r2 = _ ∧ f98r3 = _ ∧ f98r4 = _ ∧ f98r5 = _ ∧ f98r6 = _ ∧ f98r8 = _ from by simp only [f98r0, f98r1, f98r2, f98r3, f98r4, f98r5, f98r6, f98r8, qo, qm, qi, qb, qk, qn, qu, qp, qP, qg]; exact ⟨rfl, rfl, rfl, rfl, rfl, rfl, rfl, rfl⟩) := ⟨rfl, rfl, rfl, rfl, rfl, rfl, rfl, rfl⟩
theorem e_ref02_Name_l7 : type_of% f_ref02_Name_l7.eq_1 := by_rfl f_ref02_Name_l7.eq_1
theorem e_ref02_Name : type_of% f_ref02_Name.eq_1 := by_rfl f_ref02_Name.eq_1
theorem ok_ref02_Name : fnC Tryz.prog a_ref02_Name Tryz.f98 = some f_ref02_Name := by kernel_rfl

/-! 99 fumarole/fumaroleref02.sums -/
def f99r0 : List Abs.Op := [qx 4 0, qb 8 false]
def f99r1 : List Abs.Op := [qm 10 1, qf 11 3 4, ql 12 1 11, qn 13 .sub 12 1, qo 14 (.call false (.c (.fn i_ref02_In [] [])) [(.t 10), (.c (.int .i64 0)), (.t 13)]), qu 15 14, qm 16 15, qg 16 false (qm 17 2), qg 16 false (qe 18 17), qg 16 false (qn 19 .lss 18 1), qP 20 16 19, qm 21 20, qg 21 false (qm 22 2), qg 21 false (qe 23 22), qg 21 false (qm 24 3), qg 21 false (qe 25 24), qg 21 false (qk 26 .neq 23 25), qP 27 21 26]
def f99r2 : List Abs.Op := [qb 8 false]
def f99r3 : List Abs.Op := [qi 9 0]
def f99r4 : List Abs.Op := [qm 28 9, qm 29 2, qe 30 29, qk 31 .lss 28 30]
def f99r5 : List Abs.Op := [qM 34 2, qM 35 9, qJ 36 1 34 35, qL 37 1 36, qA 38 4 4, qC 39 i_ref02_Size [38], qN 40 .sub 39 1, qO 41 (.call false (.c (.fn i_ref02_In [] [])) [(.t 37), (.c (.int .i64 0)), (.t 40)]), qO 42 (.un .not (.t 41)), qM 43 42, qg 43 false (qM 44 9), qg 43 false (qN 45 .gtr 44 0), qg 43 false (qM 46 45), qg 46 true (qM 47 2), qg 46 true (qM 48 9), qg 46 true (qJ 49 1 47 48), qg 46 true (qL 50 1 49), qg 46 true (qM 51 2), qg 46 true (qM 52 9), qg 46 true (qN 53 .sub 52 1), qg 46 true (qJ 54 1 51 53), qg 46 true (qL 55 1 54), qg 46 true (qK 56 .leq 50 55), qg 43 false (qO 57 (.pick (.t 46) (.t 56) (.c (.bool false)))), qO 58 (.pick (.t 43) (.c (.bool true)) (.t 57)), qM 59 58, qg 59 false (qM 60 3), qg 59 false (qM 61 9), qg 59 false (qj 62 1 60 61), qg 59 false (ql 63 1 62), qg 59 false (qo 64 (.call false (.c (.fn i_ref02_In [] [])) [(.t 63), (.c (.int .i64 (-1000))), (.c (.int .i64 1000))])), qg 59 false (qu 65 64), qP 66 59 65]
def f99r6 : List Abs.Op := [qb 8 false]
def f99r7 : List Abs.Op := [qm 32 9, qn 33 .add 32 1, qm 9 33]
def f_ref02_sums_l8 : Abs.Cmd :=
  (.seq (.seq (.reg [2, 3, 4, 9, 31] f99r4) (.ite (.t 31) .nop (.exit 0))) (.seq (.blk 1 (.seq (.reg [2, 3, 4, 9, 66] f99r5) (.ite (.t 66) (.seq (.reg [8] f99r6) .ret) .nop))) (.reg [2, 3, 4, 9] f99r7)))

def f99r9 : List Abs.Op := [qb 8 true]
def a_ref02_sums : Ann := ⟨[(8, [8]), (5, [2, 3, 4, 9]), (7, [8]), (6, [2, 3, 4, 9, 66]), (4, [2, 3, 4, 9, 31]), (3, [2, 3, 4, 9]), (2, [8]), (1, [2, 3, 4, 27]), (0, [1, 2, 3, 4])], [(0, [2, 3, 4, 9])], [], [], [], [], [], [], [], [], []⟩
def f_ref02_sums : Abs.Fn := ⟨4, [.t 8],
  (.seq (.reg [1, 2, 3, 4] f99r0) (.seq (.seq (.reg [2, 3, 4, 27] f99r1) (.ite (.t 27) (.seq (.reg [8] f99r2) .ret) .nop)) (.seq (.seq (.reg [2, 3, 4, 9] f99r3) (.blk 0 (.loop [2, 3, 4, 9] false f_ref02_sums_l8))) (.seq (.reg [8] f99r9) .ret))))⟩
@[simp] theorem e99 : type_of% (show f99r0 = _ ∧ f99r1 = _ ∧ f99r2 = _ ∧ f99r3 = _ ∧ f99r4 = _ ∧ f99r5 = _ ∧ f99r6 = _ ∧ f99r7 = _ ∧ f99r9 = _ from by simp only [f99r0, f99r1, f99r2, f99r3, f99r4, f99r5, f99r6, f99r7, f99r9, qo, qO, qm, qM, qi, qb, qf, ql, qL, qA, qx, qe, qj, qJ, qk, qK, qn, qN, qu, qP, qC, qg, List.map_cons, List.map_nil]; exact ⟨rfl, rfl, rfl, rfl, rfl, rfl, rfl, rfl, rfl⟩) := ⟨rfl, rfl, rfl, rfl, rfl, rfl, rfl, rfl, rfl⟩
theorem e_ref02_sums_l8 : type_of% f_ref02_sums_l8.eq_1 := by_rfl f_ref02_sums_l8.eq_1
theorem e_ref02_sums : type_of% f_ref02_sums.eq_1 := by_rfl f_ref02_sums.eq_1
theorem ok_ref02_sums : fnC Tryz.prog a_ref02_sums Tryz.f99 = some f_ref02_sums := by kernel_rfl

/-! 100 fumarole/fumaroleref02.Ends -/
def f100r0 : List Abs.Op := [qx 1 0, qb 2 false]
def f100r1 : List Abs.Op := [qf 3 0 1, ql 4 1 3, qo 5 (.call false (.c (.fn i_ref02_In [] [])) [(.t 4), (.c (.int .i64 (-10000000000))), (.c (.int .i64 10000000000))]), qm 6 5, qg 6 true (qf 7 1 1), qg 6 true (ql 8 1 7), qg 6 true (qo 9 (.call false (.c (.fn i_ref02_In [] [])) [(.t 8), (.c (.int .i64 (-10000000000))), (.c (.int .i64 10000000000))])), qp 10 6 9, qm 11 10, qg 11 true (qf 12 0 1), qg 11 true (ql 13 1 12), qg 11 true (qf 14 1 1), qg 11 true (ql 15 1 14), qg 11 true (qk 16 .leq 13 15), qp 17 11 16, qm 2 17]
def a_ref02_Ends : Ann := ⟨[(1, [2]), (0, [1])], [], [], [], [], [], [], [], [], [], []⟩
def f_ref02_Ends : Abs.Fn := ⟨1, [.t 2],
  (.seq (.reg [1] f100r0) (.seq (.reg [2] f100r1) .ret))⟩
@[simp] theorem e100 : type_of% (show f100r0 = _ ∧ f100r1 = _ from by simp only [f100r0, f100r1, qo, qm, qb, qf, ql, qx, qk, qp, qg]; exact ⟨rfl, rfl⟩) := ⟨rfl, rfl⟩
theorem e_ref02_Ends : type_of% f_ref02_Ends.eq_1 := by_rfl f_ref02_Ends.eq_1
theorem ok_ref02_Ends : fnC Tryz.prog a_ref02_Ends Tryz.f100 = some f_ref02_Ends := by kernel_rfl

/-! 101 fumarole/field.first -/
def f101r0 : List Abs.Op := [qi 2 0]
def f101r1 : List Abs.Op := [qm 6 0, qe 7 6, qi 8 0]
def f101r2 : List Abs.Op := [qk 9 .lss 8 7]
def f101r3 : List Abs.Op := [qj 10 1 6 8, ql 11 1 10, qm 4 11]
def f101r4 : List Abs.Op := [qm 12 4, qo 13 (.call false (.t 12) []), qm 5 13]
def f101r5 : List Abs.Op := [qm 14 5, qn 15 .neq 14 0]
def f101r6 : List Abs.Op := [qm 16 5, qm 2 16]
def f101r7 : List Abs.Op := [qn 17 .add 8 1, qm 8 17]
def f_field_first_l8 : Abs.Cmd :=
  (.seq (.reg [6, 7, 8, 9] f101r2) (.seq (.ite (.t 9) .nop (.exit 0)) (.seq (.blk 1 (.seq (.reg [4, 6, 7, 8] f101r3) (.seq (.reg [5, 6, 7, 8] f101r4) (.seq (.reg [5, 6, 7, 8, 15] f101r5) (.ite (.t 15) (.seq (.reg [2] f101r6) .ret) .nop))))) (.reg [6, 7, 8] f101r7))))

def f101r9 : List Abs.Op := [qi 2 0]
def a_field_first : Ann := ⟨[(8, [2]), (7, [6, 7, 8]), (6, [2]), (5, [5, 6, 7, 8, 15]), (4, [5, 6, 7, 8]), (3, [4, 6, 7, 8]), (2, [6, 7, 8, 9]), (1, [6, 7, 8]), (0, [0])], [(0, [6, 7, 8])], [], [], [], [], [], [], [], [], []⟩
def f_field_first : Abs.Fn := ⟨1, [.t 2],
  (.seq (.reg [0] f101r0) (.seq (.seq (.reg [6, 7, 8] f101r1) (.blk 0 (.loop [6, 7, 8] false f_field_first_l8))) (.seq (.reg [2] f101r9) .ret)))⟩
@[simp] theorem e101 : type_of% (show f101r0 = _ ∧ f101r1 = _ ∧ f101r2 = _ ∧ f101r3 = _ ∧ f101r4 = _ ∧ f101r5 = _ ∧ f101r6 = _ ∧ f101r7 = _ ∧ f101r9 = _ from by simp only [f101r0, f101r1, f101r2, f101r3, f101r4, f101r5, f101r6, f101r7, f101r9, qo, qm, qi, ql, qe, qj, qk, qn]; exact ⟨rfl, rfl, rfl, rfl, rfl, rfl, rfl, rfl, rfl⟩) := ⟨rfl, rfl, rfl, rfl, rfl, rfl, rfl, rfl, rfl⟩
theorem e_field_first_l8 : type_of% f_field_first_l8.eq_1 := by_rfl f_field_first_l8.eq_1
theorem e_field_first : type_of% f_field_first.eq_1 := by_rfl f_field_first.eq_1
theorem ok_field_first : fnC Tryz.prog a_field_first Tryz.f101 = some f_field_first := by kernel_rfl

/-! 102 (fumarole/field.Field).shape -/
def f102r0 : List Abs.Op := [qx 1 0, qi 2 0]
def f102r1 : List Abs.Op := [qa 3 4 1, qc 4 i_field_Field_valid [3], qu 5 4]
def f102r2 : List Abs.Op := [qi 2 1]
def f102r3 : List Abs.Op := [qi 2 0]
def a_field_Field_shape : Ann := ⟨[(3, [2]), (2, [2]), (1, [5]), (0, [1])], [], [], [], [], [], [], [], [], [], []⟩
def f_field_Field_shape : Abs.Fn := ⟨1, [.t 2],
  (.seq (.reg [1] f102r0) (.seq (.seq (.reg [5] f102r1) (.ite (.t 5) (.seq (.reg [2] f102r2) .ret) .nop)) (.seq (.reg [2] f102r3) .ret)))⟩
@[simp] theorem e102 : type_of% (show f102r0 = _ ∧ f102r1 = _ ∧ f102r2 = _ ∧ f102r3 = _ from by simp only [f102r0, f102r1, f102r2, f102r3, qi, qa, qx, qu, qc, List.map_cons, List.map_nil]; exact ⟨rfl, rfl, rfl, rfl⟩) := ⟨rfl, rfl, rfl, rfl⟩
theorem e_field_Field_shape : type_of% f_field_Field_shape.eq_1 := by_rfl f_field_Field_shape.eq_1
theorem ok_field_Field_shape : fnC Tryz.prog a_field_Field_shape Tryz.f102 = some f_field_Field_shape := by kernel_rfl

/-! 103 fumarole/field.both$1 -/
def f103r0 : List Abs.Op := [qi 2 0]
def f103r1 : List Abs.Op := [qa 3 4 0, ql 4 1 1, qc 5 i_field_Field_models [3, 4], qm 2 5]
def a_field_both_1 : Ann := ⟨[(1, [2]), (0, [0, 1])], [], [], [], [], [], [], [], [], [], []⟩
def f_field_both_1 : Abs.Fn := ⟨2, [.t 2],
  (.seq (.reg [0, 1] f103r0) (.seq (.reg [2] f103r1) .ret))⟩
@[simp] theorem e103 : type_of% (show f103r0 = _ ∧ f103r1 = _ from by simp only [f103r0, f103r1, qm, qi, ql, qa, qc, List.map_cons, List.map_nil]; exact ⟨rfl, rfl⟩) := ⟨rfl, rfl⟩
theorem e_field_both_1 : type_of% f_field_both_1.eq_1 := by_rfl f_field_both_1.eq_1
theorem ok_field_both_1 : fnC Tryz.prog a_field_both_1 Tryz.f103 = some f_field_both_1 := by kernel_rfl

/-! 104 (fumarole/field.Field).models -/
def f104r0 : List Abs.Op := [qx 2 0, qi 4 0]
def f104r1 : List Abs.Op := [qm 5 1, qe 6 5, qo 7 (.call false (.c (.fn i_field_within [] [])) [(.t 6), (.c (.int .i64 1)), (.c (.int .i64 40))]), qu 8 7]
def f104r2 : List Abs.Op := [qi 4 3]
def f104r3 : List Abs.Op := [qm 9 1, qo 10 (.mkf i_field_Field_models_1 [] [(.t 2)]), qc 11 i_field_each_field_Model [9, 10], qm 4 11]
def a_field_Field_models : Ann := ⟨[(3, [4]), (2, [4]), (1, [1, 2, 8]), (0, [1, 2])], [], [], [], [], [], [], [], [], [], []⟩
def f_field_Field_models : Abs.Fn := ⟨2, [.t 4],
  (.seq (.reg [1, 2] f104r0) (.seq (.seq (.reg [1, 2, 8] f104r1) (.ite (.t 8) (.seq (.reg [4] f104r2) .ret) .nop)) (.seq (.reg [4] f104r3) .ret)))⟩
@[simp] theorem e104 : type_of% (show f104r0 = _ ∧ f104r1 = _ ∧ f104r2 = _ ∧ f104r3 = _ from by simp only [f104r0, f104r1, f104r2, f104r3, qo, qm, qi, qx, qe, qu, qc, List.map_cons, List.map_nil]; exact ⟨rfl, rfl, rfl, rfl⟩) := ⟨rfl, rfl, rfl, rfl⟩
theorem e_field_Field_models : type_of% f_field_Field_models.eq_1 := by_rfl f_field_Field_models.eq_1
theorem ok_field_Field_models : fnC Tryz.prog a_field_Field_models Tryz.f104 = some f_field_Field_models := by kernel_rfl

/-! 105 fumarole/field.both$2 -/
def f105r0 : List Abs.Op := [qi 2 0]
def f105r1 : List Abs.Op := [qa 3 4 0, ql 4 1 1, qc 5 i_field_Field_measures [3, 4], qm 2 5]
def a_field_both_2 : Ann := ⟨[(1, [2]), (0, [0, 1])], [], [], [], [], [], [], [], [], [], []⟩
def f_field_both_2 : Abs.Fn := ⟨2, [.t 2],
  (.seq (.reg [0, 1] f105r0) (.seq (.reg [2] f105r1) .ret))⟩
@[simp] theorem e105 : type_of% (show f105r0 = _ ∧ f105r1 = _ from by simp only [f105r0, f105r1, qm, qi, ql, qa, qc, List.map_cons, List.map_nil]; exact ⟨rfl, rfl⟩) := ⟨rfl, rfl⟩
theorem e_field_both_2 : type_of% f_field_both_2.eq_1 := by_rfl f_field_both_2.eq_1
theorem ok_field_both_2 : fnC Tryz.prog a_field_both_2 Tryz.f105 = some f_field_both_2 := by kernel_rfl

/-! 106 (fumarole/field.Field).measures -/
def f106r0 : List Abs.Op := [qx 2 0, qi 4 0]
def f106r1 : List Abs.Op := [qm 5 1, qe 6 5, qn 7 .gtr 6 12]
def f106r2 : List Abs.Op := [qi 4 3]
def f106r3 : List Abs.Op := [qm 8 1, qo 9 (.mkf i_field_Field_measures_1 [] [(.t 2)]), qc 10 i_field_each_field_Measure [8, 9], qm 4 10]
def a_field_Field_measures : Ann := ⟨[(3, [4]), (2, [4]), (1, [1, 2, 7]), (0, [1, 2])], [], [], [], [], [], [], [], [], [], []⟩
def f_field_Field_measures : Abs.Fn := ⟨2, [.t 4],
  (.seq (.reg [1, 2] f106r0) (.seq (.seq (.reg [1, 2, 7] f106r1) (.ite (.t 7) (.seq (.reg [4] f106r2) .ret) .nop)) (.seq (.reg [4] f106r3) .ret)))⟩
@[simp] theorem e106 : type_of% (show f106r0 = _ ∧ f106r1 = _ ∧ f106r2 = _ ∧ f106r3 = _ from by simp only [f106r0, f106r1, f106r2, f106r3, qo, qm, qi, qx, qe, qn, qc, List.map_cons, List.map_nil]; exact ⟨rfl, rfl, rfl, rfl⟩) := ⟨rfl, rfl, rfl, rfl⟩
theorem e_field_Field_measures : type_of% f_field_Field_measures.eq_1 := by_rfl f_field_Field_measures.eq_1
theorem ok_field_Field_measures : fnC Tryz.prog a_field_Field_measures Tryz.f106 = some f_field_Field_measures := by kernel_rfl

/-! 107 (fumarole/field.Range).miss -/
def f107r0 : List Abs.Op := [qx 2 0, qi 4 0]
def f107r1 : List Abs.Op := [qm 6 1, qf 7 1 2, ql 8 1 7, qk 9 .gtr 6 8, qm 5 9]
def f107r2 : List Abs.Op := [qm 10 1, qf 11 1 2, ql 12 1 11, qk 13 .sub 10 12, qm 4 13]
def f107r3 : List Abs.Op := [qm 15 1, qf 16 0 2, ql 17 1 16, qk 18 .lss 15 17, qm 14 18]
def f107r4 : List Abs.Op := [qm 19 1, qf 20 0 2, ql 21 1 20, qk 22 .sub 19 21, qm 4 22]
def f107r5 : List Abs.Op := [qi 4 0]
def a_field_Range_miss : Ann := ⟨[(5, [4]), (2, [4]), (4, [4]), (3, [1, 2, 14]), (1, [1, 2, 5]), (0, [1, 2])], [], [], [], [], [], [], [], [], [], []⟩
def f_field_Range_miss : Abs.Fn := ⟨2, [.t 4],
  (.seq (.reg [1, 2] f107r0) (.seq (.blk 0 (.seq (.reg [1, 2, 5] f107r1) (.ite (.t 5) (.seq (.reg [4] f107r2) .ret) (.seq (.reg [1, 2, 14] f107r3) (.ite (.t 14) (.seq (.reg [4] f107r4) .ret) .nop))))) (.seq (.reg [4] f107r5) .ret)))⟩
@[simp] theorem e107 : type_of% (show f107r0 = _ ∧ f107r1 = _ ∧ f107r2 = _ ∧ f107r3 = _ ∧ f107r4 = _ ∧ f107r5 = _ from by simp only [f107r0, f107r1, f107r2, f107r3, f107r4, f107r5, qm, qi, qf, ql, qx, qk]; exact ⟨rfl, rfl, rfl, rfl, rfl, rfl⟩) := ⟨rfl, rfl, rfl, rfl, rfl, rfl⟩
theorem e_field_Range_miss : type_of% f_field_Range_miss.eq_1 := by_rfl f_field_Range_miss.eq_1
theorem ok_field_Range_miss : fnC Tryz.prog a_field_Range_miss Tryz.f107 = some f_field_Range_miss := by kernel_rfl

/-! 108 (fumarole/field.Field).weighs -/
def f108r0 : List Abs.Op := [qx 2 0, qx 3 1, qo 4 (.mv (.c .nilf))]
def f108r1 : List Abs.Op := [qa 5 4 2, qf 6 1 3, ql 7 1 6, qf 8 2 3, ql 9 1 8, qf 10 3 3, ql 11 1 10, qo 12 (.bld [(.int .i64 0), (.int .i64 0), (.int .i64 0), (.int .i64 0), (.int .i64 0), .nils, .nils] [(0, 4, (.t 5)), (4, 1, (.t 7)), (5, 1, (.t 9)), (6, 1, (.t 11))]), qo 13 (.mkf i_field_scale_of [(.t 12)] []), qm 4 13]
def a_field_Field_weighs : Ann := ⟨[(1, [4]), (0, [2, 3])], [], [], [], [], [], [], [], [], [], []⟩
def f_field_Field_weighs : Abs.Fn := ⟨2, [.t 4],
  (.seq (.reg [2, 3] f108r0) (.seq (.reg [4] f108r1) .ret))⟩
@[simp] theorem e108 : type_of% (show f108r0 = _ ∧ f108r1 = _ from by simp only [f108r0, f108r1, qo, qm, qf, ql, qa, qx]; exact ⟨rfl, rfl⟩) := ⟨rfl, rfl⟩
theorem e_field_Field_weighs : type_of% f_field_Field_weighs.eq_1 := by_rfl f_field_Field_weighs.eq_1
theorem ok_field_Field_weighs : fnC Tryz.prog a_field_Field_weighs Tryz.f108 = some f_field_Field_weighs := by kernel_rfl

/-! 109 fumarole/fumarolelaw02.Range -/
def f109r0 : List Abs.Op := [qx 1 0, qo 2 (.alcv [] [(.int .i64 0), (.int .i64 0)])]
def f109r1 : List Abs.Op := [qf 3 0 1, ql 4 1 3, qf 5 1 1, ql 6 1 5, qo 7 (.bld [(.int .i64 0), (.int .i64 0)] [(0, 1, (.t 4)), (1, 1, (.t 6))]), qs 2 2 2 7]
def a_law02_Range : Ann := ⟨[(1, [2]), (0, [1, 2])], [], [], [2], [2], [], [], [], [], [], []⟩
def f_law02_Range : Abs.Fn := ⟨1, [.v 2 true 2],
  (.seq (.reg [1, 2] f109r0) (.seq (.reg [2] f109r1) .ret))⟩
@[simp] theorem e109 : type_of% (show f109r0 = _ ∧ f109r1 = _ from by simp only [f109r0, f109r1, qo, qf, ql, qx, qs]; exact ⟨rfl, rfl⟩) := ⟨rfl, rfl⟩
theorem e_law02_Range : type_of% f_law02_Range.eq_1 := by_rfl f_law02_Range.eq_1
theorem ok_law02_Range : fnC Tryz.prog a_law02_Range Tryz.f109 = some f_law02_Range := by kernel_rfl

/-! 110 fumarole/rock.tells -/
def f110r0 : List Abs.Op := [qo 0 (.alcv [] [.nilf, .nilf, .nilf, .nilf, .nilf])]
def f110r1 : List Abs.Op := [qo 1 (.bld [.nilf, .nilf, .nilf, .nilf, .nilf] [(2, 1, (.c (.fn i_rock_Yield_mass [] []))), (3, 1, (.c (.fn i_rock_Yield_warmth [] []))), (4, 1, (.c (.fn i_rock_Yield_stain [] [])))]), qs 0 5 0 1]
def a_rock_tells : Ann := ⟨[(1, [0]), (0, [0])], [], [], [0], [0], [], [], [], [], [], []⟩
def f_rock_tells : Abs.Fn := ⟨0, [.v 0 true 5],
  (.seq (.reg [0] f110r0) (.seq (.reg [0] f110r1) .ret))⟩
@[simp] theorem e110 : type_of% (show f110r0 = _ ∧ f110r1 = _ from by simp only [f110r0, f110r1, qo, qs]; exact ⟨rfl, rfl⟩) := ⟨rfl, rfl⟩
theorem e_rock_tells : type_of% f_rock_tells.eq_1 := by_rfl f_rock_tells.eq_1
theorem ok_rock_tells : fnC Tryz.prog a_rock_tells Tryz.f110 = some f_rock_tells := by kernel_rfl

/-! 111 (fumarole/field.Field).valid -/
def f111r0 : List Abs.Op := [qx 1 0, qb 2 false]
def f111r1 : List Abs.Op := [qf 3 0 1, ql 4 1 3, qo 5 (.call false (.c (.fn i_field_within [] [])) [(.t 4), (.c (.int .i64 1)), (.c (.int .i64 8))]), qm 6 5, qg 6 true (qf 7 1 1), qg 6 true (ql 8 1 7), qg 6 true (qo 9 (.call false (.c (.fn i_field_within [] [])) [(.t 8), (.c (.int .i64 1)), (.c (.int .i64 8))])), qp 10 6 9, qm 11 10, qg 11 true (qf 12 2 1), qg 11 true (ql 13 1 12), qg 11 true (qo 14 (.call false (.c (.fn i_field_within [] [])) [(.t 13), (.c (.int .i64 1)), (.c (.int .i64 8))])), qp 15 11 14, qm 16 15, qg 16 true (qa 17 4 1), qg 16 true (qc 18 i_field_Field_blocks [17]), qg 16 true (qn 19 .leq 18 64), qp 20 16 19, qm 21 20, qg 21 true (qf 22 3 1), qg 21 true (ql 23 1 22), qg 21 true (qo 24 (.call false (.c (.fn i_field_within [] [])) [(.t 23), (.c (.int .i64 1)), (.c (.int .i64 6))])), qp 25 21 24, qm 2 25]
def a_field_Field_valid : Ann := ⟨[(1, [2]), (0, [1])], [], [], [], [], [], [], [], [], [], []⟩
def f_field_Field_valid : Abs.Fn := ⟨1, [.t 2],
  (.seq (.reg [1] f111r0) (.seq (.reg [2] f111r1) .ret))⟩
@[simp] theorem e111 : type_of% (show f111r0 = _ ∧ f111r1 = _ from by simp only [f111r0, f111r1, qo, qm, qb, qf, ql, qa, qx, qn, qp, qc, qg, List.map_cons, List.map_nil]; exact ⟨rfl, rfl⟩) := ⟨rfl, rfl⟩
theorem e_field_Field_valid : type_of% f_field_Field_valid.eq_1 := by_rfl f_field_Field_valid.eq_1
theorem ok_field_Field_valid : fnC Tryz.prog a_field_Field_valid Tryz.f111 = some f_field_Field_valid := by kernel_rfl

/-! 112 fumarole/field.within -/
def f112r0 : List Abs.Op := [qb 6 false]
def f112r1 : List Abs.Op := [qm 7 1, qm 8 0, qk 9 .leq 7 8, qm 10 9, qg 10 true (qm 11 0), qg 10 true (qm 12 2), qg 10 true (qk 13 .leq 11 12), qp 14 10 13, qm 6 14]
def a_field_within : Ann := ⟨[(1, [6]), (0, [0, 1, 2])], [], [], [], [], [], [], [], [], [], []⟩
def f_field_within : Abs.Fn := ⟨3, [.t 6],
  (.seq (.reg [0, 1, 2] f112r0) (.seq (.reg [6] f112r1) .ret))⟩
@[simp] theorem e112 : type_of% (show f112r0 = _ ∧ f112r1 = _ from by simp only [f112r0, f112r1, qm, qb, qk, qp, qg]; exact ⟨rfl, rfl⟩) := ⟨rfl, rfl⟩
theorem e_field_within : type_of% f_field_within.eq_1 := by_rfl f_field_within.eq_1
theorem ok_field_within : fnC Tryz.prog a_field_within Tryz.f112 = some f_field_within := by kernel_rfl

/-! 113 (fumarole/field.Field).blocks -/
def f113r0 : List Abs.Op := [qx 1 0, qi 2 0]
def f113r1 : List Abs.Op := [qf 3 0 1, ql 4 1 3, qf 5 1 1, ql 6 1 5, qk 7 .mul 4 6, qf 8 2 1, ql 9 1 8, qk 10 .mul 7 9, qm 2 10]
def a_field_Field_blocks : Ann := ⟨[(1, [2]), (0, [1])], [], [], [], [], [], [], [], [], [], []⟩
def f_field_Field_blocks : Abs.Fn := ⟨1, [.t 2],
  (.seq (.reg [1] f113r0) (.seq (.reg [2] f113r1) .ret))⟩
@[simp] theorem e113 : type_of% (show f113r0 = _ ∧ f113r1 = _ from by simp only [f113r0, f113r1, qm, qi, qf, ql, qx, qk]; exact ⟨rfl, rfl⟩) := ⟨rfl, rfl⟩
theorem e_field_Field_blocks : type_of% f_field_Field_blocks.eq_1 := by_rfl f_field_Field_blocks.eq_1
theorem ok_field_Field_blocks : fnC Tryz.prog a_field_Field_blocks Tryz.f113 = some f_field_Field_blocks := by kernel_rfl

/-! 122 fumarole/fumaroleref02.In -/
def f122r0 : List Abs.Op := [qb 6 false]
def f122r1 : List Abs.Op := [qm 7 0, qm 8 1, qk 9 .geq 7 8, qm 10 9, qg 10 true (qm 11 0), qg 10 true (qm 12 2), qg 10 true (qk 13 .leq 11 12), qp 14 10 13, qm 6 14]
def a_ref02_In : Ann := ⟨[(1, [6]), (0, [0, 1, 2])], [], [], [], [], [], [], [], [], [], []⟩
def f_ref02_In : Abs.Fn := ⟨3, [.t 6],
  (.seq (.reg [0, 1, 2] f122r0) (.seq (.reg [6] f122r1) .ret))⟩
@[simp] theorem e122 : type_of% (show f122r0 = _ ∧ f122r1 = _ from by simp only [f122r0, f122r1, qm, qb, qk, qp, qg]; exact ⟨rfl, rfl⟩) := ⟨rfl, rfl⟩
theorem e_ref02_In : type_of% f_ref02_In.eq_1 := by_rfl f_ref02_In.eq_1
theorem ok_ref02_In : fnC Tryz.prog a_ref02_In Tryz.f122 = some f_ref02_In := by kernel_rfl

/-! 123 fumarole/fumaroleref02.ModelFault -/
def f123r0 : List Abs.Op := [qx 2 0, qx 3 1, qi 4 0]
def f123r1 : List Abs.Op := [qf 6 0 3, ql 7 1 6, qc 8 i_ref02_Name [7], qu 9 8]
def f123r2 : List Abs.Op := [qi 4 5]
def f123r3 : List Abs.Op := [qF 10 1 3, qL 11 1 10, qE 12 11, qF 13 3 2, qL 14 1 13, qA 15 4 2, qC 16 i_ref02_Size [15], qK 17 .mul 14 16, qk 18 .neq 12 17]
def f123r4 : List Abs.Op := [qi 4 1]
def f123r5 : List Abs.Op := [qi 5 0]
def f123r6 : List Abs.Op := [qm 19 5, qf 20 1 3, ql 21 1 20, qe 22 21, qk 23 .lss 19 22]
def f123r7 : List Abs.Op := [qf 26 1 3, ql 27 1 26, qm 28 5, qj 29 1 27 28, ql 30 1 29, qo 31 (.call false (.c (.fn i_ref02_In [] [])) [(.t 30), (.c (.int .i64 (-100000))), (.c (.int .i64 100000))]), qu 32 31]
def f123r8 : List Abs.Op := [qi 4 1]
def f123r9 : List Abs.Op := [qm 24 5, qn 25 .add 24 1, qm 5 25]
def f_ref02_ModelFault_l10 : Abs.Cmd :=
  (.seq (.seq (.reg [3, 5, 23] f123r6) (.ite (.t 23) .nop (.exit 0))) (.seq (.blk 1 (.seq (.reg [3, 5, 32] f123r7) (.ite (.t 32) (.seq (.reg [4] f123r8) .ret) .nop))) (.reg [3, 5] f123r9)))

def f123r11 : List Abs.Op := [qi 4 0]
def a_ref02_ModelFault : Ann := ⟨[(10, [4]), (7, [3, 5]), (9, [4]), (8, [3, 5, 32]), (6, [3, 5, 23]), (5, [3, 5]), (4, [4]), (3, [3, 18]), (2, [4]), (1, [2, 3, 9]), (0, [2, 3])], [(0, [3, 5])], [], [], [], [], [], [], [], [], []⟩
def f_ref02_ModelFault : Abs.Fn := ⟨2, [.t 4],
  (.seq (.reg [2, 3] f123r0) (.seq (.seq (.reg [2, 3, 9] f123r1) (.ite (.t 9) (.seq (.reg [4] f123r2) .ret) .nop)) (.seq (.seq (.reg [3, 18] f123r3) (.ite (.t 18) (.seq (.reg [4] f123r4) .ret) .nop)) (.seq (.seq (.reg [3, 5] f123r5) (.blk 0 (.loop [3, 5] false f_ref02_ModelFault_l10))) (.seq (.reg [4] f123r11) .ret)))))⟩
@[simp] theorem e123 : type_of% (show f123r0 = _ ∧ f123r1 = _ ∧ f123r2 = _ ∧ f123r3 = _ ∧ f123r4 = _ ∧ f123r5 = _ ∧ f123r6 = _ ∧ f123r7 = _ ∧ f123r8 = _ ∧ f123r9 = _ ∧ f123r11 = _ from by simp only [f123r0, f123r1, f123r2, f123r3, f123r4, f123r5, f123r6, f123r7, f123r8, f123r9, f123r11, qo, qm, qi, qf, qF, ql, qL, qA, qx, qe, qE, qj, qk, qK, qn, qu, qc, qC, List.map_cons, List.map_nil]; exact ⟨rfl, rfl, rfl, rfl, rfl, rfl, rfl, rfl, rfl, rfl, rfl⟩) := ⟨rfl, rfl, rfl, rfl, rfl, rfl, rfl, rfl, rfl, rfl, rfl⟩
theorem e_ref02_ModelFault_l10 : type_of% f_ref02_ModelFault_l10.eq_1 := by_rfl f_ref02_ModelFault_l10.eq_1
theorem e_ref02_ModelFault : type_of% f_ref02_ModelFault.eq_1 := by_rfl f_ref02_ModelFault.eq_1
theorem ok_ref02_ModelFault : fnC Tryz.prog a_ref02_ModelFault Tryz.f123 = some f_ref02_ModelFault := by kernel_rfl

/-! 124 fumarole/fumaroleref05.Value -/
def f124r0 : List Abs.Op := [qx 4 0, qx 5 1, qi 8 0]
def f124r1 : List Abs.Op := [qF 9 1 5, qL 10 1 9, qM 11 2, qF 12 0 4, qA 13 4 12, qC 14 i_ref02_Size [13], qK 15 .mul 11 14, qM 16 3, qK 17 .add 15 16, qj 18 1 10 17, ql 19 1 18, qm 8 19]
def a_ref05_Value : Ann := ⟨[(1, [8]), (0, [2, 3, 4, 5])], [], [], [], [], [], [], [], [], [], []⟩
def f_ref05_Value : Abs.Fn := ⟨4, [.t 8],
  (.seq (.reg [2, 3, 4, 5] f124r0) (.seq (.reg [8] f124r1) .ret))⟩
@[simp] theorem e124 : type_of% (show f124r0 = _ ∧ f124r1 = _ from by simp only [f124r0, f124r1, qm, qM, qi, qF, ql, qL, qA, qx, qj, qK, qC, List.map_cons, List.map_nil]; exact ⟨rfl, rfl⟩) := ⟨rfl, rfl⟩
theorem e_ref05_Value : type_of% f_ref05_Value.eq_1 := by_rfl f_ref05_Value.eq_1
theorem ok_ref05_Value : fnC Tryz.prog a_ref05_Value Tryz.f124 = some f_ref05_Value := by kernel_rfl

/-! 125 fumarole/field.CheckField -/
def f125r0 : List Abs.Op := [qx 1 0, qi 2 0]
def f125r1 : List Abs.Op := [qa 3 4 1, qc 4 i_field_Field_shape [3], qm 2 4]
def a_field_CheckField : Ann := ⟨[(1, [2]), (0, [1])], [], [], [], [], [], [], [], [], [], []⟩
def f_field_CheckField : Abs.Fn := ⟨1, [.t 2],
  (.seq (.reg [1] f125r0) (.seq (.reg [2] f125r1) .ret))⟩
@[simp] theorem e125 : type_of% (show f125r0 = _ ∧ f125r1 = _ from by simp only [f125r0, f125r1, qm, qi, qa, qx, qc, List.map_cons, List.map_nil]; exact ⟨rfl, rfl⟩) := ⟨rfl, rfl⟩
theorem e_field_CheckField : type_of% f_field_CheckField.eq_1 := by_rfl f_field_CheckField.eq_1
theorem ok_field_CheckField : fnC Tryz.prog a_field_CheckField Tryz.f125 = some f_field_CheckField := by kernel_rfl

/-! 126 fumarole/steam.CheckTable -/
def f126r0 : List Abs.Op := [qi 2 0]
def f126r1 : List Abs.Op := [qm 3 0, qc 4 i_steam_Table_valid [3], qu 5 4]
def f126r2 : List Abs.Op := [qi 2 1]
def f126r3 : List Abs.Op := [qi 2 0]
def a_steam_CheckTable : Ann := ⟨[(3, [2]), (2, [2]), (1, [5]), (0, [0])], [], [], [], [], [], [], [], [], [], []⟩
def f_steam_CheckTable : Abs.Fn := ⟨1, [.t 2],
  (.seq (.reg [0] f126r0) (.seq (.seq (.reg [5] f126r1) (.ite (.t 5) (.seq (.reg [2] f126r2) .ret) .nop)) (.seq (.reg [2] f126r3) .ret)))⟩
@[simp] theorem e126 : type_of% (show f126r0 = _ ∧ f126r1 = _ ∧ f126r2 = _ ∧ f126r3 = _ from by simp only [f126r0, f126r1, f126r2, f126r3, qm, qi, qu, qc, List.map_cons, List.map_nil]; exact ⟨rfl, rfl, rfl, rfl⟩) := ⟨rfl, rfl, rfl, rfl⟩
theorem e_steam_CheckTable : type_of% f_steam_CheckTable.eq_1 := by_rfl f_steam_CheckTable.eq_1
theorem ok_steam_CheckTable : fnC Tryz.prog a_steam_CheckTable Tryz.f126 = some f_steam_CheckTable := by kernel_rfl

/-! 127 fumarole/rock.all[fumarole/rock.Bore] -/
def f127r0 : List Abs.Op := [qx 3 1, qb 4 false]
def f127r1 : List Abs.Op := [qm 5 0, qo 6 (.mkf i_rock_all_rock_Bore_1 [] [(.t 3)]), qc 7 i_slices_ContainsFunc_rock_Bore [5, 6], qu 8 7, qm 4 8]
def a_rock_all_rock_Bore : Ann := ⟨[(1, [4]), (0, [0, 3])], [], [], [], [], [], [], [], [], [], []⟩
def f_rock_all_rock_Bore : Abs.Fn := ⟨2, [.t 4],
  (.seq (.reg [0, 3] f127r0) (.seq (.reg [4] f127r1) .ret))⟩
@[simp] theorem e127 : type_of% (show f127r0 = _ ∧ f127r1 = _ from by simp only [f127r0, f127r1, qo, qm, qb, qx, qu, qc, List.map_cons, List.map_nil]; exact ⟨rfl, rfl⟩) := ⟨rfl, rfl⟩
theorem e_rock_all_rock_Bore : type_of% f_rock_all_rock_Bore.eq_1 := by_rfl f_rock_all_rock_Bore.eq_1
theorem ok_rock_all_rock_Bore : fnC Tryz.prog a_rock_all_rock_Bore Tryz.f127 = some f_rock_all_rock_Bore := by kernel_rfl

/-! 128 (fumarole/rock.Bed).valid$1 -/
def f128r0 : List Abs.Op := [qx 2 0, qb 3 false]
def f128r1 : List Abs.Op := [qf 4 0 2, ql 5 1 4, ql 6 1 1, qe 7 6, qn 8 .sub 7 1, qo 9 (.call false (.c (.fn i_rock_within [] [])) [(.t 5), (.c (.int .i64 0)), (.t 8)]), qu 10 9, qm 11 10, qg 11 false (ql 12 1 1), qg 11 false (qf 13 0 2), qg 11 false (ql 14 1 13), qg 11 false (qj 15 1 12 14), qg 11 false (ql 16 1 15), qP 17 11 16]
def f128r2 : List Abs.Op := [qb 3 false]
def f128r3 : List Abs.Op := [ql 18 1 1, qf 19 0 2, ql 20 1 19, qj 21 1 18 20, ⟨none, none, false, .st [] 1 (.t 21) (.c (.bool true))⟩]
def f128r4 : List Abs.Op := [qf 22 1 2, ql 23 1 22, qo 24 (.call false (.c (.fn i_rock_within [] [])) [(.t 23), (.c (.int .i64 0)), (.c (.int .i64 3000))]), qm 25 24, qg 25 true (qf 26 2 2), qg 25 true (ql 27 1 26), qg 25 true (qo 28 (.call false (.c (.fn i_rock_within [] [])) [(.t 27), (.c (.int .i64 0)), (.c (.int .i64 1000000))])), qp 29 25 28, qm 3 29]
def a_rock_Bed_valid_1 : Ann := ⟨[(4, [3]), (3, [2]), (2, [3]), (1, [1, 2, 17]), (0, [1, 2])], [], [], [], [], [], [], [], [], [], []⟩
def f_rock_Bed_valid_1 : Abs.Fn := ⟨2, [.t 3],
  (.seq (.reg [1, 2] f128r0) (.seq (.seq (.reg [1, 2, 17] f128r1) (.ite (.t 17) (.seq (.reg [3] f128r2) .ret) .nop)) (.seq (.reg [2] f128r3) (.seq (.reg [3] f128r4) .ret))))⟩
@[simp] theorem e128 : type_of% (show f128r0 = _ ∧ f128r1 = _ ∧ f128r2 = _ ∧ f128r3 = _ ∧ f128r4 = _ from by simp only [f128r0, f128r1, f128r2, f128r3, f128r4, qo, qm, qb, qf, ql, qx, qe, qj, qn, qu, qp, qP, qg]; exact ⟨rfl, rfl, rfl, rfl, rfl⟩) := ⟨rfl, rfl, rfl, rfl, rfl⟩
theorem e_rock_Bed_valid_1 : type_of% f_rock_Bed_valid_1.eq_1 := by_rfl f_rock_Bed_valid_1.eq_1
theorem ok_rock_Bed_valid_1 : fnC Tryz.prog a_rock_Bed_valid_1 Tryz.f128 = some f_rock_Bed_valid_1 := by kernel_rfl

/-! 129 fumarole/field.CheckModels$1 -/
def f129r0 : List Abs.Op := [qi 2 0]
def f129r1 : List Abs.Op := [qa 3 4 0, ql 4 1 1, qc 5 i_field_Field_models [3, 4], qm 2 5]
def a_field_CheckModels_1 : Ann := ⟨[(1, [2]), (0, [0, 1])], [], [], [], [], [], [], [], [], [], []⟩
def f_field_CheckModels_1 : Abs.Fn := ⟨2, [.t 2],
  (.seq (.reg [0, 1] f129r0) (.seq (.reg [2] f129r1) .ret))⟩
@[simp] theorem e129 : type_of% (show f129r0 = _ ∧ f129r1 = _ from by simp only [f129r0, f129r1, qm, qi, ql, qa, qc, List.map_cons, List.map_nil]; exact ⟨rfl, rfl⟩) := ⟨rfl, rfl⟩
theorem e_field_CheckModels_1 : type_of% f_field_CheckModels_1.eq_1 := by_rfl f_field_CheckModels_1.eq_1
theorem ok_field_CheckModels_1 : fnC Tryz.prog a_field_CheckModels_1 Tryz.f129 = some f_field_CheckModels_1 := by kernel_rfl

/-! 130 slices.ContainsFunc[[]fumarole/field.Model,fumarole/field.Model] -/
def f130r0 : List Abs.Op := [qb 4 false]
def f130r1 : List Abs.Op := [qm 5 0, qm 6 1, qc 7 i_slices_IndexFunc_field_Model [5, 6], qn 8 .geq 7 0, qm 4 8]
def a_slices_ContainsFunc_field_Model : Ann := ⟨[(1, [4]), (0, [0, 1])], [], [], [], [], [], [], [], [], [], []⟩
def f_slices_ContainsFunc_field_Model : Abs.Fn := ⟨2, [.t 4],
  (.seq (.reg [0, 1] f130r0) (.seq (.reg [4] f130r1) .ret))⟩
@[simp] theorem e130 : type_of% (show f130r0 = _ ∧ f130r1 = _ from by simp only [f130r0, f130r1, qm, qb, qn, qc, List.map_cons, List.map_nil]; exact ⟨rfl, rfl⟩) := ⟨rfl, rfl⟩
theorem e_slices_ContainsFunc_field_Model : type_of% f_slices_ContainsFunc_field_Model.eq_1 := by_rfl f_slices_ContainsFunc_field_Model.eq_1
theorem ok_slices_ContainsFunc_field_Model : fnC Tryz.prog a_slices_ContainsFunc_field_Model Tryz.f130 = some f_slices_ContainsFunc_field_Model := by kernel_rfl

/-! 131 fumarole/rock.all[fumarole/field.Model]$1 -/
def f131r0 : List Abs.Op := [qx 2 0, qb 3 false]
def f131r1 : List Abs.Op := [ql 4 1 1, qa 5 2 2, qo 6 (.call false (.t 4) [(.t 5)]), qu 7 6, qm 3 7]
def a_rock_all_field_Model_1 : Ann := ⟨[(1, [3]), (0, [1, 2])], [], [], [], [], [], [], [], [], [], []⟩
def f_rock_all_field_Model_1 : Abs.Fn := ⟨2, [.t 3],
  (.seq (.reg [1, 2] f131r0) (.seq (.reg [3] f131r1) .ret))⟩
@[simp] theorem e131 : type_of% (show f131r0 = _ ∧ f131r1 = _ from by simp only [f131r0, f131r1, qo, qm, qb, ql, qa, qx, qu]; exact ⟨rfl, rfl⟩) := ⟨rfl, rfl⟩
theorem e_rock_all_field_Model_1 : type_of% f_rock_all_field_Model_1.eq_1 := by_rfl f_rock_all_field_Model_1.eq_1
theorem ok_rock_all_field_Model_1 : fnC Tryz.prog a_rock_all_field_Model_1 Tryz.f131 = some f_rock_all_field_Model_1 := by kernel_rfl

/-! 132 fumarole/rock.all[int] -/
def f132r0 : List Abs.Op := [qx 3 1, qb 4 false]
def f132r1 : List Abs.Op := [qm 5 0, qo 6 (.mkf i_rock_all_int_1 [] [(.t 3)]), qc 7 i_slices_ContainsFunc_int [5, 6], qu 8 7, qm 4 8]
def a_rock_all_int : Ann := ⟨[(1, [4]), (0, [0, 3])], [], [], [], [], [], [], [], [], [], []⟩
def f_rock_all_int : Abs.Fn := ⟨2, [.t 4],
  (.seq (.reg [0, 3] f132r0) (.seq (.reg [4] f132r1) .ret))⟩
@[simp] theorem e132 : type_of% (show f132r0 = _ ∧ f132r1 = _ from by simp only [f132r0, f132r1, qo, qm, qb, qx, qu, qc, List.map_cons, List.map_nil]; exact ⟨rfl, rfl⟩) := ⟨rfl, rfl⟩
theorem e_rock_all_int : type_of% f_rock_all_int.eq_1 := by_rfl f_rock_all_int.eq_1
theorem ok_rock_all_int : fnC Tryz.prog a_rock_all_int Tryz.f132 = some f_rock_all_int := by kernel_rfl

/-! 133 (fumarole/rock.bedded).kind -/
def f133r0 : List Abs.Op := [qx 2 0, qo 4 (.mv (.c .nils))]
def f133r1 : List Abs.Op := [qF 5 9 2, qF 6 1 5, qL 7 1 6, qM 8 1, qF 9 0 2, qA 10 9 9, qC 11 i_rock_Bed_size [10], qK 12 .mul 8 11, qM 13 1, qN 14 .add 13 1, qF 15 0 2, qA 16 9 15, qC 17 i_rock_Bed_size [16], qK 18 .mul 14 17, qo 19 (.slc 1 (.t 7) (some (.t 12)) (some (.t 18)) none), qm 4 19]
def a_rock_bedded_kind : Ann := ⟨[(1, [4]), (0, [1, 2])], [], [], [], [], [], [], [], [], [], []⟩
def f_rock_bedded_kind : Abs.Fn := ⟨2, [.t 4],
  (.seq (.reg [1, 2] f133r0) (.seq (.reg [4] f133r1) .ret))⟩
@[simp] theorem e133 : type_of% (show f133r0 = _ ∧ f133r1 = _ from by simp only [f133r0, f133r1, qo, qm, qM, qF, qL, qA, qx, qK, qN, qC, List.map_cons, List.map_nil]; exact ⟨rfl, rfl⟩) := ⟨rfl, rfl⟩
theorem e_rock_bedded_kind : type_of% f_rock_bedded_kind.eq_1 := by_rfl f_rock_bedded_kind.eq_1
theorem ok_rock_bedded_kind : fnC Tryz.prog a_rock_bedded_kind Tryz.f133 = some f_rock_bedded_kind := by kernel_rfl

/-! 134 (fumarole/rock.bedded).fits$1 -/
def f134r0 : List Abs.Op := [qb 3 false]
def f134r1 : List Abs.Op := [qm 4 0, qo 5 (.idxA 2 1 (.t 1) (.c (.int .i64 0))), ql 6 1 5, qo 7 (.idxA 2 1 (.t 1) (.c (.int .i64 1))), ql 8 1 7, qc 9 i_rock_within [4, 6, 8], qm 3 9]
def a_rock_bedded_fits_1 : Ann := ⟨[(1, [3]), (0, [0, 1])], [], [], [], [], [], [], [], [], [], []⟩
def f_rock_bedded_fits_1 : Abs.Fn := ⟨2, [.t 3],
  (.seq (.reg [0, 1] f134r0) (.seq (.reg [3] f134r1) .ret))⟩
@[simp] theorem e134 : type_of% (show f134r0 = _ ∧ f134r1 = _ from by simp only [f134r0, f134r1, qo, qm, qb, ql, qc, List.map_cons, List.map_nil]; exact ⟨rfl, rfl⟩) := ⟨rfl, rfl⟩
theorem e_rock_bedded_fits_1 : type_of% f_rock_bedded_fits_1.eq_1 := by_rfl f_rock_bedded_fits_1.eq_1
theorem ok_rock_bedded_fits_1 : fnC Tryz.prog a_rock_bedded_fits_1 Tryz.f134 = some f_rock_bedded_fits_1 := by kernel_rfl

/-! 135 (fumarole/rock.Bed).rates$1 -/
def f135r0 : List Abs.Op := [qb 2 false]
def f135r1 : List Abs.Op := [qm 3 0, qo 4 (.call false (.c (.fn i_rock_within [] [])) [(.t 3), (.c (.int .i64 (-100000))), (.c (.int .i64 100000))]), qm 2 4]
def a_rock_Bed_rates_1 : Ann := ⟨[(1, [2]), (0, [0])], [], [], [], [], [], [], [], [], [], []⟩
def f_rock_Bed_rates_1 : Abs.Fn := ⟨1, [.t 2],
  (.seq (.reg [0] f135r0) (.seq (.reg [2] f135r1) .ret))⟩
@[simp] theorem e135 : type_of% (show f135r0 = _ ∧ f135r1 = _ from by simp only [f135r0, f135r1, qo, qm, qb]; exact ⟨rfl, rfl⟩) := ⟨rfl, rfl⟩
theorem e_rock_Bed_rates_1 : type_of% f_rock_Bed_rates_1.eq_1 := by_rfl f_rock_Bed_rates_1.eq_1
theorem ok_rock_Bed_rates_1 : fnC Tryz.prog a_rock_Bed_rates_1 Tryz.f135 = some f_rock_Bed_rates_1 := by kernel_rfl

/-! 136 (fumarole/rock.bedded).warm -/
def f136r0 : List Abs.Op := [qx 2 0, qi 4 0]
def f136r1 : List Abs.Op := [qa 5 11 2, qo 6 (.call false (.c (.fn i_rock_bedded_kind [] [])) [(.t 5), (.c (.int .i64 2))]), qm 7 1, qj 8 1 6 7, ql 9 1 8, qm 4 9]
def a_rock_bedded_warm : Ann := ⟨[(1, [4]), (0, [1, 2])], [], [], [], [], [], [], [], [], [], []⟩
def f_rock_bedded_warm : Abs.Fn := ⟨2, [.t 4],
  (.seq (.reg [1, 2] f136r0) (.seq (.reg [4] f136r1) .ret))⟩
@[simp] theorem e136 : type_of% (show f136r0 = _ ∧ f136r1 = _ from by simp only [f136r0, f136r1, qo, qm, qi, ql, qa, qx, qj]; exact ⟨rfl, rfl⟩) := ⟨rfl, rfl⟩
theorem e_rock_bedded_warm : type_of% f_rock_bedded_warm.eq_1 := by_rfl f_rock_bedded_warm.eq_1
theorem ok_rock_bedded_warm : fnC Tryz.prog a_rock_bedded_warm Tryz.f136 = some f_rock_bedded_warm := by kernel_rfl

/-! 137 slices.Clone[fumarole/rock.State,fumarole/rock.Block] -/
def f137r0 : List Abs.Op := [qo 2 (.nilb 3)]
def f137r1 : List Abs.Op := [qm 3 0, qo 4 (.isn false false (.t 3))]
def f137r2 : List Abs.Op := [qo 2 (.nilb 3)]
def f137r3 : List Abs.Op := [qo 5 (.bsm 0 3 [] []), qm 6 0, qy 7 3 24 5 6, qm 2 7]
def a_slices_Clone_rock_State_rock_Block : Ann := ⟨[(3, [2]), (2, [2]), (1, [0, 4]), (0, [0])], [], [], [2, 5], [], [], [], [], [], [], []⟩
def f_slices_Clone_rock_State_rock_Block : Abs.Fn := ⟨1, [.t 2],
  (.seq (.reg [0] f137r0) (.seq (.seq (.reg [0, 4] f137r1) (.ite (.t 4) (.seq (.reg [2] f137r2) .ret) .nop)) (.seq (.reg [2] f137r3) .ret)))⟩
@[simp] theorem e137 : type_of% (show f137r0 = _ ∧ f137r1 = _ ∧ f137r2 = _ ∧ f137r3 = _ from by simp only [f137r0, f137r1, f137r2, f137r3, qo, qm, qy]; exact ⟨rfl, rfl, rfl, rfl⟩) := ⟨rfl, rfl, rfl, rfl⟩
theorem e_slices_Clone_rock_State_rock_Block : type_of% f_slices_Clone_rock_State_rock_Block.eq_1 := by_rfl f_slices_Clone_rock_State_rock_Block.eq_1
theorem ok_slices_Clone_rock_State_rock_Block : fnC Tryz.prog a_slices_Clone_rock_State_rock_Block Tryz.f137 = some f_slices_Clone_rock_State_rock_Block := by kernel_rfl

/-! 138 (fumarole/rock.bedded).flows -/
def f138r0 : List Abs.Op := [qx 2 0, qx 3 1, qo 4 (.mv (.c .undef))]
def f138r1 : List Abs.Op := [qo 11 (.mp (.make) []), qo 5 (.alc [] [.undef]), qt 1 5 11]
def f138r2 : List Abs.Op := [qa 12 11 2, ql 13 1 3, qc 14 i_rock_bedded_pressures [12, 13], qo 6 (.alc [] [.nils]), qt 1 6 14]
def f138r3 : List Abs.Op := [qf 15 0 2, qa 16 9 15, qc 17 i_rock_Bed_links [16]]
def f138r4 : List Abs.Op := [qo 7 (.alcv [] [(.int .i64 0), (.int .i64 0)]), qs 7 2 7 18]
def f138r5 : List Abs.Op := [qL 19 1 6, qF 20 0 7, qV 21 7 1 20, qJ 22 1 19 21, qL 23 1 22, qA 24 11 2, qF 25 0 7, qV 26 7 1 25, qC 27 i_rock_bedded_weight [24, 26], qK 28 .sub 23 27, qL 29 1 6, qF 30 1 7, qV 31 7 1 30, qJ 32 1 29 31, qL 33 1 32, qK 34 .sub 28 33, qA 35 11 2, qF 36 1 7, qV 37 7 1 36, qC 38 i_rock_bedded_weight [35, 37], qk 39 .add 34 38, qm 8 39]
def f138r6 : List Abs.Op := [qm 40 8, qn 41 .lss 40 0]
def f138r7 : List Abs.Op := [qf 42 1 7, qv 43 7 1 42, qf 44 0 7, qv 45 7 1 44, qo 46 (.bld [(.int .i64 0), (.int .i64 0)] [(0, 1, (.t 43)), (1, 1, (.t 45))]), qm 47 8, qo 48 (.un .neg (.t 47)), qs 7 2 7 46, qm 8 48]
def f138r8 : List Abs.Op := [qA 49 11 2, qF 50 0 7, qV 51 7 1 50, qC 52 i_rock_bedded_open [49, 51], qA 53 11 2, qF 54 1 7, qV 55 7 1 54, qc 56 i_rock_bedded_open [53, 55], qo 57 (.mn (.t 52) (.t 56)), qm 9 57]
def f138r9 : List Abs.Op := [qm 58 9, qm 59 8, qk 60 .mul 58 59, qn 61 .quo 60 1000, ql 62 1 3, qf 63 0 7, qv 64 7 1 63, qj 65 3 62 64, qf 66 0 65, ql 67 1 66, qn 68 .quo 67 8, qo 69 (.mn (.t 61) (.t 68)), qm 10 69]
def f138r10 : List Abs.Op := [qm 70 10, qn 71 .gtr 70 0]
def f138r11 : List Abs.Op := [qL 72 1 5, qW 73 7 2 7, qL 74 1 3, qF 75 0 7, qV 76 7 1 75, qJ 77 3 74 76, qA 78 3 77, qM 79 10, qC 80 i_rock_Block_out [78, 79], ⟨none, none, false, .mp (.put (some (true, [some .i64, some .i64]))) [(.t 72), (.t 73), (.t 80)]⟩]
def f_rock_bedded_flows_a12 : Abs.Cmd :=
  (.reg [2, 3, 5, 6, 7] f138r4)

def f_rock_bedded_flows_b12 : Abs.Cmd :=
  (.blk 1 (.seq (.reg [2, 3, 5, 7, 8] f138r5) (.seq (.seq (.reg [2, 3, 5, 7, 8, 41] f138r6) (.ite (.t 41) (.reg [2, 3, 5, 7, 8] f138r7) .nop)) (.seq (.reg [3, 5, 7, 8, 9] f138r8) (.seq (.reg [3, 5, 7, 10] f138r9) (.seq (.reg [3, 5, 7, 10, 71] f138r10) (.ite (.t 71) (.reg [] f138r11) .nop)))))))

def f138r13 : List Abs.Op := [ql 81 1 5, qm 4 81]
def a_rock_bedded_flows : Ann := ⟨[(12, [4]), (11, []), (10, [3, 5, 7, 10, 71]), (9, [3, 5, 7, 10]), (8, [3, 5, 7, 8, 9]), (7, [2, 3, 5, 7, 8]), (6, [2, 3, 5, 7, 8, 41]), (5, [2, 3, 5, 7, 8]), (4, [2, 3, 5, 6, 7]), (3, [2, 3, 4, 5, 6, 17]), (2, [2, 3, 4, 5, 6]), (1, [2, 3, 4, 5]), (0, [2, 3, 4])], [(0, [2, 3, 4, 5, 6])], [], [5, 6, 7], [7], [], [], [], [], [], []⟩
def f_rock_bedded_flows : Abs.Fn := ⟨2, [.t 4],
  (.seq (.reg [2, 3, 4] f138r0) (.seq (.reg [2, 3, 4, 5] f138r1) (.seq (.reg [2, 3, 4, 5, 6] f138r2) (.seq (.seq (.reg [2, 3, 4, 5, 6, 17] f138r3) (.blk 0 (.rngf [2, 3, 4, 5, 6] (.t 17) [18] f_rock_bedded_flows_a12 f_rock_bedded_flows_b12))) (.seq (.reg [4] f138r13) .ret)))))⟩
@[simp] theorem e138 : type_of% (show f138r0 = _ ∧ f138r1 = _ ∧ f138r2 = _ ∧ f138r3 = _ ∧ f138r4 = _ ∧ f138r5 = _ ∧ f138r6 = _ ∧ f138r7 = _ ∧ f138r8 = _ ∧ f138r9 = _ ∧ f138r10 = _ ∧ f138r11 = _ ∧ f138r13 = _ from by simp only [f138r0, f138r1, f138r2, f138r3, f138r4, f138r5, f138r6, f138r7, f138r8, f138r9, f138r10, f138r11, f138r13, qo, qm, qM, qf, qF, ql, qL, qa, qA, qv, qV, qW, qx, qj, qJ, qk, qK, qn, qs, qt, qc, qC, List.map_cons, List.map_nil]; exact ⟨rfl, rfl, rfl, rfl, rfl, rfl, rfl, rfl, rfl, rfl, rfl, rfl, rfl⟩) := ⟨rfl, rfl, rfl, rfl, rfl, rfl, rfl, rfl, rfl, rfl, rfl, rfl, rfl⟩
theorem e_rock_bedded_flows_a12 : type_of% f_rock_bedded_flows_a12.eq_1 := by_rfl f_rock_bedded_flows_a12.eq_1
theorem e_rock_bedded_flows_b12 : type_of% f_rock_bedded_flows_b12.eq_1 := by_rfl f_rock_bedded_flows_b12.eq_1
theorem e_rock_bedded_flows : type_of% f_rock_bedded_flows.eq_1 := by_rfl f_rock_bedded_flows.eq_1
theorem ok_rock_bedded_flows : fnC Tryz.prog a_rock_bedded_flows Tryz.f138 = some f_rock_bedded_flows := by kernel_rfl

/-! 139 (*fumarole/rock.Block).move -/
def f139r0 : List Abs.Op := [qx 4 1]
def f139r1 : List Abs.Op := [qM 6 0, qO 7 (.nck (.t 6)), qF 8 0 7, qL 9 1 8, qM 10 2, qF 11 0 4, qL 12 1 11, qK 13 .mul 10 12, qk 14 .add 9 13, qo 15 (.nck (.t 6)), qf 16 0 15, qt 1 16 14]
def f139r2 : List Abs.Op := [qM 17 0, qO 18 (.nck (.t 17)), qF 19 1 18, qL 20 1 19, qM 21 2, qF 22 1 4, qL 23 1 22, qK 24 .mul 21 23, qk 25 .add 20 24, qo 26 (.nck (.t 17)), qf 27 1 26, qt 1 27 25]
def f139r3 : List Abs.Op := [qM 28 0, qO 29 (.nck (.t 28)), qF 30 2 29, qL 31 1 30, qM 32 2, qF 33 2 4, qL 34 1 33, qK 35 .mul 32 34, qk 36 .add 31 35, qo 37 (.nck (.t 28)), qf 38 2 37, qt 1 38 36]
def a_rock_Block_move : Ann := ⟨[(3, []), (2, [0, 2, 4]), (1, [0, 2, 4]), (0, [0, 2, 4])], [], [], [0], [], [], [], [], [], [], []⟩
def f_rock_Block_move : Abs.Fn := ⟨3, [],
  (.seq (.reg [0, 2, 4] f139r0) (.seq (.reg [0, 2, 4] f139r1) (.seq (.reg [0, 2, 4] f139r2) (.reg [] f139r3))))⟩
@[simp] theorem e139 : type_of% (show f139r0 = _ ∧ f139r1 = _ ∧ f139r2 = _ ∧ f139r3 = _ from by simp only [f139r0, f139r1, f139r2, f139r3, qo, qO, qM, qf, qF, qL, qx, qk, qK, qt]; exact ⟨rfl, rfl, rfl, rfl⟩) := ⟨rfl, rfl, rfl, rfl⟩
theorem e_rock_Block_move : type_of% f_rock_Block_move.eq_1 := by_rfl f_rock_Block_move.eq_1
theorem ok_rock_Block_move : fnC Tryz.prog a_rock_Block_move Tryz.f139 = some f_rock_Block_move := by kernel_rfl

/-! 140 (fumarole/rock.Bore).given -/
def f140r0 : List Abs.Op := [qx 2 0, qo 4 (.alcv [] [(.int .i64 0), (.int .i64 0), (.int .i64 0)])]
def f140r1 : List Abs.Op := [qm 5 1, qo 6 (.un .neg (.t 5)), qm 7 1, qo 8 (.un .neg (.t 7)), qf 9 1 2, ql 10 1 9, qk 11 .mul 8 10, qm 12 1, qo 13 (.un .neg (.t 12)), qf 14 2 2, ql 15 1 14, qk 16 .mul 13 15, qo 17 (.bld [(.int .i64 0), (.int .i64 0), (.int .i64 0)] [(0, 1, (.t 6)), (1, 1, (.t 11)), (2, 1, (.t 16))]), qs 4 3 4 17]
def a_rock_Bore_given : Ann := ⟨[(1, [4]), (0, [1, 2, 4])], [], [], [4], [4], [], [], [], [], [], []⟩
def f_rock_Bore_given : Abs.Fn := ⟨2, [.v 4 true 3],
  (.seq (.reg [1, 2, 4] f140r0) (.seq (.reg [4] f140r1) .ret))⟩
@[simp] theorem e140 : type_of% (show f140r0 = _ ∧ f140r1 = _ from by simp only [f140r0, f140r1, qo, qm, qf, ql, qx, qk, qs]; exact ⟨rfl, rfl⟩) := ⟨rfl, rfl⟩
theorem e_rock_Bore_given : type_of% f_rock_Bore_given.eq_1 := by_rfl f_rock_Bore_given.eq_1
theorem ok_rock_Bore_given : fnC Tryz.prog a_rock_Bore_given Tryz.f140 = some f_rock_Bore_given := by kernel_rfl

/-! 141 (fumarole/rock.Block).out -/
def f141r0 : List Abs.Op := [qx 2 0, qo 4 (.alcv [] [(.int .i64 0), (.int .i64 0), (.int .i64 0)])]
def f141r1 : List Abs.Op := [qM 5 1, qF 6 1 2, qL 7 1 6, qM 8 1, qK 9 .mul 7 8, qF 10 0 2, qL 11 1 10, qK 12 .quo 9 11, qF 13 2 2, qL 14 1 13, qM 15 1, qK 16 .mul 14 15, qF 17 0 2, qL 18 1 17, qK 19 .quo 16 18, qo 20 (.bld [(.int .i64 0), (.int .i64 0), (.int .i64 0)] [(0, 1, (.t 5)), (1, 1, (.t 12)), (2, 1, (.t 19))]), qs 4 3 4 20]
def a_rock_Block_out : Ann := ⟨[(1, [4]), (0, [1, 2, 4])], [], [], [4], [4], [], [], [], [], [], []⟩
def f_rock_Block_out : Abs.Fn := ⟨2, [.v 4 true 3],
  (.seq (.reg [1, 2, 4] f141r0) (.seq (.reg [4] f141r1) .ret))⟩
@[simp] theorem e141 : type_of% (show f141r0 = _ ∧ f141r1 = _ from by simp only [f141r0, f141r1, qo, qM, qF, qL, qx, qK, qs]; exact ⟨rfl, rfl⟩) := ⟨rfl, rfl⟩
theorem e_rock_Block_out : type_of% f_rock_Block_out.eq_1 := by_rfl f_rock_Block_out.eq_1
theorem ok_rock_Block_out : fnC Tryz.prog a_rock_Block_out Tryz.f141 = some f_rock_Block_out := by kernel_rfl

/-! 142 (fumarole/rock.bedded).fed -/
def f142r0 : List Abs.Op := [qx 2 0, qo 4 (.alcv [] [(.int .i64 0), (.int .i64 0), (.int .i64 0)])]
def f142r1 : List Abs.Op := [qA 5 11 2, qM 6 1, qC 7 i_rock_bedded_feed [5, 6], qA 8 11 2, qM 9 1, qC 10 i_rock_bedded_feed [8, 9], qF 11 0 2, qF 12 7 11, qL 13 1 12, qk 14 .mul 10 13, qo 15 (.bld [(.int .i64 0), (.int .i64 0), (.int .i64 0)] [(0, 1, (.t 7)), (1, 1, (.t 14))]), qs 4 3 4 15]
def a_rock_bedded_fed : Ann := ⟨[(1, [4]), (0, [1, 2, 4])], [], [], [4], [4], [], [], [], [], [], []⟩
def f_rock_bedded_fed : Abs.Fn := ⟨2, [.v 4 true 3],
  (.seq (.reg [1, 2, 4] f142r0) (.seq (.reg [4] f142r1) .ret))⟩
@[simp] theorem e142 : type_of% (show f142r0 = _ ∧ f142r1 = _ from by simp only [f142r0, f142r1, qo, qM, qF, qL, qA, qx, qk, qs, qC, List.map_cons, List.map_nil]; exact ⟨rfl, rfl⟩) := ⟨rfl, rfl⟩
theorem e_rock_bedded_fed : type_of% f_rock_bedded_fed.eq_1 := by_rfl f_rock_bedded_fed.eq_1
theorem ok_rock_bedded_fed : fnC Tryz.prog a_rock_bedded_fed Tryz.f142 = some f_rock_bedded_fed := by kernel_rfl

/-! 143 (fumarole/rock.bedded).state -/
def f143r0 : List Abs.Op := [qx 2 0, qb 4 false]
def f143r1 : List Abs.Op := [qm 5 1, qe 6 5, qf 7 0 2, qa 8 9 7, qc 9 i_rock_Bed_size [8], qk 10 .eql 6 9, qm 11 10, qg 11 true (qm 12 1), qg 11 true (qo 13 (.call false (.c (.fn i_rock_all_rock_Block [] [])) [(.t 12), (.c (.fn i_rock_Block_valid [] []))])), qp 14 11 13, qm 4 14]
def a_rock_bedded_state : Ann := ⟨[(1, [4]), (0, [1, 2])], [], [], [], [], [], [], [], [], [], []⟩
def f_rock_bedded_state : Abs.Fn := ⟨2, [.t 4],
  (.seq (.reg [1, 2] f143r0) (.seq (.reg [4] f143r1) .ret))⟩
@[simp] theorem e143 : type_of% (show f143r0 = _ ∧ f143r1 = _ from by simp only [f143r0, f143r1, qo, qm, qb, qf, qa, qx, qe, qk, qp, qc, qg, List.map_cons, List.map_nil]; exact ⟨rfl, rfl⟩) := ⟨rfl, rfl⟩
theorem e_rock_bedded_state : type_of% f_rock_bedded_state.eq_1 := by_rfl f_rock_bedded_state.eq_1
theorem ok_rock_bedded_state : fnC Tryz.prog a_rock_bedded_state Tryz.f143 = some f_rock_bedded_state := by kernel_rfl

/-! 144 slices.ContainsFunc[[]fumarole/steam.Row,fumarole/steam.Row] -/
def f144r0 : List Abs.Op := [qb 4 false]
def f144r1 : List Abs.Op := [qm 5 0, qm 6 1, qc 7 i_slices_IndexFunc_steam_Row [5, 6], qn 8 .geq 7 0, qm 4 8]
def a_slices_ContainsFunc_steam_Row : Ann := ⟨[(1, [4]), (0, [0, 1])], [], [], [], [], [], [], [], [], [], []⟩
def f_slices_ContainsFunc_steam_Row : Abs.Fn := ⟨2, [.t 4],
  (.seq (.reg [0, 1] f144r0) (.seq (.reg [4] f144r1) .ret))⟩
@[simp] theorem e144 : type_of% (show f144r0 = _ ∧ f144r1 = _ from by simp only [f144r0, f144r1, qm, qb, qn, qc, List.map_cons, List.map_nil]; exact ⟨rfl, rfl⟩) := ⟨rfl, rfl⟩
theorem e_slices_ContainsFunc_steam_Row : type_of% f_slices_ContainsFunc_steam_Row.eq_1 := by_rfl f_slices_ContainsFunc_steam_Row.eq_1
theorem ok_slices_ContainsFunc_steam_Row : fnC Tryz.prog a_slices_ContainsFunc_steam_Row Tryz.f144 = some f_slices_ContainsFunc_steam_Row := by kernel_rfl

/-! 145 fumarole/steam.all[fumarole/steam.Row]$1 -/
def f145r0 : List Abs.Op := [qx 2 0, qb 3 false]
def f145r1 : List Abs.Op := [ql 4 1 1, qa 5 5 2, qo 6 (.call false (.t 4) [(.t 5)]), qu 7 6, qm 3 7]
def a_steam_all_steam_Row_1 : Ann := ⟨[(1, [3]), (0, [1, 2])], [], [], [], [], [], [], [], [], [], []⟩
def f_steam_all_steam_Row_1 : Abs.Fn := ⟨2, [.t 3],
  (.seq (.reg [1, 2] f145r0) (.seq (.reg [3] f145r1) .ret))⟩
@[simp] theorem e145 : type_of% (show f145r0 = _ ∧ f145r1 = _ from by simp only [f145r0, f145r1, qo, qm, qb, ql, qa, qx, qu]; exact ⟨rfl, rfl⟩) := ⟨rfl, rfl⟩
theorem e_steam_all_steam_Row_1 : type_of% f_steam_all_steam_Row_1.eq_1 := by_rfl f_steam_all_steam_Row_1.eq_1
theorem ok_steam_all_steam_Row_1 : fnC Tryz.prog a_steam_all_steam_Row_1 Tryz.f145 = some f_steam_all_steam_Row_1 := by kernel_rfl

/-! 146 fumarole/field.each[fumarole/field.Model] -/
def f146r0 : List Abs.Op := [qi 4 0]
def f146r1 : List Abs.Op := [qo 10 (.mp (.make) []), qm 5 10]
def f146r2 : List Abs.Op := [qm 11 0, qe 12 11, qi 13 0]
def f146r3 : List Abs.Op := [qk 14 .lss 13 12]
def f146r4 : List Abs.Op := [qj 15 2 11 13, qa 16 2 15, qo 7 (.alcv [] [(.str []), .nils]), qs 7 2 7 16]
def f146r5 : List Abs.Op := [qm 18 1, qw 19 7 2 7, qo 20 (.call false (.t 18) [(.t 19)]), qm 17 20, qz 21 17 0, qz 22 17 1, qm 8 21, qm 9 22]
def f146r6 : List Abs.Op := [qm 23 9, qn 24 .neq 23 0]
def f146r7 : List Abs.Op := [qm 25 9, qm 4 25]
def f146r8 : List Abs.Op := [qm 26 5, qm 27 8, qo 28 (.mp (.get none (.bool false) false) [(.t 26), (.t 27)])]
def f146r9 : List Abs.Op := [qi 4 6]
def f146r10 : List Abs.Op := [qm 29 5, qm 30 8, ⟨none, none, false, .mp (.put none) [(.t 29), (.t 30), (.c (.bool true))]⟩]
def f146r11 : List Abs.Op := [qn 31 .add 13 1, qm 13 31]
def f_field_each_field_Model_l12 : Abs.Cmd :=
  (.seq (.reg [1, 5, 11, 12, 13, 14] f146r3) (.seq (.ite (.t 14) .nop (.exit 0)) (.seq (.blk 1 (.seq (.reg [1, 5, 7, 11, 12, 13] f146r4) (.seq (.reg [1, 5, 8, 9, 11, 12, 13] f146r5) (.seq (.seq (.reg [1, 5, 8, 9, 11, 12, 13, 24] f146r6) (.ite (.t 24) (.seq (.reg [4] f146r7) .ret) .nop)) (.seq (.seq (.reg [1, 5, 8, 11, 12, 13, 28] f146r8) (.ite (.t 28) (.seq (.reg [4] f146r9) .ret) .nop)) (.reg [1, 5, 11, 12, 13] f146r10)))))) (.reg [1, 5, 11, 12, 13] f146r11))))

def f146r13 : List Abs.Op := [qi 4 0]
def a_field_each_field_Model : Ann := ⟨[(12, [4]), (11, [1, 5, 11, 12, 13]), (10, [1, 5, 11, 12, 13]), (9, [4]), (8, [1, 5, 8, 11, 12, 13, 28]), (7, [4]), (6, [1, 5, 8, 9, 11, 12, 13, 24]), (5, [1, 5, 8, 9, 11, 12, 13]), (4, [1, 5, 7, 11, 12, 13]), (3, [1, 5, 11, 12, 13, 14]), (2, [1, 5, 11, 12, 13]), (1, [0, 1, 5]), (0, [0, 1])], [(0, [1, 5, 11, 12, 13])], [], [7], [7], [], [], [], [], [], []⟩
def f_field_each_field_Model : Abs.Fn := ⟨2, [.t 4],
  (.seq (.reg [0, 1] f146r0) (.seq (.reg [0, 1, 5] f146r1) (.seq (.seq (.reg [1, 5, 11, 12, 13] f146r2) (.blk 0 (.loop [1, 5, 11, 12, 13] false f_field_each_field_Model_l12))) (.seq (.reg [4] f146r13) .ret))))⟩
@[simp] theorem e146 : type_of% (show f146r0 = _ ∧ f146r1 = _ ∧ f146r2 = _ ∧ f146r3 = _ ∧ f146r4 = _ ∧ f146r5 = _ ∧ f146r6 = _ ∧ f146r7 = _ ∧ f146r8 = _ ∧ f146r9 = _ ∧ f146r10 = _ ∧ f146r11 = _ ∧ f146r13 = _ from by simp only [f146r0, f146r1, f146r2, f146r3, f146r4, f146r5, f146r6, f146r7, f146r8, f146r9, f146r10, f146r11, f146r13, qo, qm, qi, qa, qw, qe, qj, qk, qn, qs, qz]; exact ⟨rfl, rfl, rfl, rfl, rfl, rfl, rfl, rfl, rfl, rfl, rfl, rfl, rfl⟩) := ⟨rfl, rfl, rfl, rfl, rfl, rfl, rfl, rfl, rfl, rfl, rfl, rfl, rfl⟩
theorem e_field_each_field_Model_l12 : type_of% f_field_each_field_Model_l12.eq_1 := by_rfl f_field_each_field_Model_l12.eq_1
theorem e_field_each_field_Model : type_of% f_field_each_field_Model.eq_1 := by_rfl f_field_each_field_Model.eq_1
theorem ok_field_each_field_Model : fnC Tryz.prog a_field_each_field_Model Tryz.f146 = some f_field_each_field_Model := by kernel_rfl

/-! 147 (fumarole/field.Field).models$1 -/
def f147r0 : List Abs.Op := [qx 2 0, qo 3 (.mv (.c (.str []))), qi 4 0]
def f147r1 : List Abs.Op := [qF 5 0 2, qL 6 1 5, qA 7 4 1, qA 8 2 2, qC 9 i_field_Field_model [7, 8], qm 3 6, qm 4 9]
def a_field_Field_models_1 : Ann := ⟨[(1, [3, 4]), (0, [1, 2])], [], [], [], [], [], [], [], [], [], []⟩
def f_field_Field_models_1 : Abs.Fn := ⟨2, [.t 3, .t 4],
  (.seq (.reg [1, 2] f147r0) (.seq (.reg [3, 4] f147r1) .ret))⟩
@[simp] theorem e147 : type_of% (show f147r0 = _ ∧ f147r1 = _ from by simp only [f147r0, f147r1, qo, qm, qi, qF, qL, qA, qx, qC, List.map_cons, List.map_nil]; exact ⟨rfl, rfl⟩) := ⟨rfl, rfl⟩
theorem e_field_Field_models_1 : type_of% f_field_Field_models_1.eq_1 := by_rfl f_field_Field_models_1.eq_1
theorem ok_field_Field_models_1 : fnC Tryz.prog a_field_Field_models_1 Tryz.f147 = some f_field_Field_models_1 := by kernel_rfl

/-! 148 (fumarole/field.Field).model -/
def f148r0 : List Abs.Op := [qx 2 0, qx 3 1, qi 4 0]
def f148r1 : List Abs.Op := [qf 6 0 3, ql 7 1 6, qc 8 i_field_named [7], qu 9 8, qm 5 9]
def f148r2 : List Abs.Op := [qi 4 5]
def f148r3 : List Abs.Op := [qF 11 1 3, qL 12 1 11, qE 13 12, qF 14 3 2, qL 15 1 14, qA 16 4 2, qC 17 i_field_Field_blocks [16], qK 18 .mul 15 17, qk 19 .neq 13 18, qm 20 19, qg 20 false (qf 21 1 3), qg 20 false (ql 22 1 21), qg 20 false (qo 23 (.call false (.c (.fn i_field_all_int [] [])) [(.t 22), (.c (.fn i_field_Field_model_1 [] []))])), qg 20 false (qu 24 23), qP 25 20 24, qm 10 25]
def f148r4 : List Abs.Op := [qi 4 1]
def f148r5 : List Abs.Op := [qi 4 0]
def a_field_Field_model : Ann := ⟨[(5, [4]), (2, [4]), (4, [4]), (3, [10]), (1, [2, 3, 5]), (0, [2, 3])], [], [], [], [], [], [], [], [], [], []⟩
def f_field_Field_model : Abs.Fn := ⟨2, [.t 4],
  (.seq (.reg [2, 3] f148r0) (.seq (.blk 0 (.seq (.reg [2, 3, 5] f148r1) (.ite (.t 5) (.seq (.reg [4] f148r2) .ret) (.seq (.reg [10] f148r3) (.ite (.t 10) (.seq (.reg [4] f148r4) .ret) .nop))))) (.seq (.reg [4] f148r5) .ret)))⟩
@[simp] theorem e148 : type_of% (show f148r0 = _ ∧ f148r1 = _ ∧ f148r2 = _ ∧ f148r3 = _ ∧ f148r4 = _ ∧ f148r5 = _ from by simp only [f148r0, f148r1, f148r2, f148r3, f148r4, f148r5, qo, qm, qi, qf, qF, ql, qL, qA, qx, qE, qk, qK, qu, qP, qc, qC, qg, List.map_cons, List.map_nil]; exact ⟨rfl, rfl, rfl, rfl, rfl, rfl⟩) := ⟨rfl, rfl, rfl, rfl, rfl, rfl⟩
theorem e_field_Field_model : type_of% f_field_Field_model.eq_1 := by_rfl f_field_Field_model.eq_1
theorem ok_field_Field_model : fnC Tryz.prog a_field_Field_model Tryz.f148 = some f_field_Field_model := by kernel_rfl

/-! 149 fumarole/field.each[fumarole/field.Measure] -/
def f149r0 : List Abs.Op := [qi 4 0]
def f149r1 : List Abs.Op := [qo 10 (.mp (.make) []), qm 5 10]
def f149r2 : List Abs.Op := [qm 11 0, qe 12 11, qi 13 0]
def f149r3 : List Abs.Op := [qk 14 .lss 13 12]
def f149r4 : List Abs.Op := [qj 15 6 11 13, qa 16 6 15, qo 7 (.alcv [] [(.str []), (.int .i64 0), .nils, .nils, (.int .i64 0), (.int .i64 0)]), qs 7 6 7 16]
def f149r5 : List Abs.Op := [qm 18 1, qw 19 7 6 7, qo 20 (.call false (.t 18) [(.t 19)]), qm 17 20, qz 21 17 0, qz 22 17 1, qm 8 21, qm 9 22]
def f149r6 : List Abs.Op := [qm 23 9, qn 24 .neq 23 0]
def f149r7 : List Abs.Op := [qm 25 9, qm 4 25]
def f149r8 : List Abs.Op := [qm 26 5, qm 27 8, qo 28 (.mp (.get none (.bool false) false) [(.t 26), (.t 27)])]
def f149r9 : List Abs.Op := [qi 4 6]
def f149r10 : List Abs.Op := [qm 29 5, qm 30 8, ⟨none, none, false, .mp (.put none) [(.t 29), (.t 30), (.c (.bool true))]⟩]
def f149r11 : List Abs.Op := [qn 31 .add 13 1, qm 13 31]
def f_field_each_field_Measure_l12 : Abs.Cmd :=
  (.seq (.reg [1, 5, 11, 12, 13, 14] f149r3) (.seq (.ite (.t 14) .nop (.exit 0)) (.seq (.blk 1 (.seq (.reg [1, 5, 7, 11, 12, 13] f149r4) (.seq (.reg [1, 5, 8, 9, 11, 12, 13] f149r5) (.seq (.seq (.reg [1, 5, 8, 9, 11, 12, 13, 24] f149r6) (.ite (.t 24) (.seq (.reg [4] f149r7) .ret) .nop)) (.seq (.seq (.reg [1, 5, 8, 11, 12, 13, 28] f149r8) (.ite (.t 28) (.seq (.reg [4] f149r9) .ret) .nop)) (.reg [1, 5, 11, 12, 13] f149r10)))))) (.reg [1, 5, 11, 12, 13] f149r11))))

def f149r13 : List Abs.Op := [qi 4 0]
def a_field_each_field_Measure : Ann := ⟨[(12, [4]), (11, [1, 5, 11, 12, 13]), (10, [1, 5, 11, 12, 13]), (9, [4]), (8, [1, 5, 8, 11, 12, 13, 28]), (7, [4]), (6, [1, 5, 8, 9, 11, 12, 13, 24]), (5, [1, 5, 8, 9, 11, 12, 13]), (4, [1, 5, 7, 11, 12, 13]), (3, [1, 5, 11, 12, 13, 14]), (2, [1, 5, 11, 12, 13]), (1, [0, 1, 5]), (0, [0, 1])], [(0, [1, 5, 11, 12, 13])], [], [7], [7], [], [], [], [], [], []⟩
def f_field_each_field_Measure : Abs.Fn := ⟨2, [.t 4],
  (.seq (.reg [0, 1] f149r0) (.seq (.reg [0, 1, 5] f149r1) (.seq (.seq (.reg [1, 5, 11, 12, 13] f149r2) (.blk 0 (.loop [1, 5, 11, 12, 13] false f_field_each_field_Measure_l12))) (.seq (.reg [4] f149r13) .ret))))⟩
@[simp] theorem e149 : type_of% (show f149r0 = _ ∧ f149r1 = _ ∧ f149r2 = _ ∧ f149r3 = _ ∧ f149r4 = _ ∧ f149r5 = _ ∧ f149r6 = _ ∧ f149r7 = _ ∧ f149r8 = _ ∧ f149r9 = _ ∧ f149r10 = _ ∧ f149r11 = _ ∧ f149r13 = _ from by simp only [f149r0, f149r1, f149r2, f149r3, f149r4, f149r5, f149r6, f149r7, f149r8, f149r9, f149r10, f149r11, f149r13, qo, qm, qi, qa, qw, qe, qj, qk, qn, qs, qz]; exact ⟨rfl, rfl, rfl, rfl, rfl, rfl, rfl, rfl, rfl, rfl, rfl, rfl, rfl⟩) := ⟨rfl, rfl, rfl, rfl, rfl, rfl, rfl, rfl, rfl, rfl, rfl, rfl, rfl⟩
theorem e_field_each_field_Measure_l12 : type_of% f_field_each_field_Measure_l12.eq_1 := by_rfl f_field_each_field_Measure_l12.eq_1
theorem e_field_each_field_Measure : type_of% f_field_each_field_Measure.eq_1 := by_rfl f_field_each_field_Measure.eq_1
theorem ok_field_each_field_Measure : fnC Tryz.prog a_field_each_field_Measure Tryz.f149 = some f_field_each_field_Measure := by kernel_rfl

/-! 150 (fumarole/field.Field).measures$1 -/
def f150r0 : List Abs.Op := [qx 2 0, qo 3 (.mv (.c (.str []))), qi 4 0]
def f150r1 : List Abs.Op := [qF 5 0 2, qL 6 1 5, qA 7 4 1, qA 8 6 2, qC 9 i_field_Field_measure [7, 8], qm 3 6, qm 4 9]
def a_field_Field_measures_1 : Ann := ⟨[(1, [3, 4]), (0, [1, 2])], [], [], [], [], [], [], [], [], [], []⟩
def f_field_Field_measures_1 : Abs.Fn := ⟨2, [.t 3, .t 4],
  (.seq (.reg [1, 2] f150r0) (.seq (.reg [3, 4] f150r1) .ret))⟩
@[simp] theorem e150 : type_of% (show f150r0 = _ ∧ f150r1 = _ from by simp only [f150r0, f150r1, qo, qm, qi, qF, qL, qA, qx, qC, List.map_cons, List.map_nil]; exact ⟨rfl, rfl⟩) := ⟨rfl, rfl⟩
theorem e_field_Field_measures_1 : type_of% f_field_Field_measures_1.eq_1 := by_rfl f_field_Field_measures_1.eq_1
theorem ok_field_Field_measures_1 : fnC Tryz.prog a_field_Field_measures_1 Tryz.f150 = some f_field_Field_measures_1 := by kernel_rfl

/-! 151 (fumarole/field.Field).measure -/
def f151r0 : List Abs.Op := [qx 2 0, qx 3 1, qi 4 0]
def f151r1 : List Abs.Op := [qf 6 0 3, ql 7 1 6, qc 8 i_field_named [7], qu 9 8, qm 5 9]
def f151r2 : List Abs.Op := [qi 4 5]
def f151r3 : List Abs.Op := [qa 11 4 2, qf 12 1 3, ql 13 1 12, qf 14 2 3, ql 15 1 14, qf 16 3 3, ql 17 1 16, qc 18 i_field_Field_sums [11, 13, 15, 17], qu 19 18, qm 20 19, qg 20 false (qf 21 4 3), qg 20 false (qa 22 2 21), qg 20 false (qc 23 i_field_Range_ends [22]), qg 20 false (qu 24 23), qP 25 20 24, qm 10 25]
def f151r4 : List Abs.Op := [qi 4 1]
def f151r5 : List Abs.Op := [qi 4 0]
def a_field_Field_measure : Ann := ⟨[(5, [4]), (2, [4]), (4, [4]), (3, [10]), (1, [2, 3, 5]), (0, [2, 3])], [], [], [], [], [], [], [], [], [], []⟩
def f_field_Field_measure : Abs.Fn := ⟨2, [.t 4],
  (.seq (.reg [2, 3] f151r0) (.seq (.blk 0 (.seq (.reg [2, 3, 5] f151r1) (.ite (.t 5) (.seq (.reg [4] f151r2) .ret) (.seq (.reg [10] f151r3) (.ite (.t 10) (.seq (.reg [4] f151r4) .ret) .nop))))) (.seq (.reg [4] f151r5) .ret)))⟩
@[simp] theorem e151 : type_of% (show f151r0 = _ ∧ f151r1 = _ ∧ f151r2 = _ ∧ f151r3 = _ ∧ f151r4 = _ ∧ f151r5 = _ from by simp only [f151r0, f151r1, f151r2, f151r3, f151r4, f151r5, qm, qi, qf, ql, qa, qx, qu, qP, qc, qg, List.map_cons, List.map_nil]; exact ⟨rfl, rfl, rfl, rfl, rfl, rfl⟩) := ⟨rfl, rfl, rfl, rfl, rfl, rfl⟩
theorem e_field_Field_measure : type_of% f_field_Field_measure.eq_1 := by_rfl f_field_Field_measure.eq_1
theorem ok_field_Field_measure : fnC Tryz.prog a_field_Field_measure Tryz.f151 = some f_field_Field_measure := by kernel_rfl

/-! 152 (fumarole/field.scale).of -/
def f152r0 : List Abs.Op := [qx 2 0, qx 3 1, qi 4 0]
def f152r1 : List Abs.Op := [qf 7 5 2, ql 8 1 7, qe 9 8, qi 10 0]
def f152r2 : List Abs.Op := [qk 11 .lss 10 9]
def f152r3 : List Abs.Op := [qm 12 10, qj 13 1 8 10, ql 14 1 13, qm 5 12, qm 6 14]
def f152r4 : List Abs.Op := [qM 15 4, qF 16 6 2, qL 17 1 16, qM 18 5, qJ 19 1 17 18, qL 20 1 19, qF 21 1 3, qL 22 1 21, qF 23 4 2, qL 24 1 23, qF 25 0 2, qA 26 4 25, qC 27 i_field_Field_blocks [26], qK 28 .mul 24 27, qM 29 6, qK 30 .add 28 29, qJ 31 1 22 30, qL 32 1 31, qK 33 .mul 20 32, qk 34 .add 15 33, qm 4 34]
def f152r5 : List Abs.Op := [qn 35 .add 10 1, qm 10 35]
def f_field_scale_of_l6 : Abs.Cmd :=
  (.seq (.reg [2, 3, 4, 8, 9, 10, 11] f152r2) (.seq (.ite (.t 11) .nop (.exit 0)) (.seq (.blk 1 (.seq (.reg [2, 3, 4, 5, 6, 8, 9, 10] f152r3) (.reg [2, 3, 4, 8, 9, 10] f152r4))) (.reg [2, 3, 4, 8, 9, 10] f152r5))))

def f152r7 : List Abs.Op := [qm 36 4, qm 4 36]
def a_field_scale_of : Ann := ⟨[(6, [4]), (5, [2, 3, 4, 8, 9, 10]), (4, [2, 3, 4, 8, 9, 10]), (3, [2, 3, 4, 5, 6, 8, 9, 10]), (2, [2, 3, 4, 8, 9, 10, 11]), (1, [2, 3, 4, 8, 9, 10]), (0, [2, 3, 4])], [(0, [2, 3, 4, 8, 9, 10])], [], [], [], [], [], [], [], [], []⟩
def f_field_scale_of : Abs.Fn := ⟨2, [.t 4],
  (.seq (.reg [2, 3, 4] f152r0) (.seq (.seq (.reg [2, 3, 4, 8, 9, 10] f152r1) (.blk 0 (.loop [2, 3, 4, 8, 9, 10] false f_field_scale_of_l6))) (.seq (.reg [4] f152r7) .ret)))⟩
@[simp] theorem e152 : type_of% (show f152r0 = _ ∧ f152r1 = _ ∧ f152r2 = _ ∧ f152r3 = _ ∧ f152r4 = _ ∧ f152r5 = _ ∧ f152r7 = _ from by simp only [f152r0, f152r1, f152r2, f152r3, f152r4, f152r5, f152r7, qm, qM, qi, qf, qF, ql, qL, qA, qx, qe, qj, qJ, qk, qK, qn, qC, List.map_cons, List.map_nil]; exact ⟨rfl, rfl, rfl, rfl, rfl, rfl, rfl⟩) := ⟨rfl, rfl, rfl, rfl, rfl, rfl, rfl⟩
theorem e_field_scale_of_l6 : type_of% f_field_scale_of_l6.eq_1 := by_rfl f_field_scale_of_l6.eq_1
theorem e_field_scale_of : type_of% f_field_scale_of.eq_1 := by_rfl f_field_scale_of.eq_1
theorem ok_field_scale_of : fnC Tryz.prog a_field_scale_of Tryz.f152 = some f_field_scale_of := by kernel_rfl

/-! 153 (fumarole/rock.Yield).warmth -/
def f153r0 : List Abs.Op := [qx 1 0, qi 2 0]
def f153r1 : List Abs.Op := [qf 3 0 1, ql 4 1 3, qn 5 .eql 4 0]
def f153r2 : List Abs.Op := [qi 2 0]
def f153r3 : List Abs.Op := [qf 6 1 1, ql 7 1 6, qf 8 0 1, ql 9 1 8, qk 10 .quo 7 9, qm 2 10]
def a_rock_Yield_warmth : Ann := ⟨[(3, [2]), (2, [2]), (1, [1, 5]), (0, [1])], [], [], [], [], [], [], [], [], [], []⟩
def f_rock_Yield_warmth : Abs.Fn := ⟨1, [.t 2],
  (.seq (.reg [1] f153r0) (.seq (.seq (.reg [1, 5] f153r1) (.ite (.t 5) (.seq (.reg [2] f153r2) .ret) .nop)) (.seq (.reg [2] f153r3) .ret)))⟩
@[simp] theorem e153 : type_of% (show f153r0 = _ ∧ f153r1 = _ ∧ f153r2 = _ ∧ f153r3 = _ from by simp only [f153r0, f153r1, f153r2, f153r3, qm, qi, qf, ql, qx, qk, qn]; exact ⟨rfl, rfl, rfl, rfl⟩) := ⟨rfl, rfl, rfl, rfl⟩
theorem e_rock_Yield_warmth : type_of% f_rock_Yield_warmth.eq_1 := by_rfl f_rock_Yield_warmth.eq_1
theorem ok_rock_Yield_warmth : fnC Tryz.prog a_rock_Yield_warmth Tryz.f153 = some f_rock_Yield_warmth := by kernel_rfl

/-! 156 slices.ContainsFunc[[]fumarole/rock.Bore,fumarole/rock.Bore] -/
def f156r0 : List Abs.Op := [qb 4 false]
def f156r1 : List Abs.Op := [qm 5 0, qm 6 1, qc 7 i_slices_IndexFunc_rock_Bore [5, 6], qn 8 .geq 7 0, qm 4 8]
def a_slices_ContainsFunc_rock_Bore : Ann := ⟨[(1, [4]), (0, [0, 1])], [], [], [], [], [], [], [], [], [], []⟩
def f_slices_ContainsFunc_rock_Bore : Abs.Fn := ⟨2, [.t 4],
  (.seq (.reg [0, 1] f156r0) (.seq (.reg [4] f156r1) .ret))⟩
@[simp] theorem e156 : type_of% (show f156r0 = _ ∧ f156r1 = _ from by simp only [f156r0, f156r1, qm, qb, qn, qc, List.map_cons, List.map_nil]; exact ⟨rfl, rfl⟩) := ⟨rfl, rfl⟩
theorem e_slices_ContainsFunc_rock_Bore : type_of% f_slices_ContainsFunc_rock_Bore.eq_1 := by_rfl f_slices_ContainsFunc_rock_Bore.eq_1
theorem ok_slices_ContainsFunc_rock_Bore : fnC Tryz.prog a_slices_ContainsFunc_rock_Bore Tryz.f156 = some f_slices_ContainsFunc_rock_Bore := by kernel_rfl

/-! 157 fumarole/rock.all[fumarole/rock.Bore]$1 -/
def f157r0 : List Abs.Op := [qx 2 0, qb 3 false]
def f157r1 : List Abs.Op := [ql 4 1 1, qa 5 3 2, qo 6 (.call false (.t 4) [(.t 5)]), qu 7 6, qm 3 7]
def a_rock_all_rock_Bore_1 : Ann := ⟨[(1, [3]), (0, [1, 2])], [], [], [], [], [], [], [], [], [], []⟩
def f_rock_all_rock_Bore_1 : Abs.Fn := ⟨2, [.t 3],
  (.seq (.reg [1, 2] f157r0) (.seq (.reg [3] f157r1) .ret))⟩
@[simp] theorem e157 : type_of% (show f157r0 = _ ∧ f157r1 = _ from by simp only [f157r0, f157r1, qo, qm, qb, ql, qa, qx, qu]; exact ⟨rfl, rfl⟩) := ⟨rfl, rfl⟩
theorem e_rock_all_rock_Bore_1 : type_of% f_rock_all_rock_Bore_1.eq_1 := by_rfl f_rock_all_rock_Bore_1.eq_1
theorem ok_rock_all_rock_Bore_1 : fnC Tryz.prog a_rock_all_rock_Bore_1 Tryz.f157 = some f_rock_all_rock_Bore_1 := by kernel_rfl

/-! 158 slices.IndexFunc[[]fumarole/field.Model,fumarole/field.Model] -/
def f158r0 : List Abs.Op := [qi 4 0]
def f158r1 : List Abs.Op := [qm 6 0, qe 7 6, qi 8 0]
def f158r2 : List Abs.Op := [qk 9 .lss 8 7]
def f158r3 : List Abs.Op := [qm 10 8, qm 5 10]
def f158r4 : List Abs.Op := [qm 11 1, qm 12 0, qm 13 5, qj 14 2 12 13, qa 15 2 14, qo 16 (.call false (.t 11) [(.t 15)])]
def f158r5 : List Abs.Op := [qm 17 5, qm 4 17]
def f158r6 : List Abs.Op := [qn 18 .add 8 1, qm 8 18]
def f_slices_IndexFunc_field_Model_l7 : Abs.Cmd :=
  (.seq (.reg [0, 1, 7, 8, 9] f158r2) (.seq (.ite (.t 9) .nop (.exit 0)) (.seq (.blk 1 (.seq (.reg [0, 1, 5, 7, 8] f158r3) (.seq (.reg [0, 1, 5, 7, 8, 16] f158r4) (.ite (.t 16) (.seq (.reg [4] f158r5) .ret) .nop)))) (.reg [0, 1, 7, 8] f158r6))))

def f158r8 : List Abs.Op := [qi 4 (-1)]
def a_slices_IndexFunc_field_Model : Ann := ⟨[(7, [4]), (6, [0, 1, 7, 8]), (5, [4]), (4, [0, 1, 5, 7, 8, 16]), (3, [0, 1, 5, 7, 8]), (2, [0, 1, 7, 8, 9]), (1, [0, 1, 7, 8]), (0, [0, 1])], [(0, [0, 1, 7, 8])], [], [], [], [], [], [], [], [], []⟩
def f_slices_IndexFunc_field_Model : Abs.Fn := ⟨2, [.t 4],
  (.seq (.reg [0, 1] f158r0) (.seq (.seq (.reg [0, 1, 7, 8] f158r1) (.blk 0 (.loop [0, 1, 7, 8] false f_slices_IndexFunc_field_Model_l7))) (.seq (.reg [4] f158r8) .ret)))⟩
@[simp] theorem e158 : type_of% (show f158r0 = _ ∧ f158r1 = _ ∧ f158r2 = _ ∧ f158r3 = _ ∧ f158r4 = _ ∧ f158r5 = _ ∧ f158r6 = _ ∧ f158r8 = _ from by simp only [f158r0, f158r1, f158r2, f158r3, f158r4, f158r5, f158r6, f158r8, qo, qm, qi, qa, qe, qj, qk, qn]; exact ⟨rfl, rfl, rfl, rfl, rfl, rfl, rfl, rfl⟩) := ⟨rfl, rfl, rfl, rfl, rfl, rfl, rfl, rfl⟩
theorem e_slices_IndexFunc_field_Model_l7 : type_of% f_slices_IndexFunc_field_Model_l7.eq_1 := by_rfl f_slices_IndexFunc_field_Model_l7.eq_1
theorem e_slices_IndexFunc_field_Model : type_of% f_slices_IndexFunc_field_Model.eq_1 := by_rfl f_slices_IndexFunc_field_Model.eq_1
theorem ok_slices_IndexFunc_field_Model : fnC Tryz.prog a_slices_IndexFunc_field_Model Tryz.f158 = some f_slices_IndexFunc_field_Model := by kernel_rfl

/-! 159 slices.ContainsFunc[[]int,int] -/
def f159r0 : List Abs.Op := [qb 4 false]
def f159r1 : List Abs.Op := [qm 5 0, qm 6 1, qc 7 i_slices_IndexFunc_int [5, 6], qn 8 .geq 7 0, qm 4 8]
def a_slices_ContainsFunc_int : Ann := ⟨[(1, [4]), (0, [0, 1])], [], [], [], [], [], [], [], [], [], []⟩
def f_slices_ContainsFunc_int : Abs.Fn := ⟨2, [.t 4],
  (.seq (.reg [0, 1] f159r0) (.seq (.reg [4] f159r1) .ret))⟩
@[simp] theorem e159 : type_of% (show f159r0 = _ ∧ f159r1 = _ from by simp only [f159r0, f159r1, qm, qb, qn, qc, List.map_cons, List.map_nil]; exact ⟨rfl, rfl⟩) := ⟨rfl, rfl⟩
theorem e_slices_ContainsFunc_int : type_of% f_slices_ContainsFunc_int.eq_1 := by_rfl f_slices_ContainsFunc_int.eq_1
theorem ok_slices_ContainsFunc_int : fnC Tryz.prog a_slices_ContainsFunc_int Tryz.f159 = some f_slices_ContainsFunc_int := by kernel_rfl

/-! 160 fumarole/rock.all[int]$1 -/
def f160r0 : List Abs.Op := [qb 3 false]
def f160r1 : List Abs.Op := [ql 4 1 1, qm 5 0, qo 6 (.call false (.t 4) [(.t 5)]), qu 7 6, qm 3 7]
def a_rock_all_int_1 : Ann := ⟨[(1, [3]), (0, [0, 1])], [], [], [], [], [], [], [], [], [], []⟩
def f_rock_all_int_1 : Abs.Fn := ⟨2, [.t 3],
  (.seq (.reg [0, 1] f160r0) (.seq (.reg [3] f160r1) .ret))⟩
@[simp] theorem e160 : type_of% (show f160r0 = _ ∧ f160r1 = _ from by simp only [f160r0, f160r1, qo, qm, qb, ql, qu]; exact ⟨rfl, rfl⟩) := ⟨rfl, rfl⟩
theorem e_rock_all_int_1 : type_of% f_rock_all_int_1.eq_1 := by_rfl f_rock_all_int_1.eq_1
theorem ok_rock_all_int_1 : fnC Tryz.prog a_rock_all_int_1 Tryz.f160 = some f_rock_all_int_1 := by kernel_rfl

/-! 161 (fumarole/rock.bedded).pressures -/
def f161r0 : List Abs.Op := [qx 2 0, qo 4 (.nilb 1)]
def f161r1 : List Abs.Op := [qm 6 1, qe 7 6, qi 8 0]
def f161r2 : List Abs.Op := [qk 9 .lss 8 7]
def f161r3 : List Abs.Op := [qm 10 8, qm 5 10]
def f161r4 : List Abs.Op := [qm 11 4, qa 12 11 2, qm 13 1, qm 14 5, qc 15 i_rock_bedded_pressure [12, 13, 14], qo 16 (.bsi 1 1 [(.int .i64 0)] [(0, 1, (.t 15))]), qy 17 1 8 11 16, qm 4 17]
def f161r5 : List Abs.Op := [qn 18 .add 8 1, qm 8 18]
def f_rock_bedded_pressures_l6 : Abs.Cmd :=
  (.seq (.reg [1, 2, 4, 7, 8, 9] f161r2) (.seq (.ite (.t 9) .nop (.exit 0)) (.seq (.blk 1 (.seq (.reg [1, 2, 4, 5, 7, 8] f161r3) (.reg [1, 2, 4, 7, 8] f161r4))) (.reg [1, 2, 4, 7, 8] f161r5))))

def f161r7 : List Abs.Op := [qm 19 4, qm 4 19]
def a_rock_bedded_pressures : Ann := ⟨[(6, [4]), (5, [1, 2, 4, 7, 8]), (4, [1, 2, 4, 7, 8]), (3, [1, 2, 4, 5, 7, 8]), (2, [1, 2, 4, 7, 8, 9]), (1, [1, 2, 4, 7, 8]), (0, [1, 2, 4])], [(0, [1, 2, 4, 7, 8])], [], [4], [], [], [], [], [], [], []⟩
def f_rock_bedded_pressures : Abs.Fn := ⟨2, [.t 4],
  (.seq (.reg [1, 2, 4] f161r0) (.seq (.seq (.reg [1, 2, 4, 7, 8] f161r1) (.blk 0 (.loop [1, 2, 4, 7, 8] false f_rock_bedded_pressures_l6))) (.seq (.reg [4] f161r7) .ret)))⟩
@[simp] theorem e161 : type_of% (show f161r0 = _ ∧ f161r1 = _ ∧ f161r2 = _ ∧ f161r3 = _ ∧ f161r4 = _ ∧ f161r5 = _ ∧ f161r7 = _ from by simp only [f161r0, f161r1, f161r2, f161r3, f161r4, f161r5, f161r7, qo, qm, qi, qa, qx, qe, qk, qn, qc, qy, List.map_cons, List.map_nil]; exact ⟨rfl, rfl, rfl, rfl, rfl, rfl, rfl⟩) := ⟨rfl, rfl, rfl, rfl, rfl, rfl, rfl⟩
theorem e_rock_bedded_pressures_l6 : type_of% f_rock_bedded_pressures_l6.eq_1 := by_rfl f_rock_bedded_pressures_l6.eq_1
theorem e_rock_bedded_pressures : type_of% f_rock_bedded_pressures.eq_1 := by_rfl f_rock_bedded_pressures.eq_1
theorem ok_rock_bedded_pressures : fnC Tryz.prog a_rock_bedded_pressures Tryz.f161 = some f_rock_bedded_pressures := by kernel_rfl

/-! 162 (fumarole/rock.Bed).links -/
def f162r0 : List Abs.Op := [qx 1 0, qo 2 (.mv (.c .nilf))]
def f162r1 : List Abs.Op := [qo 3 (.mkf i_rock_Bed_links_1 [] [(.t 1)]), qm 2 3]
def a_rock_Bed_links : Ann := ⟨[(1, [2]), (0, [1])], [], [], [], [], [], [], [], [], [], []⟩
def f_rock_Bed_links : Abs.Fn := ⟨1, [.t 2],
  (.seq (.reg [1] f162r0) (.seq (.reg [2] f162r1) .ret))⟩
@[simp] theorem e162 : type_of% (show f162r0 = _ ∧ f162r1 = _ from by simp only [f162r0, f162r1, qo, qm, qx]; exact ⟨rfl, rfl⟩) := ⟨rfl, rfl⟩
theorem e_rock_Bed_links : type_of% f_rock_Bed_links.eq_1 := by_rfl f_rock_Bed_links.eq_1
theorem ok_rock_Bed_links : fnC Tryz.prog a_rock_Bed_links Tryz.f162 = some f_rock_Bed_links := by kernel_rfl

/-! 163 (fumarole/rock.bedded).open -/
def f163r0 : List Abs.Op := [qx 2 0, qi 4 0]
def f163r1 : List Abs.Op := [qa 5 11 2, qo 6 (.call false (.c (.fn i_rock_bedded_kind [] [])) [(.t 5), (.c (.int .i64 1))]), qm 7 1, qj 8 1 6 7, ql 9 1 8, qm 4 9]
def a_rock_bedded_open : Ann := ⟨[(1, [4]), (0, [1, 2])], [], [], [], [], [], [], [], [], [], []⟩
def f_rock_bedded_open : Abs.Fn := ⟨2, [.t 4],
  (.seq (.reg [1, 2] f163r0) (.seq (.reg [4] f163r1) .ret))⟩
@[simp] theorem e163 : type_of% (show f163r0 = _ ∧ f163r1 = _ from by simp only [f163r0, f163r1, qo, qm, qi, ql, qa, qx, qj]; exact ⟨rfl, rfl⟩) := ⟨rfl, rfl⟩
theorem e_rock_bedded_open : type_of% f_rock_bedded_open.eq_1 := by_rfl f_rock_bedded_open.eq_1
theorem ok_rock_bedded_open : fnC Tryz.prog a_rock_bedded_open Tryz.f163 = some f_rock_bedded_open := by kernel_rfl

/-! 164 (fumarole/rock.bedded).feed -/
def f164r0 : List Abs.Op := [qx 2 0, qi 4 0]
def f164r1 : List Abs.Op := [qa 5 11 2, qo 6 (.call false (.c (.fn i_rock_bedded_kind [] [])) [(.t 5), (.c (.int .i64 3))]), qm 7 1, qj 8 1 6 7, ql 9 1 8, qm 4 9]
def a_rock_bedded_feed : Ann := ⟨[(1, [4]), (0, [1, 2])], [], [], [], [], [], [], [], [], [], []⟩
def f_rock_bedded_feed : Abs.Fn := ⟨2, [.t 4],
  (.seq (.reg [1, 2] f164r0) (.seq (.reg [4] f164r1) .ret))⟩
@[simp] theorem e164 : type_of% (show f164r0 = _ ∧ f164r1 = _ from by simp only [f164r0, f164r1, qo, qm, qi, ql, qa, qx, qj]; exact ⟨rfl, rfl⟩) := ⟨rfl, rfl⟩
theorem e_rock_bedded_feed : type_of% f_rock_bedded_feed.eq_1 := by_rfl f_rock_bedded_feed.eq_1
theorem ok_rock_bedded_feed : fnC Tryz.prog a_rock_bedded_feed Tryz.f164 = some f_rock_bedded_feed := by kernel_rfl

/-! 165 fumarole/rock.all[fumarole/rock.Block] -/
def f165r0 : List Abs.Op := [qx 3 1, qb 4 false]
def f165r1 : List Abs.Op := [qm 5 0, qo 6 (.mkf i_rock_all_rock_Block_1 [] [(.t 3)]), qc 7 i_slices_ContainsFunc_rock_Block [5, 6], qu 8 7, qm 4 8]
def a_rock_all_rock_Block : Ann := ⟨[(1, [4]), (0, [0, 3])], [], [], [], [], [], [], [], [], [], []⟩
def f_rock_all_rock_Block : Abs.Fn := ⟨2, [.t 4],
  (.seq (.reg [0, 3] f165r0) (.seq (.reg [4] f165r1) .ret))⟩
@[simp] theorem e165 : type_of% (show f165r0 = _ ∧ f165r1 = _ from by simp only [f165r0, f165r1, qo, qm, qb, qx, qu, qc, List.map_cons, List.map_nil]; exact ⟨rfl, rfl⟩) := ⟨rfl, rfl⟩
theorem e_rock_all_rock_Block : type_of% f_rock_all_rock_Block.eq_1 := by_rfl f_rock_all_rock_Block.eq_1
theorem ok_rock_all_rock_Block : fnC Tryz.prog a_rock_all_rock_Block Tryz.f165 = some f_rock_all_rock_Block := by kernel_rfl

/-! 166 (fumarole/rock.Block).valid -/
def f166r0 : List Abs.Op := [qx 1 0, qb 2 false]
def f166r1 : List Abs.Op := [qf 3 0 1, ql 4 1 3, qo 5 (.call false (.c (.fn i_rock_within [] [])) [(.t 4), (.c (.int .i64 1)), (.c (.int .i64 1000000))]), qm 6 5, qg 6 true (qf 7 1 1), qg 6 true (ql 8 1 7), qg 6 true (qo 9 (.call false (.c (.fn i_rock_within [] [])) [(.t 8), (.c (.int .i64 0)), (.c (.int .i64 10000000000))])), qp 10 6 9, qm 11 10, qg 11 true (qf 12 2 1), qg 11 true (ql 13 1 12), qg 11 true (qo 14 (.call false (.c (.fn i_rock_within [] [])) [(.t 13), (.c (.int .i64 0)), (.c (.int .i64 1000000000000))])), qp 15 11 14, qm 2 15]
def a_rock_Block_valid : Ann := ⟨[(1, [2]), (0, [1])], [], [], [], [], [], [], [], [], [], []⟩
def f_rock_Block_valid : Abs.Fn := ⟨1, [.t 2],
  (.seq (.reg [1] f166r0) (.seq (.reg [2] f166r1) .ret))⟩
@[simp] theorem e166 : type_of% (show f166r0 = _ ∧ f166r1 = _ from by simp only [f166r0, f166r1, qo, qm, qb, qf, ql, qx, qp, qg]; exact ⟨rfl, rfl⟩) := ⟨rfl, rfl⟩
theorem e_rock_Block_valid : type_of% f_rock_Block_valid.eq_1 := by_rfl f_rock_Block_valid.eq_1
theorem ok_rock_Block_valid : fnC Tryz.prog a_rock_Block_valid Tryz.f166 = some f_rock_Block_valid := by kernel_rfl

/-! 167 slices.IndexFunc[[]fumarole/steam.Row,fumarole/steam.Row] -/
def f167r0 : List Abs.Op := [qi 4 0]
def f167r1 : List Abs.Op := [qm 6 0, qe 7 6, qi 8 0]
def f167r2 : List Abs.Op := [qk 9 .lss 8 7]
def f167r3 : List Abs.Op := [qm 10 8, qm 5 10]
def f167r4 : List Abs.Op := [qm 11 1, qm 12 0, qm 13 5, qj 14 5 12 13, qa 15 5 14, qo 16 (.call false (.t 11) [(.t 15)])]
def f167r5 : List Abs.Op := [qm 17 5, qm 4 17]
def f167r6 : List Abs.Op := [qn 18 .add 8 1, qm 8 18]
def f_slices_IndexFunc_steam_Row_l7 : Abs.Cmd :=
  (.seq (.reg [0, 1, 7, 8, 9] f167r2) (.seq (.ite (.t 9) .nop (.exit 0)) (.seq (.blk 1 (.seq (.reg [0, 1, 5, 7, 8] f167r3) (.seq (.reg [0, 1, 5, 7, 8, 16] f167r4) (.ite (.t 16) (.seq (.reg [4] f167r5) .ret) .nop)))) (.reg [0, 1, 7, 8] f167r6))))

def f167r8 : List Abs.Op := [qi 4 (-1)]
def a_slices_IndexFunc_steam_Row : Ann := ⟨[(7, [4]), (6, [0, 1, 7, 8]), (5, [4]), (4, [0, 1, 5, 7, 8, 16]), (3, [0, 1, 5, 7, 8]), (2, [0, 1, 7, 8, 9]), (1, [0, 1, 7, 8]), (0, [0, 1])], [(0, [0, 1, 7, 8])], [], [], [], [], [], [], [], [], []⟩
def f_slices_IndexFunc_steam_Row : Abs.Fn := ⟨2, [.t 4],
  (.seq (.reg [0, 1] f167r0) (.seq (.seq (.reg [0, 1, 7, 8] f167r1) (.blk 0 (.loop [0, 1, 7, 8] false f_slices_IndexFunc_steam_Row_l7))) (.seq (.reg [4] f167r8) .ret)))⟩
@[simp] theorem e167 : type_of% (show f167r0 = _ ∧ f167r1 = _ ∧ f167r2 = _ ∧ f167r3 = _ ∧ f167r4 = _ ∧ f167r5 = _ ∧ f167r6 = _ ∧ f167r8 = _ from by simp only [f167r0, f167r1, f167r2, f167r3, f167r4, f167r5, f167r6, f167r8, qo, qm, qi, qa, qe, qj, qk, qn]; exact ⟨rfl, rfl, rfl, rfl, rfl, rfl, rfl, rfl⟩) := ⟨rfl, rfl, rfl, rfl, rfl, rfl, rfl, rfl⟩
theorem e_slices_IndexFunc_steam_Row_l7 : type_of% f_slices_IndexFunc_steam_Row_l7.eq_1 := by_rfl f_slices_IndexFunc_steam_Row_l7.eq_1
theorem e_slices_IndexFunc_steam_Row : type_of% f_slices_IndexFunc_steam_Row.eq_1 := by_rfl f_slices_IndexFunc_steam_Row.eq_1
theorem ok_slices_IndexFunc_steam_Row : fnC Tryz.prog a_slices_IndexFunc_steam_Row Tryz.f167 = some f_slices_IndexFunc_steam_Row := by kernel_rfl

end Go.Proofs.YtehandllpmlcoaaGreat
