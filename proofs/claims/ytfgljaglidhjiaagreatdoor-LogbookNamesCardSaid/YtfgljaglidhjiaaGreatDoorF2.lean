/- The code of functions of the program, in the small instruction set; each is what the translation makes of it. -/
import Derived.Test.YtfgljaglidhjiaaGreatDoorIds
set_option linter.unusedVariables false
set_option linter.unusedSimpArgs false
set_option maxRecDepth 100000
namespace Go.Proofs.YtfgljaglidhjiaaGreatDoor
open Go Go.Abs
/-! 212 fumarole/field.CheckModels$1 -/
def f212r0 : List Abs.Op := [qi 2 0]
def f212r1 : List Abs.Op := [qa 3 4 0, ql 4 1 1, qc 5 i_field_Field_models [3, 4], qm 2 5]
def a_field_CheckModels_1 : Ann := ⟨[(1, [2]), (0, [0, 1])], [], [], [], [], [], [], [], [], [], []⟩
def f_field_CheckModels_1 : Abs.Fn := ⟨2, [.t 2],
  (.seq (.reg [0, 1] f212r0) (.seq (.reg [2] f212r1) .ret))⟩
theorem e_field_CheckModels_1 : type_of% f_field_CheckModels_1.eq_1 := by_rfl f_field_CheckModels_1.eq_1
theorem ok_field_CheckModels_1 : fnC Tryz.prog a_field_CheckModels_1 Tryz.f212 = some f_field_CheckModels_1 := by kernel_rfl

/-! 213 (fumarole/field.Field).models -/
def f213r0 : List Abs.Op := [qx 2 0, qi 4 0]
def f213r1 : List Abs.Op := [qm 5 1, qe 6 5, qo 7 (.call false (.c (.fn i_field_within [] [])) [(.t 6), (.c (.int .i64 1)), (.c (.int .i64 40))]), qu 8 7]
def f213r2 : List Abs.Op := [qi 4 3]
def f213r3 : List Abs.Op := [qm 9 1, qo 10 (.mkf i_field_Field_models_1 [] [(.t 2)]), qc 11 i_field_each_field_Model [9, 10], qm 4 11]
def a_field_Field_models : Ann := ⟨[(3, [4]), (2, [4]), (1, [1, 2, 8]), (0, [1, 2])], [], [], [], [], [], [], [], [], [], []⟩
def f_field_Field_models : Abs.Fn := ⟨2, [.t 4],
  (.seq (.reg [1, 2] f213r0) (.seq (.seq (.reg [1, 2, 8] f213r1) (.ite (.t 8) (.seq (.reg [4] f213r2) .ret) .nop)) (.seq (.reg [4] f213r3) .ret)))⟩
theorem e_field_Field_models : type_of% f_field_Field_models.eq_1 := by_rfl f_field_Field_models.eq_1
theorem ok_field_Field_models : fnC Tryz.prog a_field_Field_models Tryz.f213 = some f_field_Field_models := by kernel_rfl

/-! 214 slices.ContainsFunc[[]fumarole/field.Model,fumarole/field.Model] -/
def f214r0 : List Abs.Op := [qb 4 false]
def f214r1 : List Abs.Op := [qm 5 0, qm 6 1, qc 7 i_slices_IndexFunc_field_Model [5, 6], qn 8 .geq 7 0, qm 4 8]
def a_slices_ContainsFunc_field_Model : Ann := ⟨[(1, [4]), (0, [0, 1])], [], [], [], [], [], [], [], [], [], []⟩
def f_slices_ContainsFunc_field_Model : Abs.Fn := ⟨2, [.t 4],
  (.seq (.reg [0, 1] f214r0) (.seq (.reg [4] f214r1) .ret))⟩
theorem e_slices_ContainsFunc_field_Model : type_of% f_slices_ContainsFunc_field_Model.eq_1 := by_rfl f_slices_ContainsFunc_field_Model.eq_1
theorem ok_slices_ContainsFunc_field_Model : fnC Tryz.prog a_slices_ContainsFunc_field_Model Tryz.f214 = some f_slices_ContainsFunc_field_Model := by kernel_rfl

/-! 215 fumarole/rock.all[fumarole/field.Model]$1 -/
def f215r0 : List Abs.Op := [qx 2 0, qb 3 false]
def f215r1 : List Abs.Op := [ql 4 1 1, qa 5 2 2, qo 6 (.call false (.t 4) [(.t 5)]), qu 7 6, qm 3 7]
def a_rock_all_field_Model_1 : Ann := ⟨[(1, [3]), (0, [1, 2])], [], [], [], [], [], [], [], [], [], []⟩
def f_rock_all_field_Model_1 : Abs.Fn := ⟨2, [.t 3],
  (.seq (.reg [1, 2] f215r0) (.seq (.reg [3] f215r1) .ret))⟩
theorem e_rock_all_field_Model_1 : type_of% f_rock_all_field_Model_1.eq_1 := by_rfl f_rock_all_field_Model_1.eq_1
theorem ok_rock_all_field_Model_1 : fnC Tryz.prog a_rock_all_field_Model_1 Tryz.f215 = some f_rock_all_field_Model_1 := by kernel_rfl

/-! 216 fumarole/rock.all[int] -/
def f216r0 : List Abs.Op := [qx 3 1, qb 4 false]
def f216r1 : List Abs.Op := [qm 5 0, qo 6 (.mkf i_rock_all_int_1 [] [(.t 3)]), qc 7 i_slices_ContainsFunc_int [5, 6], qu 8 7, qm 4 8]
def a_rock_all_int : Ann := ⟨[(1, [4]), (0, [0, 3])], [], [], [], [], [], [], [], [], [], []⟩
def f_rock_all_int : Abs.Fn := ⟨2, [.t 4],
  (.seq (.reg [0, 3] f216r0) (.seq (.reg [4] f216r1) .ret))⟩
theorem e_rock_all_int : type_of% f_rock_all_int.eq_1 := by_rfl f_rock_all_int.eq_1
theorem ok_rock_all_int : fnC Tryz.prog a_rock_all_int Tryz.f216 = some f_rock_all_int := by kernel_rfl

/-! 217 (fumarole/rock.bedded).kind -/
def f217r0 : List Abs.Op := [qx 2 0, qo 4 (.mv (.c .nils))]
def f217r1 : List Abs.Op := [qF 5 9 2, qF 6 1 5, qL 7 1 6, qM 8 1, qF 9 0 2, qA 10 9 9, qC 11 i_rock_Bed_size [10], qK 12 .mul 8 11, qM 13 1, qN 14 .add 13 1, qF 15 0 2, qA 16 9 15, qC 17 i_rock_Bed_size [16], qK 18 .mul 14 17, qo 19 (.slc 1 (.t 7) (some (.t 12)) (some (.t 18)) none), qm 4 19]
def a_rock_bedded_kind : Ann := ⟨[(1, [4]), (0, [1, 2])], [], [], [], [], [], [], [], [], [], []⟩
def f_rock_bedded_kind : Abs.Fn := ⟨2, [.t 4],
  (.seq (.reg [1, 2] f217r0) (.seq (.reg [4] f217r1) .ret))⟩
theorem e_rock_bedded_kind : type_of% f_rock_bedded_kind.eq_1 := by_rfl f_rock_bedded_kind.eq_1
theorem ok_rock_bedded_kind : fnC Tryz.prog a_rock_bedded_kind Tryz.f217 = some f_rock_bedded_kind := by kernel_rfl

/-! 218 (fumarole/rock.bedded).fits$1 -/
def f218r0 : List Abs.Op := [qb 3 false]
def f218r1 : List Abs.Op := [qm 4 0, qo 5 (.idxA 2 1 (.t 1) (.c (.int .i64 0))), ql 6 1 5, qo 7 (.idxA 2 1 (.t 1) (.c (.int .i64 1))), ql 8 1 7, qc 9 i_rock_within [4, 6, 8], qm 3 9]
def a_rock_bedded_fits_1 : Ann := ⟨[(1, [3]), (0, [0, 1])], [], [], [], [], [], [], [], [], [], []⟩
def f_rock_bedded_fits_1 : Abs.Fn := ⟨2, [.t 3],
  (.seq (.reg [0, 1] f218r0) (.seq (.reg [3] f218r1) .ret))⟩
theorem e_rock_bedded_fits_1 : type_of% f_rock_bedded_fits_1.eq_1 := by_rfl f_rock_bedded_fits_1.eq_1
theorem ok_rock_bedded_fits_1 : fnC Tryz.prog a_rock_bedded_fits_1 Tryz.f218 = some f_rock_bedded_fits_1 := by kernel_rfl

/-! 219 (fumarole/rock.bedded).weight -/
def f219r0 : List Abs.Op := [qx 2 0, qi 4 0]
def f219r1 : List Abs.Op := [qM 5 1, qF 6 0 2, qF 7 0 6, qF 8 0 7, qL 9 1 8, qF 10 0 2, qF 11 0 10, qF 12 1 11, qL 13 1 12, qK 14 .mul 9 13, qK 15 .quo 5 14, qF 16 0 2, qF 17 6 16, qL 18 1 17, qk 19 .mul 15 18, qm 4 19]
def a_rock_bedded_weight : Ann := ⟨[(1, [4]), (0, [1, 2])], [], [], [], [], [], [], [], [], [], []⟩
def f_rock_bedded_weight : Abs.Fn := ⟨2, [.t 4],
  (.seq (.reg [1, 2] f219r0) (.seq (.reg [4] f219r1) .ret))⟩
theorem e_rock_bedded_weight : type_of% f_rock_bedded_weight.eq_1 := by_rfl f_rock_bedded_weight.eq_1
theorem ok_rock_bedded_weight : fnC Tryz.prog a_rock_bedded_weight Tryz.f219 = some f_rock_bedded_weight := by kernel_rfl

/-! 220 fumarole/rock.down -/
def f220r0 : List Abs.Op := [qi 4 0]
def f220r1 : List Abs.Op := [qm 6 0, qm 7 1, qk 8 .quo 6 7, qm 5 8]
def f220r2 : List Abs.Op := [qm 9 5, qm 10 1, qk 11 .mul 9 10, qm 12 0, qk 13 .gtr 11 12]
def f220r3 : List Abs.Op := [qm 14 5, qn 15 .sub 14 1, qm 5 15]
def f220r4 : List Abs.Op := [qm 16 5, qm 4 16]
def a_rock_down : Ann := ⟨[(4, [4]), (3, [5]), (2, [5, 13]), (1, [0, 1, 5]), (0, [0, 1])], [], [], [], [], [], [], [], [], [], []⟩
def f_rock_down : Abs.Fn := ⟨2, [.t 4],
  (.seq (.reg [0, 1] f220r0) (.seq (.reg [0, 1, 5] f220r1) (.seq (.seq (.reg [5, 13] f220r2) (.ite (.t 13) (.reg [5] f220r3) .nop)) (.seq (.reg [4] f220r4) .ret))))⟩
theorem e_rock_down : type_of% f_rock_down.eq_1 := by_rfl f_rock_down.eq_1
theorem ok_rock_down : fnC Tryz.prog a_rock_down Tryz.f220 = some f_rock_down := by kernel_rfl

/-! 221 (fumarole/rock.bedded).hold -/
def f221r0 : List Abs.Op := [qx 2 0, qi 4 0]
def f221r1 : List Abs.Op := [qa 5 11 2, qo 6 (.call false (.c (.fn i_rock_bedded_kind [] [])) [(.t 5), (.c (.int .i64 0))]), qm 7 1, qj 8 1 6 7, ql 9 1 8, qm 4 9]
def a_rock_bedded_hold : Ann := ⟨[(1, [4]), (0, [1, 2])], [], [], [], [], [], [], [], [], [], []⟩
def f_rock_bedded_hold : Abs.Fn := ⟨2, [.t 4],
  (.seq (.reg [1, 2] f221r0) (.seq (.reg [4] f221r1) .ret))⟩
theorem e_rock_bedded_hold : type_of% f_rock_bedded_hold.eq_1 := by_rfl f_rock_bedded_hold.eq_1
theorem ok_rock_bedded_hold : fnC Tryz.prog a_rock_bedded_hold Tryz.f221 = some f_rock_bedded_hold := by kernel_rfl

/-! 222 (fumarole/rock.Yield).mass -/
def f222r0 : List Abs.Op := [qx 1 0, qi 2 0]
def f222r1 : List Abs.Op := [qf 3 0 1, ql 4 1 3, qm 2 4]
def a_rock_Yield_mass : Ann := ⟨[(1, [2]), (0, [1])], [], [], [], [], [], [], [], [], [], []⟩
def f_rock_Yield_mass : Abs.Fn := ⟨1, [.t 2],
  (.seq (.reg [1] f222r0) (.seq (.reg [2] f222r1) .ret))⟩
theorem e_rock_Yield_mass : type_of% f_rock_Yield_mass.eq_1 := by_rfl f_rock_Yield_mass.eq_1
theorem ok_rock_Yield_mass : fnC Tryz.prog a_rock_Yield_mass Tryz.f222 = some f_rock_Yield_mass := by kernel_rfl

/-! 223 (fumarole/rock.Yield).warmth -/
def f223r0 : List Abs.Op := [qx 1 0, qi 2 0]
def f223r1 : List Abs.Op := [qf 3 0 1, ql 4 1 3, qn 5 .eql 4 0]
def f223r2 : List Abs.Op := [qi 2 0]
def f223r3 : List Abs.Op := [qf 6 1 1, ql 7 1 6, qf 8 0 1, ql 9 1 8, qk 10 .quo 7 9, qm 2 10]
def a_rock_Yield_warmth : Ann := ⟨[(3, [2]), (2, [2]), (1, [1, 5]), (0, [1])], [], [], [], [], [], [], [], [], [], []⟩
def f_rock_Yield_warmth : Abs.Fn := ⟨1, [.t 2],
  (.seq (.reg [1] f223r0) (.seq (.seq (.reg [1, 5] f223r1) (.ite (.t 5) (.seq (.reg [2] f223r2) .ret) .nop)) (.seq (.reg [2] f223r3) .ret)))⟩
theorem e_rock_Yield_warmth : type_of% f_rock_Yield_warmth.eq_1 := by_rfl f_rock_Yield_warmth.eq_1
theorem ok_rock_Yield_warmth : fnC Tryz.prog a_rock_Yield_warmth Tryz.f223 = some f_rock_Yield_warmth := by kernel_rfl

/-! 224 (fumarole/rock.Yield).stain -/
def f224r0 : List Abs.Op := [qx 1 0, qi 2 0]
def f224r1 : List Abs.Op := [qf 3 2 1, ql 4 1 3, qm 2 4]
def a_rock_Yield_stain : Ann := ⟨[(1, [2]), (0, [1])], [], [], [], [], [], [], [], [], [], []⟩
def f_rock_Yield_stain : Abs.Fn := ⟨1, [.t 2],
  (.seq (.reg [1] f224r0) (.seq (.reg [2] f224r1) .ret))⟩
theorem e_rock_Yield_stain : type_of% f_rock_Yield_stain.eq_1 := by_rfl f_rock_Yield_stain.eq_1
theorem ok_rock_Yield_stain : fnC Tryz.prog a_rock_Yield_stain Tryz.f224 = some f_rock_Yield_stain := by kernel_rfl

/-! 225 slices.IndexFunc[[]fumarole/tremor.Rule,fumarole/tremor.Rule] -/
def f225r0 : List Abs.Op := [qi 4 0]
def f225r1 : List Abs.Op := [qm 6 0, qe 7 6, qi 8 0]
def f225r2 : List Abs.Op := [qk 9 .lss 8 7]
def f225r3 : List Abs.Op := [qm 10 8, qm 5 10]
def f225r4 : List Abs.Op := [qm 11 1, qm 12 0, qm 13 5, qj 14 10 12 13, qa 15 10 14, qo 16 (.call false (.t 11) [(.t 15)])]
def f225r5 : List Abs.Op := [qm 17 5, qm 4 17]
def f225r6 : List Abs.Op := [qn 18 .add 8 1, qm 8 18]
def f_slices_IndexFunc_tremor_Rule_l7 : Abs.Cmd :=
  (.seq (.reg [0, 1, 7, 8, 9] f225r2) (.seq (.ite (.t 9) .nop (.exit 0)) (.seq (.blk 1 (.seq (.reg [0, 1, 5, 7, 8] f225r3) (.seq (.reg [0, 1, 5, 7, 8, 16] f225r4) (.ite (.t 16) (.seq (.reg [4] f225r5) .ret) .nop)))) (.reg [0, 1, 7, 8] f225r6))))

def f225r8 : List Abs.Op := [qi 4 (-1)]
def a_slices_IndexFunc_tremor_Rule : Ann := ⟨[(7, [4]), (6, [0, 1, 7, 8]), (5, [4]), (4, [0, 1, 5, 7, 8, 16]), (3, [0, 1, 5, 7, 8]), (2, [0, 1, 7, 8, 9]), (1, [0, 1, 7, 8]), (0, [0, 1])], [(0, [0, 1, 7, 8])], [], [], [], [], [], [], [], [], []⟩
def f_slices_IndexFunc_tremor_Rule : Abs.Fn := ⟨2, [.t 4],
  (.seq (.reg [0, 1] f225r0) (.seq (.seq (.reg [0, 1, 7, 8] f225r1) (.blk 0 (.loop [0, 1, 7, 8] false f_slices_IndexFunc_tremor_Rule_l7))) (.seq (.reg [4] f225r8) .ret)))⟩
theorem e_slices_IndexFunc_tremor_Rule_l7 : type_of% f_slices_IndexFunc_tremor_Rule_l7.eq_1 := by_rfl f_slices_IndexFunc_tremor_Rule_l7.eq_1
theorem e_slices_IndexFunc_tremor_Rule : type_of% f_slices_IndexFunc_tremor_Rule.eq_1 := by_rfl f_slices_IndexFunc_tremor_Rule.eq_1
theorem ok_slices_IndexFunc_tremor_Rule : fnC Tryz.prog a_slices_IndexFunc_tremor_Rule Tryz.f225 = some f_slices_IndexFunc_tremor_Rule := by kernel_rfl

/-! 226 slices.IndexFunc[[]fumarole/tremor.Event,fumarole/tremor.Event] -/
def f226r0 : List Abs.Op := [qi 4 0]
def f226r1 : List Abs.Op := [qm 6 0, qe 7 6, qi 8 0]
def f226r2 : List Abs.Op := [qk 9 .lss 8 7]
def f226r3 : List Abs.Op := [qm 10 8, qm 5 10]
def f226r4 : List Abs.Op := [qm 11 1, qm 12 0, qm 13 5, qj 14 2 12 13, qa 15 2 14, qo 16 (.call false (.t 11) [(.t 15)])]
def f226r5 : List Abs.Op := [qm 17 5, qm 4 17]
def f226r6 : List Abs.Op := [qn 18 .add 8 1, qm 8 18]
def f_slices_IndexFunc_tremor_Event_l7 : Abs.Cmd :=
  (.seq (.reg [0, 1, 7, 8, 9] f226r2) (.seq (.ite (.t 9) .nop (.exit 0)) (.seq (.blk 1 (.seq (.reg [0, 1, 5, 7, 8] f226r3) (.seq (.reg [0, 1, 5, 7, 8, 16] f226r4) (.ite (.t 16) (.seq (.reg [4] f226r5) .ret) .nop)))) (.reg [0, 1, 7, 8] f226r6))))

def f226r8 : List Abs.Op := [qi 4 (-1)]
def a_slices_IndexFunc_tremor_Event : Ann := ⟨[(7, [4]), (6, [0, 1, 7, 8]), (5, [4]), (4, [0, 1, 5, 7, 8, 16]), (3, [0, 1, 5, 7, 8]), (2, [0, 1, 7, 8, 9]), (1, [0, 1, 7, 8]), (0, [0, 1])], [(0, [0, 1, 7, 8])], [], [], [], [], [], [], [], [], []⟩
def f_slices_IndexFunc_tremor_Event : Abs.Fn := ⟨2, [.t 4],
  (.seq (.reg [0, 1] f226r0) (.seq (.seq (.reg [0, 1, 7, 8] f226r1) (.blk 0 (.loop [0, 1, 7, 8] false f_slices_IndexFunc_tremor_Event_l7))) (.seq (.reg [4] f226r8) .ret)))⟩
theorem e_slices_IndexFunc_tremor_Event_l7 : type_of% f_slices_IndexFunc_tremor_Event_l7.eq_1 := by_rfl f_slices_IndexFunc_tremor_Event_l7.eq_1
theorem e_slices_IndexFunc_tremor_Event : type_of% f_slices_IndexFunc_tremor_Event.eq_1 := by_rfl f_slices_IndexFunc_tremor_Event.eq_1
theorem ok_slices_IndexFunc_tremor_Event : fnC Tryz.prog a_slices_IndexFunc_tremor_Event Tryz.f226 = some f_slices_IndexFunc_tremor_Event := by kernel_rfl

/-! 227 fumarole/tremor.all[int] -/
def f227r0 : List Abs.Op := [qx 3 1, qb 4 false]
def f227r1 : List Abs.Op := [qm 5 0, qo 6 (.mkf i_tremor_all_int_1 [] [(.t 3)]), qc 7 i_slices_ContainsFunc_int [5, 6], qu 8 7, qm 4 8]
def a_tremor_all_int : Ann := ⟨[(1, [4]), (0, [0, 3])], [], [], [], [], [], [], [], [], [], []⟩
def f_tremor_all_int : Abs.Fn := ⟨2, [.t 4],
  (.seq (.reg [0, 3] f227r0) (.seq (.reg [4] f227r1) .ret))⟩
theorem e_tremor_all_int : type_of% f_tremor_all_int.eq_1 := by_rfl f_tremor_all_int.eq_1
theorem ok_tremor_all_int : fnC Tryz.prog a_tremor_all_int Tryz.f227 = some f_tremor_all_int := by kernel_rfl

/-! 228 (fumarole/tremor.Point).valid$1 -/
def f228r0 : List Abs.Op := [qb 2 false]
def f228r1 : List Abs.Op := [qm 3 0, qo 4 (.call false (.c (.fn i_tremor_within [] [])) [(.t 3), (.c (.int .i64 (-20000))), (.c (.int .i64 20000))]), qm 2 4]
def a_tremor_Point_valid_1 : Ann := ⟨[(1, [2]), (0, [0])], [], [], [], [], [], [], [], [], [], []⟩
def f_tremor_Point_valid_1 : Abs.Fn := ⟨1, [.t 2],
  (.seq (.reg [0] f228r0) (.seq (.reg [2] f228r1) .ret))⟩
theorem e_tremor_Point_valid_1 : type_of% f_tremor_Point_valid_1.eq_1 := by_rfl f_tremor_Point_valid_1.eq_1
theorem ok_tremor_Point_valid_1 : fnC Tryz.prog a_tremor_Point_valid_1 Tryz.f228 = some f_tremor_Point_valid_1 := by kernel_rfl

/-! 229 (fumarole/rock.Bed).rates$1 -/
def f229r0 : List Abs.Op := [qb 2 false]
def f229r1 : List Abs.Op := [qm 3 0, qo 4 (.call false (.c (.fn i_rock_within [] [])) [(.t 3), (.c (.int .i64 (-100000))), (.c (.int .i64 100000))]), qm 2 4]
def a_rock_Bed_rates_1 : Ann := ⟨[(1, [2]), (0, [0])], [], [], [], [], [], [], [], [], [], []⟩
def f_rock_Bed_rates_1 : Abs.Fn := ⟨1, [.t 2],
  (.seq (.reg [0] f229r0) (.seq (.reg [2] f229r1) .ret))⟩
theorem e_rock_Bed_rates_1 : type_of% f_rock_Bed_rates_1.eq_1 := by_rfl f_rock_Bed_rates_1.eq_1
theorem ok_rock_Bed_rates_1 : fnC Tryz.prog a_rock_Bed_rates_1 Tryz.f229 = some f_rock_Bed_rates_1 := by kernel_rfl

/-! 230 (fumarole/rock.bedded).warm -/
def f230r0 : List Abs.Op := [qx 2 0, qi 4 0]
def f230r1 : List Abs.Op := [qa 5 11 2, qo 6 (.call false (.c (.fn i_rock_bedded_kind [] [])) [(.t 5), (.c (.int .i64 2))]), qm 7 1, qj 8 1 6 7, ql 9 1 8, qm 4 9]
def a_rock_bedded_warm : Ann := ⟨[(1, [4]), (0, [1, 2])], [], [], [], [], [], [], [], [], [], []⟩
def f_rock_bedded_warm : Abs.Fn := ⟨2, [.t 4],
  (.seq (.reg [1, 2] f230r0) (.seq (.reg [4] f230r1) .ret))⟩
theorem e_rock_bedded_warm : type_of% f_rock_bedded_warm.eq_1 := by_rfl f_rock_bedded_warm.eq_1
theorem ok_rock_bedded_warm : fnC Tryz.prog a_rock_bedded_warm Tryz.f230 = some f_rock_bedded_warm := by kernel_rfl

/-! 231 slices.Clone[fumarole/rock.State,fumarole/rock.Block] -/
def f231r0 : List Abs.Op := [qo 2 (.nilb 3)]
def f231r1 : List Abs.Op := [qm 3 0, qo 4 (.isn false false (.t 3))]
def f231r2 : List Abs.Op := [qo 2 (.nilb 3)]
def f231r3 : List Abs.Op := [qo 5 (.bsm 0 3 [] []), qm 6 0, qy 7 3 24 5 6, qm 2 7]
def a_slices_Clone_rock_State_rock_Block : Ann := ⟨[(3, [2]), (2, [2]), (1, [0, 4]), (0, [0])], [], [], [2, 5], [], [], [], [], [], [], []⟩
def f_slices_Clone_rock_State_rock_Block : Abs.Fn := ⟨1, [.t 2],
  (.seq (.reg [0] f231r0) (.seq (.seq (.reg [0, 4] f231r1) (.ite (.t 4) (.seq (.reg [2] f231r2) .ret) .nop)) (.seq (.reg [2] f231r3) .ret)))⟩
theorem e_slices_Clone_rock_State_rock_Block : type_of% f_slices_Clone_rock_State_rock_Block.eq_1 := by_rfl f_slices_Clone_rock_State_rock_Block.eq_1
theorem ok_slices_Clone_rock_State_rock_Block : fnC Tryz.prog a_slices_Clone_rock_State_rock_Block Tryz.f231 = some f_slices_Clone_rock_State_rock_Block := by kernel_rfl

/-! 232 (fumarole/rock.bedded).flows -/
def f232r0 : List Abs.Op := [qx 2 0, qx 3 1, qo 4 (.mv (.c .undef))]
def f232r1 : List Abs.Op := [qo 11 (.mp (.make) []), qo 5 (.alc [] [.undef]), qt 1 5 11]
def f232r2 : List Abs.Op := [qa 12 11 2, ql 13 1 3, qc 14 i_rock_bedded_pressures [12, 13], qo 6 (.alc [] [.nils]), qt 1 6 14]
def f232r3 : List Abs.Op := [qf 15 0 2, qa 16 9 15, qc 17 i_rock_Bed_links [16]]
def f232r4 : List Abs.Op := [qo 7 (.alcv [] [(.int .i64 0), (.int .i64 0)]), qs 7 2 7 18]
def f232r5 : List Abs.Op := [qL 19 1 6, qF 20 0 7, qV 21 7 1 20, qJ 22 1 19 21, qL 23 1 22, qA 24 11 2, qF 25 0 7, qV 26 7 1 25, qC 27 i_rock_bedded_weight [24, 26], qK 28 .sub 23 27, qL 29 1 6, qF 30 1 7, qV 31 7 1 30, qJ 32 1 29 31, qL 33 1 32, qK 34 .sub 28 33, qA 35 11 2, qF 36 1 7, qV 37 7 1 36, qC 38 i_rock_bedded_weight [35, 37], qk 39 .add 34 38, qm 8 39]
def f232r6 : List Abs.Op := [qm 40 8, qn 41 .lss 40 0]
def f232r7 : List Abs.Op := [qf 42 1 7, qv 43 7 1 42, qf 44 0 7, qv 45 7 1 44, qo 46 (.bld [(.int .i64 0), (.int .i64 0)] [(0, 1, (.t 43)), (1, 1, (.t 45))]), qm 47 8, qo 48 (.un .neg (.t 47)), qs 7 2 7 46, qm 8 48]
def f232r8 : List Abs.Op := [qA 49 11 2, qF 50 0 7, qV 51 7 1 50, qC 52 i_rock_bedded_open [49, 51], qA 53 11 2, qF 54 1 7, qV 55 7 1 54, qc 56 i_rock_bedded_open [53, 55], qo 57 (.mn (.t 52) (.t 56)), qm 9 57]
def f232r9 : List Abs.Op := [qm 58 9, qm 59 8, qk 60 .mul 58 59, qn 61 .quo 60 1000, ql 62 1 3, qf 63 0 7, qv 64 7 1 63, qj 65 3 62 64, qf 66 0 65, ql 67 1 66, qn 68 .quo 67 8, qo 69 (.mn (.t 61) (.t 68)), qm 10 69]
def f232r10 : List Abs.Op := [qm 70 10, qn 71 .gtr 70 0]
def f232r11 : List Abs.Op := [qL 72 1 5, qW 73 7 2 7, qL 74 1 3, qF 75 0 7, qV 76 7 1 75, qJ 77 3 74 76, qA 78 3 77, qM 79 10, qC 80 i_rock_Block_out [78, 79], ⟨none, none, false, .mp (.put (some (true, [some .i64, some .i64]))) [(.t 72), (.t 73), (.t 80)]⟩]
def f_rock_bedded_flows_a12 : Abs.Cmd :=
  (.reg [2, 3, 5, 6, 7] f232r4)

def f_rock_bedded_flows_b12 : Abs.Cmd :=
  (.blk 1 (.seq (.reg [2, 3, 5, 7, 8] f232r5) (.seq (.seq (.reg [2, 3, 5, 7, 8, 41] f232r6) (.ite (.t 41) (.reg [2, 3, 5, 7, 8] f232r7) .nop)) (.seq (.reg [3, 5, 7, 8, 9] f232r8) (.seq (.reg [3, 5, 7, 10] f232r9) (.seq (.reg [3, 5, 7, 10, 71] f232r10) (.ite (.t 71) (.reg [] f232r11) .nop)))))))

def f232r13 : List Abs.Op := [ql 81 1 5, qm 4 81]
def a_rock_bedded_flows : Ann := ⟨[(12, [4]), (11, []), (10, [3, 5, 7, 10, 71]), (9, [3, 5, 7, 10]), (8, [3, 5, 7, 8, 9]), (7, [2, 3, 5, 7, 8]), (6, [2, 3, 5, 7, 8, 41]), (5, [2, 3, 5, 7, 8]), (4, [2, 3, 5, 6, 7]), (3, [2, 3, 4, 5, 6, 17]), (2, [2, 3, 4, 5, 6]), (1, [2, 3, 4, 5]), (0, [2, 3, 4])], [(0, [2, 3, 4, 5, 6])], [], [5, 6, 7], [7], [], [], [], [], [], []⟩
def f_rock_bedded_flows : Abs.Fn := ⟨2, [.t 4],
  (.seq (.reg [2, 3, 4] f232r0) (.seq (.reg [2, 3, 4, 5] f232r1) (.seq (.reg [2, 3, 4, 5, 6] f232r2) (.seq (.seq (.reg [2, 3, 4, 5, 6, 17] f232r3) (.blk 0 (.rngf [2, 3, 4, 5, 6] (.t 17) [18] f_rock_bedded_flows_a12 f_rock_bedded_flows_b12))) (.seq (.reg [4] f232r13) .ret)))))⟩
theorem e_rock_bedded_flows_a12 : type_of% f_rock_bedded_flows_a12.eq_1 := by_rfl f_rock_bedded_flows_a12.eq_1
theorem e_rock_bedded_flows_b12 : type_of% f_rock_bedded_flows_b12.eq_1 := by_rfl f_rock_bedded_flows_b12.eq_1
theorem e_rock_bedded_flows : type_of% f_rock_bedded_flows.eq_1 := by_rfl f_rock_bedded_flows.eq_1
theorem ok_rock_bedded_flows : fnC Tryz.prog a_rock_bedded_flows Tryz.f232 = some f_rock_bedded_flows := by kernel_rfl

/-! 233 (*fumarole/rock.Block).move -/
def f233r0 : List Abs.Op := [qx 4 1]
def f233r1 : List Abs.Op := [qM 6 0, qO 7 (.nck (.t 6)), qF 8 0 7, qL 9 1 8, qM 10 2, qF 11 0 4, qL 12 1 11, qK 13 .mul 10 12, qk 14 .add 9 13, qo 15 (.nck (.t 6)), qf 16 0 15, qt 1 16 14]
def f233r2 : List Abs.Op := [qM 17 0, qO 18 (.nck (.t 17)), qF 19 1 18, qL 20 1 19, qM 21 2, qF 22 1 4, qL 23 1 22, qK 24 .mul 21 23, qk 25 .add 20 24, qo 26 (.nck (.t 17)), qf 27 1 26, qt 1 27 25]
def f233r3 : List Abs.Op := [qM 28 0, qO 29 (.nck (.t 28)), qF 30 2 29, qL 31 1 30, qM 32 2, qF 33 2 4, qL 34 1 33, qK 35 .mul 32 34, qk 36 .add 31 35, qo 37 (.nck (.t 28)), qf 38 2 37, qt 1 38 36]
def a_rock_Block_move : Ann := ⟨[(3, []), (2, [0, 2, 4]), (1, [0, 2, 4]), (0, [0, 2, 4])], [], [], [0], [], [], [], [], [], [], []⟩
def f_rock_Block_move : Abs.Fn := ⟨3, [],
  (.seq (.reg [0, 2, 4] f233r0) (.seq (.reg [0, 2, 4] f233r1) (.seq (.reg [0, 2, 4] f233r2) (.reg [] f233r3))))⟩
theorem e_rock_Block_move : type_of% f_rock_Block_move.eq_1 := by_rfl f_rock_Block_move.eq_1
theorem ok_rock_Block_move : fnC Tryz.prog a_rock_Block_move Tryz.f233 = some f_rock_Block_move := by kernel_rfl

/-! 234 (fumarole/rock.Bore).given -/
def f234r0 : List Abs.Op := [qx 2 0, qo 4 (.alcv [] [(.int .i64 0), (.int .i64 0), (.int .i64 0)])]
def f234r1 : List Abs.Op := [qm 5 1, qo 6 (.un .neg (.t 5)), qm 7 1, qo 8 (.un .neg (.t 7)), qf 9 1 2, ql 10 1 9, qk 11 .mul 8 10, qm 12 1, qo 13 (.un .neg (.t 12)), qf 14 2 2, ql 15 1 14, qk 16 .mul 13 15, qo 17 (.bld [(.int .i64 0), (.int .i64 0), (.int .i64 0)] [(0, 1, (.t 6)), (1, 1, (.t 11)), (2, 1, (.t 16))]), qs 4 3 4 17]
def a_rock_Bore_given : Ann := ⟨[(1, [4]), (0, [1, 2, 4])], [], [], [4], [4], [], [], [], [], [], []⟩
def f_rock_Bore_given : Abs.Fn := ⟨2, [.v 4 true 3],
  (.seq (.reg [1, 2, 4] f234r0) (.seq (.reg [4] f234r1) .ret))⟩
theorem e_rock_Bore_given : type_of% f_rock_Bore_given.eq_1 := by_rfl f_rock_Bore_given.eq_1
theorem ok_rock_Bore_given : fnC Tryz.prog a_rock_Bore_given Tryz.f234 = some f_rock_Bore_given := by kernel_rfl

/-! 235 (fumarole/rock.Block).out -/
def f235r0 : List Abs.Op := [qx 2 0, qo 4 (.alcv [] [(.int .i64 0), (.int .i64 0), (.int .i64 0)])]
def f235r1 : List Abs.Op := [qM 5 1, qF 6 1 2, qL 7 1 6, qM 8 1, qK 9 .mul 7 8, qF 10 0 2, qL 11 1 10, qK 12 .quo 9 11, qF 13 2 2, qL 14 1 13, qM 15 1, qK 16 .mul 14 15, qF 17 0 2, qL 18 1 17, qK 19 .quo 16 18, qo 20 (.bld [(.int .i64 0), (.int .i64 0), (.int .i64 0)] [(0, 1, (.t 5)), (1, 1, (.t 12)), (2, 1, (.t 19))]), qs 4 3 4 20]
def a_rock_Block_out : Ann := ⟨[(1, [4]), (0, [1, 2, 4])], [], [], [4], [4], [], [], [], [], [], []⟩
def f_rock_Block_out : Abs.Fn := ⟨2, [.v 4 true 3],
  (.seq (.reg [1, 2, 4] f235r0) (.seq (.reg [4] f235r1) .ret))⟩
theorem e_rock_Block_out : type_of% f_rock_Block_out.eq_1 := by_rfl f_rock_Block_out.eq_1
theorem ok_rock_Block_out : fnC Tryz.prog a_rock_Block_out Tryz.f235 = some f_rock_Block_out := by kernel_rfl

/-! 236 (fumarole/rock.bedded).fed -/
def f236r0 : List Abs.Op := [qx 2 0, qo 4 (.alcv [] [(.int .i64 0), (.int .i64 0), (.int .i64 0)])]
def f236r1 : List Abs.Op := [qA 5 11 2, qM 6 1, qC 7 i_rock_bedded_feed [5, 6], qA 8 11 2, qM 9 1, qC 10 i_rock_bedded_feed [8, 9], qF 11 0 2, qF 12 7 11, qL 13 1 12, qk 14 .mul 10 13, qo 15 (.bld [(.int .i64 0), (.int .i64 0), (.int .i64 0)] [(0, 1, (.t 7)), (1, 1, (.t 14))]), qs 4 3 4 15]
def a_rock_bedded_fed : Ann := ⟨[(1, [4]), (0, [1, 2, 4])], [], [], [4], [4], [], [], [], [], [], []⟩
def f_rock_bedded_fed : Abs.Fn := ⟨2, [.v 4 true 3],
  (.seq (.reg [1, 2, 4] f236r0) (.seq (.reg [4] f236r1) .ret))⟩
theorem e_rock_bedded_fed : type_of% f_rock_bedded_fed.eq_1 := by_rfl f_rock_bedded_fed.eq_1
theorem ok_rock_bedded_fed : fnC Tryz.prog a_rock_bedded_fed Tryz.f236 = some f_rock_bedded_fed := by kernel_rfl

/-! 237 (fumarole/rock.bedded).state -/
def f237r0 : List Abs.Op := [qx 2 0, qb 4 false]
def f237r1 : List Abs.Op := [qm 5 1, qe 6 5, qf 7 0 2, qa 8 9 7, qc 9 i_rock_Bed_size [8], qk 10 .eql 6 9, qm 11 10, qg 11 true (qm 12 1), qg 11 true (qo 13 (.call false (.c (.fn i_rock_all_rock_Block [] [])) [(.t 12), (.c (.fn i_rock_Block_valid [] []))])), qp 14 11 13, qm 4 14]
def a_rock_bedded_state : Ann := ⟨[(1, [4]), (0, [1, 2])], [], [], [], [], [], [], [], [], [], []⟩
def f_rock_bedded_state : Abs.Fn := ⟨2, [.t 4],
  (.seq (.reg [1, 2] f237r0) (.seq (.reg [4] f237r1) .ret))⟩
theorem e_rock_bedded_state : type_of% f_rock_bedded_state.eq_1 := by_rfl f_rock_bedded_state.eq_1
theorem ok_rock_bedded_state : fnC Tryz.prog a_rock_bedded_state Tryz.f237 = some f_rock_bedded_state := by kernel_rfl

/-! 238 slices.ContainsFunc[[]fumarole/steam.Row,fumarole/steam.Row] -/
def f238r0 : List Abs.Op := [qb 4 false]
def f238r1 : List Abs.Op := [qm 5 0, qm 6 1, qc 7 i_slices_IndexFunc_steam_Row [5, 6], qn 8 .geq 7 0, qm 4 8]
def a_slices_ContainsFunc_steam_Row : Ann := ⟨[(1, [4]), (0, [0, 1])], [], [], [], [], [], [], [], [], [], []⟩
def f_slices_ContainsFunc_steam_Row : Abs.Fn := ⟨2, [.t 4],
  (.seq (.reg [0, 1] f238r0) (.seq (.reg [4] f238r1) .ret))⟩
theorem e_slices_ContainsFunc_steam_Row : type_of% f_slices_ContainsFunc_steam_Row.eq_1 := by_rfl f_slices_ContainsFunc_steam_Row.eq_1
theorem ok_slices_ContainsFunc_steam_Row : fnC Tryz.prog a_slices_ContainsFunc_steam_Row Tryz.f238 = some f_slices_ContainsFunc_steam_Row := by kernel_rfl

/-! 239 fumarole/steam.all[fumarole/steam.Row]$1 -/
def f239r0 : List Abs.Op := [qx 2 0, qb 3 false]
def f239r1 : List Abs.Op := [ql 4 1 1, qa 5 5 2, qo 6 (.call false (.t 4) [(.t 5)]), qu 7 6, qm 3 7]
def a_steam_all_steam_Row_1 : Ann := ⟨[(1, [3]), (0, [1, 2])], [], [], [], [], [], [], [], [], [], []⟩
def f_steam_all_steam_Row_1 : Abs.Fn := ⟨2, [.t 3],
  (.seq (.reg [1, 2] f239r0) (.seq (.reg [3] f239r1) .ret))⟩
theorem e_steam_all_steam_Row_1 : type_of% f_steam_all_steam_Row_1.eq_1 := by_rfl f_steam_all_steam_Row_1.eq_1
theorem ok_steam_all_steam_Row_1 : fnC Tryz.prog a_steam_all_steam_Row_1 Tryz.f239 = some f_steam_all_steam_Row_1 := by kernel_rfl

/-! 240 slices.ContainsFunc[[]fumarole/plant.Part,fumarole/plant.Part] -/
def f240r0 : List Abs.Op := [qb 4 false]
def f240r1 : List Abs.Op := [qm 5 0, qm 6 1, qc 7 i_slices_IndexFunc_plant_Part [5, 6], qn 8 .geq 7 0, qm 4 8]
def a_slices_ContainsFunc_plant_Part : Ann := ⟨[(1, [4]), (0, [0, 1])], [], [], [], [], [], [], [], [], [], []⟩
def f_slices_ContainsFunc_plant_Part : Abs.Fn := ⟨2, [.t 4],
  (.seq (.reg [0, 1] f240r0) (.seq (.reg [4] f240r1) .ret))⟩
theorem e_slices_ContainsFunc_plant_Part : type_of% f_slices_ContainsFunc_plant_Part.eq_1 := by_rfl f_slices_ContainsFunc_plant_Part.eq_1
theorem ok_slices_ContainsFunc_plant_Part : fnC Tryz.prog a_slices_ContainsFunc_plant_Part Tryz.f240 = some f_slices_ContainsFunc_plant_Part := by kernel_rfl

/-! 241 fumarole/plant.all[fumarole/plant.Part]$1 -/
def f241r0 : List Abs.Op := [qx 2 0, qb 3 false]
def f241r1 : List Abs.Op := [ql 4 1 1, qa 5 2 2, qo 6 (.call false (.t 4) [(.t 5)]), qu 7 6, qm 3 7]
def a_plant_all_plant_Part_1 : Ann := ⟨[(1, [3]), (0, [1, 2])], [], [], [], [], [], [], [], [], [], []⟩
def f_plant_all_plant_Part_1 : Abs.Fn := ⟨2, [.t 3],
  (.seq (.reg [1, 2] f241r0) (.seq (.reg [3] f241r1) .ret))⟩
theorem e_plant_all_plant_Part_1 : type_of% f_plant_all_plant_Part_1.eq_1 := by_rfl f_plant_all_plant_Part_1.eq_1
theorem ok_plant_all_plant_Part_1 : fnC Tryz.prog a_plant_all_plant_Part_1 Tryz.f241 = some f_plant_all_plant_Part_1 := by kernel_rfl

/-! 242 slices.ContainsFunc[[]fumarole/steam.Stream,fumarole/steam.Stream] -/
def f242r0 : List Abs.Op := [qb 4 false]
def f242r1 : List Abs.Op := [qm 5 0, qm 6 1, qc 7 i_slices_IndexFunc_steam_Stream [5, 6], qn 8 .geq 7 0, qm 4 8]
def a_slices_ContainsFunc_steam_Stream : Ann := ⟨[(1, [4]), (0, [0, 1])], [], [], [], [], [], [], [], [], [], []⟩
def f_slices_ContainsFunc_steam_Stream : Abs.Fn := ⟨2, [.t 4],
  (.seq (.reg [0, 1] f242r0) (.seq (.reg [4] f242r1) .ret))⟩
theorem e_slices_ContainsFunc_steam_Stream : type_of% f_slices_ContainsFunc_steam_Stream.eq_1 := by_rfl f_slices_ContainsFunc_steam_Stream.eq_1
theorem ok_slices_ContainsFunc_steam_Stream : fnC Tryz.prog a_slices_ContainsFunc_steam_Stream Tryz.f242 = some f_slices_ContainsFunc_steam_Stream := by kernel_rfl

/-! 243 fumarole/plant.all[fumarole/steam.Stream]$1 -/
def f243r0 : List Abs.Op := [qx 2 0, qb 3 false]
def f243r1 : List Abs.Op := [ql 4 1 1, qa 5 4 2, qo 6 (.call false (.t 4) [(.t 5)]), qu 7 6, qm 3 7]
def a_plant_all_steam_Stream_1 : Ann := ⟨[(1, [3]), (0, [1, 2])], [], [], [], [], [], [], [], [], [], []⟩
def f_plant_all_steam_Stream_1 : Abs.Fn := ⟨2, [.t 3],
  (.seq (.reg [1, 2] f243r0) (.seq (.reg [3] f243r1) .ret))⟩
theorem e_plant_all_steam_Stream_1 : type_of% f_plant_all_steam_Stream_1.eq_1 := by_rfl f_plant_all_steam_Stream_1.eq_1
theorem ok_plant_all_steam_Stream_1 : fnC Tryz.prog a_plant_all_steam_Stream_1 Tryz.f243 = some f_plant_all_steam_Stream_1 := by kernel_rfl

/-! 244 (fumarole/plant.Unit).used$1 -/
def f244r0 : List Abs.Op := [qf 7 1 1, ql 8 1 7, qe 9 8, qi 10 0]
def f244r1 : List Abs.Op := [qk 11 .lss 10 9]
def f244r2 : List Abs.Op := [qj 12 2 8 10, qa 13 2 12, qo 5 (.alcv [] [(.int .i64 0), (.int .i64 0)]), qs 5 2 5 13]
def f244r3 : List Abs.Op := [ql 14 1 2, qf 15 0 5, qv 16 5 1 15, qo 17 (.mn (.t 14) (.t 16)), qm 6 17]
def f244r4 : List Abs.Op := [qm 18 0, qw 19 5 2 5, qm 20 6, qo 21 (.call false (.t 18) [(.t 19), (.t 20)]), qu 22 21]
def f244r5 : List Abs.Op := [ql 23 1 2, qm 24 6, qk 25 .sub 23 24, qt 1 2 25]
def f244r6 : List Abs.Op := [qn 26 .add 10 1, qm 10 26]
def f_plant_Unit_used_1_l7 : Abs.Cmd :=
  (.seq (.reg [0, 2, 8, 9, 10, 11] f244r1) (.seq (.ite (.t 11) .nop (.exit 0)) (.seq (.blk 1 (.seq (.reg [0, 2, 5, 8, 9, 10] f244r2) (.seq (.reg [0, 2, 5, 6, 8, 9, 10] f244r3) (.seq (.seq (.reg [0, 2, 6, 8, 9, 10, 22] f244r4) (.ite (.t 22) .ret .nop)) (.reg [0, 2, 8, 9, 10] f244r5))))) (.reg [0, 2, 8, 9, 10] f244r6))))

def a_plant_Unit_used_1 : Ann := ⟨[(6, [0, 2, 8, 9, 10]), (5, [0, 2, 8, 9, 10]), (4, [0, 2, 6, 8, 9, 10, 22]), (3, [0, 2, 5, 6, 8, 9, 10]), (2, [0, 2, 5, 8, 9, 10]), (1, [0, 2, 8, 9, 10, 11]), (0, [0, 2, 8, 9, 10])], [(0, [0, 2, 8, 9, 10])], [], [2, 5], [5], [], [], [], [], [], []⟩
def f_plant_Unit_used_1 : Abs.Fn := ⟨3, [],
  (.seq (.reg [0, 2, 8, 9, 10] f244r0) (.blk 0 (.loop [0, 2, 8, 9, 10] false f_plant_Unit_used_1_l7)))⟩
theorem e_plant_Unit_used_1_l7 : type_of% f_plant_Unit_used_1_l7.eq_1 := by_rfl f_plant_Unit_used_1_l7.eq_1
theorem e_plant_Unit_used_1 : type_of% f_plant_Unit_used_1.eq_1 := by_rfl f_plant_Unit_used_1.eq_1
theorem ok_plant_Unit_used_1 : fnC Tryz.prog a_plant_Unit_used_1 Tryz.f244 = some f_plant_Unit_used_1 := by kernel_rfl

/-! 245 fumarole/logbook.sum -/
def f245r0 : List Abs.Op := [qi 2 0]
def f245r1 : List Abs.Op := [qi 3 1]
def f245r2 : List Abs.Op := [qm 6 0, qo 7 (.me (.s2b) [(.t 6)]), qe 8 7, qi 9 0]
def f245r3 : List Abs.Op := [qk 10 .lss 9 8]
def f245r4 : List Abs.Op := [qj 11 1 7 9, ql 12 1 11, qm 5 12]
def f245r5 : List Abs.Op := [qm 13 3, qo 14 (.bin .mul (.c (.int .i64 31)) (.t 13)), qm 15 5, qo 16 (.cvt .i64 (.t 15)), qk 17 .add 14 16, qn 18 .rem 17 65521, qm 3 18]
def f245r6 : List Abs.Op := [qn 19 .add 9 1, qm 9 19]
def f_logbook_sum_l7 : Abs.Cmd :=
  (.seq (.reg [3, 7, 8, 9, 10] f245r3) (.seq (.ite (.t 10) .nop (.exit 0)) (.seq (.blk 1 (.seq (.reg [3, 5, 7, 8, 9] f245r4) (.reg [3, 7, 8, 9] f245r5))) (.reg [3, 7, 8, 9] f245r6))))

def f245r8 : List Abs.Op := [qm 20 3, qm 2 20]
def a_logbook_sum : Ann := ⟨[(7, [2]), (6, [3, 7, 8, 9]), (5, [3, 7, 8, 9]), (4, [3, 5, 7, 8, 9]), (3, [3, 7, 8, 9, 10]), (2, [3, 7, 8, 9]), (1, [0, 3]), (0, [0])], [(0, [3, 7, 8, 9])], [], [], [], [], [], [], [], [], []⟩
def f_logbook_sum : Abs.Fn := ⟨1, [.t 2],
  (.seq (.reg [0] f245r0) (.seq (.reg [0, 3] f245r1) (.seq (.seq (.reg [3, 7, 8, 9] f245r2) (.blk 0 (.loop [3, 7, 8, 9] false f_logbook_sum_l7))) (.seq (.reg [2] f245r8) .ret))))⟩
theorem e_logbook_sum_l7 : type_of% f_logbook_sum_l7.eq_1 := by_rfl f_logbook_sum_l7.eq_1
theorem e_logbook_sum : type_of% f_logbook_sum.eq_1 := by_rfl f_logbook_sum.eq_1
theorem ok_logbook_sum : fnC Tryz.prog a_logbook_sum Tryz.f245 = some f_logbook_sum := by kernel_rfl

/-! 247 fumarole/logbook.words -/
def f247r0 : List Abs.Op := [qo 0 (.mv (.c .undef))]
def f247r1 : List Abs.Op := [qo 1 (.mp (.make) []), qo 2 (.bld [(.bool false), (.int .i64 0), (.int .i64 0), .nilf] [(0, 1, (.c (.bool false))), (1, 1, (.c (.int .i64 4))), (2, 1, (.c (.int .i64 0))), (3, 1, (.c (.fn i_logbook_book_field [] [])))]), ⟨none, none, false, .mp (.put none) [(.t 1), (.c (.str [102, 105, 101, 108, 100])), (.t 2)]⟩, qo 3 (.bld [(.bool false), (.int .i64 0), (.int .i64 0), .nilf] [(0, 1, (.c (.bool false))), (1, 1, (.c (.int .i64 0))), (2, 1, (.c (.int .i64 5))), (3, 1, (.c (.fn i_logbook_book_table [] [])))]), ⟨none, none, false, .mp (.put none) [(.t 1), (.c (.str [116, 97, 98, 108, 101])), (.t 3)]⟩, qo 4 (.bld [(.bool false), (.int .i64 0), (.int .i64 0), .nilf] [(0, 1, (.c (.bool false))), (1, 1, (.c (.int .i64 3))), (2, 1, (.c (.int .i64 0))), (3, 1, (.c (.fn i_logbook_book_bed [] [])))]), ⟨none, none, false, .mp (.put none) [(.t 1), (.c (.str [98, 101, 100])), (.t 4)]⟩, qo 5 (.bld [(.bool false), (.int .i64 0), (.int .i64 0), .nilf] [(0, 1, (.c (.bool false))), (1, 1, (.c (.int .i64 3))), (2, 1, (.c (.int .i64 0))), (3, 1, (.c (.fn i_logbook_book_well [] [])))]), ⟨none, none, false, .mp (.put none) [(.t 1), (.c (.str [119, 101, 108, 108])), (.t 5)]⟩, qo 6 (.bld [(.bool false), (.int .i64 0), (.int .i64 0), .nilf] [(0, 1, (.c (.bool true))), (1, 1, (.c (.int .i64 0))), (2, 1, (.c (.int .i64 1))), (3, 1, (.c (.fn i_logbook_book_model [] [])))]), ⟨none, none, false, .mp (.put none) [(.t 1), (.c (.str [109, 111, 100, 101, 108])), (.t 6)]⟩, qo 7 (.bld [(.bool false), (.int .i64 0), (.int .i64 0), .nilf] [(0, 1, (.c (.bool true))), (1, 1, (.c (.int .i64 3))), (2, 1, (.c (.int .i64 2))), (3, 1, (.c (.fn i_logbook_book_log [] [])))]), ⟨none, none, false, .mp (.put none) [(.t 1), (.c (.str [108, 111, 103])), (.t 7)]⟩, qo 8 (.bld [(.bool false), (.int .i64 0), (.int .i64 0), .nilf] [(0, 1, (.c (.bool false))), (1, 1, (.c (.int .i64 10))), (2, 1, (.c (.int .i64 0))), (3, 1, (.c (.fn i_logbook_book_rule [] [])))]), ⟨none, none, false, .mp (.put none) [(.t 1), (.c (.str [114, 117, 108, 101])), (.t 8)]⟩, qo 9 (.bld [(.bool false), (.int .i64 0), (.int .i64 0), .nilf] [(0, 1, (.c (.bool false))), (1, 1, (.c (.int .i64 3))), (2, 1, (.c (.int .i64 0))), (3, 1, (.c (.fn i_logbook_book_keep [] [])))]), ⟨none, none, false, .mp (.put none) [(.t 1), (.c (.str [107, 101, 101, 112])), (.t 9)]⟩, qo 10 (.bld [(.bool false), (.int .i64 0), (.int .i64 0), .nilf] [(0, 1, (.c (.bool false))), (1, 1, (.c (.int .i64 0))), (2, 1, (.c (.int .i64 4))), (3, 1, (.c (.fn i_logbook_book_quake [] [])))]), ⟨none, none, false, .mp (.put none) [(.t 1), (.c (.str [113, 117, 97, 107, 101])), (.t 10)]⟩, qo 11 (.bld [(.bool false), (.int .i64 0), (.int .i64 0), .nilf] [(0, 1, (.c (.bool false))), (1, 1, (.c (.int .i64 0))), (2, 1, (.c (.int .i64 1))), (3, 1, (.c (.fn i_logbook_book_tick [] [])))]), ⟨none, none, false, .mp (.put none) [(.t 1), (.c (.str [116, 105, 99, 107])), (.t 11)]⟩, qo 12 (.bld [(.bool false), (.int .i64 0), (.int .i64 0), .nilf] [(0, 1, (.c (.bool false))), (1, 1, (.c (.int .i64 4))), (2, 1, (.c (.int .i64 0))), (3, 1, (.c (.fn i_logbook_book_read [] [])))]), ⟨none, none, false, .mp (.put none) [(.t 1), (.c (.str [114, 101, 97, 100])), (.t 12)]⟩, qo 13 (.bld [(.bool false), (.int .i64 0), (.int .i64 0), .nilf] [(0, 1, (.c (.bool false))), (1, 1, (.c (.int .i64 1))), (2, 1, (.c (.int .i64 2))), (3, 1, (.c (.fn i_logbook_book_unit [] [])))]), ⟨none, none, false, .mp (.put none) [(.t 1), (.c (.str [117, 110, 105, 116])), (.t 13)]⟩, qo 14 (.bld [(.bool false), (.int .i64 0), (.int .i64 0), .nilf] [(0, 1, (.c (.bool false))), (1, 1, (.c (.int .i64 4))), (2, 1, (.c (.int .i64 0))), (3, 1, (.c (.fn i_logbook_book_sell [] [])))]), ⟨none, none, false, .mp (.put none) [(.t 1), (.c (.str [115, 101, 108, 108])), (.t 14)]⟩, qm 15 1, qm 0 15]
def a_logbook_words : Ann := ⟨[(1, [0]), (0, [])], [], [], [], [], [], [], [], [], [], []⟩
def f_logbook_words : Abs.Fn := ⟨0, [.t 0],
  (.seq (.reg [] f247r0) (.seq (.reg [0] f247r1) .ret))⟩
theorem e_logbook_words : type_of% f_logbook_words.eq_1 := by_rfl f_logbook_words.eq_1
theorem ok_logbook_words : fnC Tryz.prog a_logbook_words Tryz.f247 = some f_logbook_words := by kernel_rfl

/-! 248 fumarole/logbook.ask -/
def f248r0 : List Abs.Op := [qm 4 0, qu 5 4]
def f248r1 : List Abs.Op := [qm 6 1, qo 7 (.bld [(.int .i64 0)] [(0, 1, (.t 6))]), qo 8 (.mki 311 (.t 7))]
def f248r2 : List Abs.Op := []
def a_logbook_ask : Ann := ⟨[(1, []), (0, [1, 5])], [], [], [], [], [], [], [], [], [], [(1, some 3)]⟩
def f_logbook_ask : Abs.Fn := ⟨2, [],
  (.seq (.reg [1, 5] f248r0) (.ite (.t 5) (.treg [] f248r1 ⟨none, none, false, .pan (.t 8)⟩ f248r2) .nop))⟩
theorem e_logbook_ask : type_of% f_logbook_ask.eq_1 := by_rfl f_logbook_ask.eq_1
theorem ok_logbook_ask : fnC Tryz.prog a_logbook_ask Tryz.f248 = some f_logbook_ask := by kernel_rfl

/-! 249 fumarole/logbook.number -/
def f249r0 : List Abs.Op := [qi 2 0]
def f249r1 : List Abs.Op := [qm 6 0, qc 7 i_strconv_Atoi [6], qm 5 7, qz 8 5 0, qz 9 5 1, qm 3 8, qm 4 9]
def f249r2 : List Abs.Op := [qm 10 4, qo 11 (.isi false (.t 10)), qm 12 11, qg 12 true (qm 13 3), qg 12 true (qc 14 i_strconv_Itoa [13]), qg 12 true (qm 15 0), qg 12 true (qo 16 (.pur (.seq false) [(.t 14), (.t 15)])), qp 17 12 16, qm 18 17, qg 18 true (qm 19 3), qg 18 true (qo 20 (.call false (.c (.fn i_logbook_within [] [])) [(.t 19), (.c (.int .i64 (-999999999))), (.c (.int .i64 999999999))])), qp 21 18 20]
def f249r3 : List Abs.Op := []
def f249r4 : List Abs.Op := [qm 23 3, qm 2 23]
def a_logbook_number : Ann := ⟨[(3, [2]), (2, [3]), (1, [0, 3, 4]), (0, [0])], [], [], [], [], [], [], [], [], [], [(2, some 12)]⟩
def f_logbook_number : Abs.Fn := ⟨1, [.t 2],
  (.seq (.reg [0] f249r0) (.seq (.reg [0, 3, 4] f249r1) (.seq (.treg [3] f249r2 ⟨some 22, none, false, .call false (.c (.fn i_logbook_ask [] [])) [(.t 21), (.c (.int .i64 4))]⟩ f249r3) (.seq (.reg [2] f249r4) .ret))))⟩
theorem e_logbook_number : type_of% f_logbook_number.eq_1 := by_rfl f_logbook_number.eq_1
theorem ok_logbook_number : fnC Tryz.prog a_logbook_number Tryz.f249 = some f_logbook_number := by kernel_rfl

/-! 270 slices.IndexFunc[[]int,int] -/
def f270r0 : List Abs.Op := [qi 4 0]
def f270r1 : List Abs.Op := [qm 6 0, qe 7 6, qi 8 0]
def f270r2 : List Abs.Op := [qk 9 .lss 8 7]
def f270r3 : List Abs.Op := [qm 10 8, qm 5 10]
def f270r4 : List Abs.Op := [qm 11 1, qm 12 0, qm 13 5, qj 14 1 12 13, ql 15 1 14, qo 16 (.call false (.t 11) [(.t 15)])]
def f270r5 : List Abs.Op := [qm 17 5, qm 4 17]
def f270r6 : List Abs.Op := [qn 18 .add 8 1, qm 8 18]
def f_slices_IndexFunc_int_l7 : Abs.Cmd :=
  (.seq (.reg [0, 1, 7, 8, 9] f270r2) (.seq (.ite (.t 9) .nop (.exit 0)) (.seq (.blk 1 (.seq (.reg [0, 1, 5, 7, 8] f270r3) (.seq (.reg [0, 1, 5, 7, 8, 16] f270r4) (.ite (.t 16) (.seq (.reg [4] f270r5) .ret) .nop)))) (.reg [0, 1, 7, 8] f270r6))))

def f270r8 : List Abs.Op := [qi 4 (-1)]
def a_slices_IndexFunc_int : Ann := ⟨[(7, [4]), (6, [0, 1, 7, 8]), (5, [4]), (4, [0, 1, 5, 7, 8, 16]), (3, [0, 1, 5, 7, 8]), (2, [0, 1, 7, 8, 9]), (1, [0, 1, 7, 8]), (0, [0, 1])], [(0, [0, 1, 7, 8])], [], [], [], [], [], [], [], [], []⟩
def f_slices_IndexFunc_int : Abs.Fn := ⟨2, [.t 4],
  (.seq (.reg [0, 1] f270r0) (.seq (.seq (.reg [0, 1, 7, 8] f270r1) (.blk 0 (.loop [0, 1, 7, 8] false f_slices_IndexFunc_int_l7))) (.seq (.reg [4] f270r8) .ret)))⟩
theorem e_slices_IndexFunc_int_l7 : type_of% f_slices_IndexFunc_int_l7.eq_1 := by_rfl f_slices_IndexFunc_int_l7.eq_1
theorem e_slices_IndexFunc_int : type_of% f_slices_IndexFunc_int.eq_1 := by_rfl f_slices_IndexFunc_int.eq_1
theorem ok_slices_IndexFunc_int : fnC Tryz.prog a_slices_IndexFunc_int Tryz.f270 = some f_slices_IndexFunc_int := by kernel_rfl

/-! 271 slices.ContainsFunc[[]fumarole/rock.Bore,fumarole/rock.Bore] -/
def f271r0 : List Abs.Op := [qb 4 false]
def f271r1 : List Abs.Op := [qm 5 0, qm 6 1, qc 7 i_slices_IndexFunc_rock_Bore [5, 6], qn 8 .geq 7 0, qm 4 8]
def a_slices_ContainsFunc_rock_Bore : Ann := ⟨[(1, [4]), (0, [0, 1])], [], [], [], [], [], [], [], [], [], []⟩
def f_slices_ContainsFunc_rock_Bore : Abs.Fn := ⟨2, [.t 4],
  (.seq (.reg [0, 1] f271r0) (.seq (.reg [4] f271r1) .ret))⟩
theorem e_slices_ContainsFunc_rock_Bore : type_of% f_slices_ContainsFunc_rock_Bore.eq_1 := by_rfl f_slices_ContainsFunc_rock_Bore.eq_1
theorem ok_slices_ContainsFunc_rock_Bore : fnC Tryz.prog a_slices_ContainsFunc_rock_Bore Tryz.f271 = some f_slices_ContainsFunc_rock_Bore := by kernel_rfl

/-! 272 fumarole/rock.all[fumarole/rock.Bore]$1 -/
def f272r0 : List Abs.Op := [qx 2 0, qb 3 false]
def f272r1 : List Abs.Op := [ql 4 1 1, qa 5 3 2, qo 6 (.call false (.t 4) [(.t 5)]), qu 7 6, qm 3 7]
def a_rock_all_rock_Bore_1 : Ann := ⟨[(1, [3]), (0, [1, 2])], [], [], [], [], [], [], [], [], [], []⟩
def f_rock_all_rock_Bore_1 : Abs.Fn := ⟨2, [.t 3],
  (.seq (.reg [1, 2] f272r0) (.seq (.reg [3] f272r1) .ret))⟩
theorem e_rock_all_rock_Bore_1 : type_of% f_rock_all_rock_Bore_1.eq_1 := by_rfl f_rock_all_rock_Bore_1.eq_1
theorem ok_rock_all_rock_Bore_1 : fnC Tryz.prog a_rock_all_rock_Bore_1 Tryz.f272 = some f_rock_all_rock_Bore_1 := by kernel_rfl

/-! 273 fumarole/field.each[fumarole/field.Model] -/
def f273r0 : List Abs.Op := [qi 4 0]
def f273r1 : List Abs.Op := [qo 10 (.mp (.make) []), qm 5 10]
def f273r2 : List Abs.Op := [qm 11 0, qe 12 11, qi 13 0]
def f273r3 : List Abs.Op := [qk 14 .lss 13 12]
def f273r4 : List Abs.Op := [qj 15 2 11 13, qa 16 2 15, qo 7 (.alcv [] [(.str []), .nils]), qs 7 2 7 16]
def f273r5 : List Abs.Op := [qm 18 1, qw 19 7 2 7, qo 20 (.call false (.t 18) [(.t 19)]), qm 17 20, qz 21 17 0, qz 22 17 1, qm 8 21, qm 9 22]
def f273r6 : List Abs.Op := [qm 23 9, qn 24 .neq 23 0]
def f273r7 : List Abs.Op := [qm 25 9, qm 4 25]
def f273r8 : List Abs.Op := [qm 26 5, qm 27 8, qo 28 (.mp (.get none (.bool false) false) [(.t 26), (.t 27)])]
def f273r9 : List Abs.Op := [qi 4 6]
def f273r10 : List Abs.Op := [qm 29 5, qm 30 8, ⟨none, none, false, .mp (.put none) [(.t 29), (.t 30), (.c (.bool true))]⟩]
def f273r11 : List Abs.Op := [qn 31 .add 13 1, qm 13 31]
def f_field_each_field_Model_l12 : Abs.Cmd :=
  (.seq (.reg [1, 5, 11, 12, 13, 14] f273r3) (.seq (.ite (.t 14) .nop (.exit 0)) (.seq (.blk 1 (.seq (.reg [1, 5, 7, 11, 12, 13] f273r4) (.seq (.reg [1, 5, 8, 9, 11, 12, 13] f273r5) (.seq (.seq (.reg [1, 5, 8, 9, 11, 12, 13, 24] f273r6) (.ite (.t 24) (.seq (.reg [4] f273r7) .ret) .nop)) (.seq (.seq (.reg [1, 5, 8, 11, 12, 13, 28] f273r8) (.ite (.t 28) (.seq (.reg [4] f273r9) .ret) .nop)) (.reg [1, 5, 11, 12, 13] f273r10)))))) (.reg [1, 5, 11, 12, 13] f273r11))))

def f273r13 : List Abs.Op := [qi 4 0]
def a_field_each_field_Model : Ann := ⟨[(12, [4]), (11, [1, 5, 11, 12, 13]), (10, [1, 5, 11, 12, 13]), (9, [4]), (8, [1, 5, 8, 11, 12, 13, 28]), (7, [4]), (6, [1, 5, 8, 9, 11, 12, 13, 24]), (5, [1, 5, 8, 9, 11, 12, 13]), (4, [1, 5, 7, 11, 12, 13]), (3, [1, 5, 11, 12, 13, 14]), (2, [1, 5, 11, 12, 13]), (1, [0, 1, 5]), (0, [0, 1])], [(0, [1, 5, 11, 12, 13])], [], [7], [7], [], [], [], [], [], []⟩
def f_field_each_field_Model : Abs.Fn := ⟨2, [.t 4],
  (.seq (.reg [0, 1] f273r0) (.seq (.reg [0, 1, 5] f273r1) (.seq (.seq (.reg [1, 5, 11, 12, 13] f273r2) (.blk 0 (.loop [1, 5, 11, 12, 13] false f_field_each_field_Model_l12))) (.seq (.reg [4] f273r13) .ret))))⟩
theorem e_field_each_field_Model_l12 : type_of% f_field_each_field_Model_l12.eq_1 := by_rfl f_field_each_field_Model_l12.eq_1
theorem e_field_each_field_Model : type_of% f_field_each_field_Model.eq_1 := by_rfl f_field_each_field_Model.eq_1
theorem ok_field_each_field_Model : fnC Tryz.prog a_field_each_field_Model Tryz.f273 = some f_field_each_field_Model := by kernel_rfl

/-! 274 (fumarole/field.Field).models$1 -/
def f274r0 : List Abs.Op := [qx 2 0, qo 3 (.mv (.c (.str []))), qi 4 0]
def f274r1 : List Abs.Op := [qF 5 0 2, qL 6 1 5, qA 7 4 1, qA 8 2 2, qC 9 i_field_Field_model [7, 8], qm 3 6, qm 4 9]
def a_field_Field_models_1 : Ann := ⟨[(1, [3, 4]), (0, [1, 2])], [], [], [], [], [], [], [], [], [], []⟩
def f_field_Field_models_1 : Abs.Fn := ⟨2, [.t 3, .t 4],
  (.seq (.reg [1, 2] f274r0) (.seq (.reg [3, 4] f274r1) .ret))⟩
theorem e_field_Field_models_1 : type_of% f_field_Field_models_1.eq_1 := by_rfl f_field_Field_models_1.eq_1
theorem ok_field_Field_models_1 : fnC Tryz.prog a_field_Field_models_1 Tryz.f274 = some f_field_Field_models_1 := by kernel_rfl

/-! 275 slices.IndexFunc[[]fumarole/field.Model,fumarole/field.Model] -/
def f275r0 : List Abs.Op := [qi 4 0]
def f275r1 : List Abs.Op := [qm 6 0, qe 7 6, qi 8 0]
def f275r2 : List Abs.Op := [qk 9 .lss 8 7]
def f275r3 : List Abs.Op := [qm 10 8, qm 5 10]
def f275r4 : List Abs.Op := [qm 11 1, qm 12 0, qm 13 5, qj 14 2 12 13, qa 15 2 14, qo 16 (.call false (.t 11) [(.t 15)])]
def f275r5 : List Abs.Op := [qm 17 5, qm 4 17]
def f275r6 : List Abs.Op := [qn 18 .add 8 1, qm 8 18]
def f_slices_IndexFunc_field_Model_l7 : Abs.Cmd :=
  (.seq (.reg [0, 1, 7, 8, 9] f275r2) (.seq (.ite (.t 9) .nop (.exit 0)) (.seq (.blk 1 (.seq (.reg [0, 1, 5, 7, 8] f275r3) (.seq (.reg [0, 1, 5, 7, 8, 16] f275r4) (.ite (.t 16) (.seq (.reg [4] f275r5) .ret) .nop)))) (.reg [0, 1, 7, 8] f275r6))))

def f275r8 : List Abs.Op := [qi 4 (-1)]
def a_slices_IndexFunc_field_Model : Ann := ⟨[(7, [4]), (6, [0, 1, 7, 8]), (5, [4]), (4, [0, 1, 5, 7, 8, 16]), (3, [0, 1, 5, 7, 8]), (2, [0, 1, 7, 8, 9]), (1, [0, 1, 7, 8]), (0, [0, 1])], [(0, [0, 1, 7, 8])], [], [], [], [], [], [], [], [], []⟩
def f_slices_IndexFunc_field_Model : Abs.Fn := ⟨2, [.t 4],
  (.seq (.reg [0, 1] f275r0) (.seq (.seq (.reg [0, 1, 7, 8] f275r1) (.blk 0 (.loop [0, 1, 7, 8] false f_slices_IndexFunc_field_Model_l7))) (.seq (.reg [4] f275r8) .ret)))⟩
theorem e_slices_IndexFunc_field_Model_l7 : type_of% f_slices_IndexFunc_field_Model_l7.eq_1 := by_rfl f_slices_IndexFunc_field_Model_l7.eq_1
theorem e_slices_IndexFunc_field_Model : type_of% f_slices_IndexFunc_field_Model.eq_1 := by_rfl f_slices_IndexFunc_field_Model.eq_1
theorem ok_slices_IndexFunc_field_Model : fnC Tryz.prog a_slices_IndexFunc_field_Model Tryz.f275 = some f_slices_IndexFunc_field_Model := by kernel_rfl

/-! 276 fumarole/rock.all[int]$1 -/
def f276r0 : List Abs.Op := [qb 3 false]
def f276r1 : List Abs.Op := [ql 4 1 1, qm 5 0, qo 6 (.call false (.t 4) [(.t 5)]), qu 7 6, qm 3 7]
def a_rock_all_int_1 : Ann := ⟨[(1, [3]), (0, [0, 1])], [], [], [], [], [], [], [], [], [], []⟩
def f_rock_all_int_1 : Abs.Fn := ⟨2, [.t 3],
  (.seq (.reg [0, 1] f276r0) (.seq (.reg [3] f276r1) .ret))⟩
theorem e_rock_all_int_1 : type_of% f_rock_all_int_1.eq_1 := by_rfl f_rock_all_int_1.eq_1
theorem ok_rock_all_int_1 : fnC Tryz.prog a_rock_all_int_1 Tryz.f276 = some f_rock_all_int_1 := by kernel_rfl

/-! 277 fumarole/tremor.all[int]$1 -/
def f277r0 : List Abs.Op := [qb 3 false]
def f277r1 : List Abs.Op := [ql 4 1 1, qm 5 0, qo 6 (.call false (.t 4) [(.t 5)]), qu 7 6, qm 3 7]
def a_tremor_all_int_1 : Ann := ⟨[(1, [3]), (0, [0, 1])], [], [], [], [], [], [], [], [], [], []⟩
def f_tremor_all_int_1 : Abs.Fn := ⟨2, [.t 3],
  (.seq (.reg [0, 1] f277r0) (.seq (.reg [3] f277r1) .ret))⟩
theorem e_tremor_all_int_1 : type_of% f_tremor_all_int_1.eq_1 := by_rfl f_tremor_all_int_1.eq_1
theorem ok_tremor_all_int_1 : fnC Tryz.prog a_tremor_all_int_1 Tryz.f277 = some f_tremor_all_int_1 := by kernel_rfl

/-! 278 (fumarole/rock.bedded).pressures -/
def f278r0 : List Abs.Op := [qx 2 0, qo 4 (.nilb 1)]
def f278r1 : List Abs.Op := [qm 6 1, qe 7 6, qi 8 0]
def f278r2 : List Abs.Op := [qk 9 .lss 8 7]
def f278r3 : List Abs.Op := [qm 10 8, qm 5 10]
def f278r4 : List Abs.Op := [qm 11 4, qa 12 11 2, qm 13 1, qm 14 5, qc 15 i_rock_bedded_pressure [12, 13, 14], qo 16 (.bsi 1 1 [(.int .i64 0)] [(0, 1, (.t 15))]), qy 17 1 8 11 16, qm 4 17]
def f278r5 : List Abs.Op := [qn 18 .add 8 1, qm 8 18]
def f_rock_bedded_pressures_l6 : Abs.Cmd :=
  (.seq (.reg [1, 2, 4, 7, 8, 9] f278r2) (.seq (.ite (.t 9) .nop (.exit 0)) (.seq (.blk 1 (.seq (.reg [1, 2, 4, 5, 7, 8] f278r3) (.reg [1, 2, 4, 7, 8] f278r4))) (.reg [1, 2, 4, 7, 8] f278r5))))

def f278r7 : List Abs.Op := [qm 19 4, qm 4 19]
def a_rock_bedded_pressures : Ann := ⟨[(6, [4]), (5, [1, 2, 4, 7, 8]), (4, [1, 2, 4, 7, 8]), (3, [1, 2, 4, 5, 7, 8]), (2, [1, 2, 4, 7, 8, 9]), (1, [1, 2, 4, 7, 8]), (0, [1, 2, 4])], [(0, [1, 2, 4, 7, 8])], [], [4], [], [], [], [], [], [], []⟩
def f_rock_bedded_pressures : Abs.Fn := ⟨2, [.t 4],
  (.seq (.reg [1, 2, 4] f278r0) (.seq (.seq (.reg [1, 2, 4, 7, 8] f278r1) (.blk 0 (.loop [1, 2, 4, 7, 8] false f_rock_bedded_pressures_l6))) (.seq (.reg [4] f278r7) .ret)))⟩
theorem e_rock_bedded_pressures_l6 : type_of% f_rock_bedded_pressures_l6.eq_1 := by_rfl f_rock_bedded_pressures_l6.eq_1
theorem e_rock_bedded_pressures : type_of% f_rock_bedded_pressures.eq_1 := by_rfl f_rock_bedded_pressures.eq_1
theorem ok_rock_bedded_pressures : fnC Tryz.prog a_rock_bedded_pressures Tryz.f278 = some f_rock_bedded_pressures := by kernel_rfl

/-! 279 (fumarole/rock.Bed).links -/
def f279r0 : List Abs.Op := [qx 1 0, qo 2 (.mv (.c .nilf))]
def f279r1 : List Abs.Op := [qo 3 (.mkf i_rock_Bed_links_1 [] [(.t 1)]), qm 2 3]
def a_rock_Bed_links : Ann := ⟨[(1, [2]), (0, [1])], [], [], [], [], [], [], [], [], [], []⟩
def f_rock_Bed_links : Abs.Fn := ⟨1, [.t 2],
  (.seq (.reg [1] f279r0) (.seq (.reg [2] f279r1) .ret))⟩
theorem e_rock_Bed_links : type_of% f_rock_Bed_links.eq_1 := by_rfl f_rock_Bed_links.eq_1
theorem ok_rock_Bed_links : fnC Tryz.prog a_rock_Bed_links Tryz.f279 = some f_rock_Bed_links := by kernel_rfl

/-! 280 (fumarole/rock.bedded).open -/
def f280r0 : List Abs.Op := [qx 2 0, qi 4 0]
def f280r1 : List Abs.Op := [qa 5 11 2, qo 6 (.call false (.c (.fn i_rock_bedded_kind [] [])) [(.t 5), (.c (.int .i64 1))]), qm 7 1, qj 8 1 6 7, ql 9 1 8, qm 4 9]
def a_rock_bedded_open : Ann := ⟨[(1, [4]), (0, [1, 2])], [], [], [], [], [], [], [], [], [], []⟩
def f_rock_bedded_open : Abs.Fn := ⟨2, [.t 4],
  (.seq (.reg [1, 2] f280r0) (.seq (.reg [4] f280r1) .ret))⟩
theorem e_rock_bedded_open : type_of% f_rock_bedded_open.eq_1 := by_rfl f_rock_bedded_open.eq_1
theorem ok_rock_bedded_open : fnC Tryz.prog a_rock_bedded_open Tryz.f280 = some f_rock_bedded_open := by kernel_rfl

/-! 281 (fumarole/rock.bedded).feed -/
def f281r0 : List Abs.Op := [qx 2 0, qi 4 0]
def f281r1 : List Abs.Op := [qa 5 11 2, qo 6 (.call false (.c (.fn i_rock_bedded_kind [] [])) [(.t 5), (.c (.int .i64 3))]), qm 7 1, qj 8 1 6 7, ql 9 1 8, qm 4 9]
def a_rock_bedded_feed : Ann := ⟨[(1, [4]), (0, [1, 2])], [], [], [], [], [], [], [], [], [], []⟩
def f_rock_bedded_feed : Abs.Fn := ⟨2, [.t 4],
  (.seq (.reg [1, 2] f281r0) (.seq (.reg [4] f281r1) .ret))⟩
theorem e_rock_bedded_feed : type_of% f_rock_bedded_feed.eq_1 := by_rfl f_rock_bedded_feed.eq_1
theorem ok_rock_bedded_feed : fnC Tryz.prog a_rock_bedded_feed Tryz.f281 = some f_rock_bedded_feed := by kernel_rfl

/-! 282 fumarole/rock.all[fumarole/rock.Block] -/
def f282r0 : List Abs.Op := [qx 3 1, qb 4 false]
def f282r1 : List Abs.Op := [qm 5 0, qo 6 (.mkf i_rock_all_rock_Block_1 [] [(.t 3)]), qc 7 i_slices_ContainsFunc_rock_Block [5, 6], qu 8 7, qm 4 8]
def a_rock_all_rock_Block : Ann := ⟨[(1, [4]), (0, [0, 3])], [], [], [], [], [], [], [], [], [], []⟩
def f_rock_all_rock_Block : Abs.Fn := ⟨2, [.t 4],
  (.seq (.reg [0, 3] f282r0) (.seq (.reg [4] f282r1) .ret))⟩
theorem e_rock_all_rock_Block : type_of% f_rock_all_rock_Block.eq_1 := by_rfl f_rock_all_rock_Block.eq_1
theorem ok_rock_all_rock_Block : fnC Tryz.prog a_rock_all_rock_Block Tryz.f282 = some f_rock_all_rock_Block := by kernel_rfl

/-! 283 (fumarole/rock.Block).valid -/
def f283r0 : List Abs.Op := [qx 1 0, qb 2 false]
def f283r1 : List Abs.Op := [qf 3 0 1, ql 4 1 3, qo 5 (.call false (.c (.fn i_rock_within [] [])) [(.t 4), (.c (.int .i64 1)), (.c (.int .i64 1000000))]), qm 6 5, qg 6 true (qf 7 1 1), qg 6 true (ql 8 1 7), qg 6 true (qo 9 (.call false (.c (.fn i_rock_within [] [])) [(.t 8), (.c (.int .i64 0)), (.c (.int .i64 10000000000))])), qp 10 6 9, qm 11 10, qg 11 true (qf 12 2 1), qg 11 true (ql 13 1 12), qg 11 true (qo 14 (.call false (.c (.fn i_rock_within [] [])) [(.t 13), (.c (.int .i64 0)), (.c (.int .i64 1000000000000))])), qp 15 11 14, qm 2 15]
def a_rock_Block_valid : Ann := ⟨[(1, [2]), (0, [1])], [], [], [], [], [], [], [], [], [], []⟩
def f_rock_Block_valid : Abs.Fn := ⟨1, [.t 2],
  (.seq (.reg [1] f283r0) (.seq (.reg [2] f283r1) .ret))⟩
theorem e_rock_Block_valid : type_of% f_rock_Block_valid.eq_1 := by_rfl f_rock_Block_valid.eq_1
theorem ok_rock_Block_valid : fnC Tryz.prog a_rock_Block_valid Tryz.f283 = some f_rock_Block_valid := by kernel_rfl

/-! 284 slices.IndexFunc[[]fumarole/steam.Row,fumarole/steam.Row] -/
def f284r0 : List Abs.Op := [qi 4 0]
def f284r1 : List Abs.Op := [qm 6 0, qe 7 6, qi 8 0]
def f284r2 : List Abs.Op := [qk 9 .lss 8 7]
def f284r3 : List Abs.Op := [qm 10 8, qm 5 10]
def f284r4 : List Abs.Op := [qm 11 1, qm 12 0, qm 13 5, qj 14 5 12 13, qa 15 5 14, qo 16 (.call false (.t 11) [(.t 15)])]
def f284r5 : List Abs.Op := [qm 17 5, qm 4 17]
def f284r6 : List Abs.Op := [qn 18 .add 8 1, qm 8 18]
def f_slices_IndexFunc_steam_Row_l7 : Abs.Cmd :=
  (.seq (.reg [0, 1, 7, 8, 9] f284r2) (.seq (.ite (.t 9) .nop (.exit 0)) (.seq (.blk 1 (.seq (.reg [0, 1, 5, 7, 8] f284r3) (.seq (.reg [0, 1, 5, 7, 8, 16] f284r4) (.ite (.t 16) (.seq (.reg [4] f284r5) .ret) .nop)))) (.reg [0, 1, 7, 8] f284r6))))

def f284r8 : List Abs.Op := [qi 4 (-1)]
def a_slices_IndexFunc_steam_Row : Ann := ⟨[(7, [4]), (6, [0, 1, 7, 8]), (5, [4]), (4, [0, 1, 5, 7, 8, 16]), (3, [0, 1, 5, 7, 8]), (2, [0, 1, 7, 8, 9]), (1, [0, 1, 7, 8]), (0, [0, 1])], [(0, [0, 1, 7, 8])], [], [], [], [], [], [], [], [], []⟩
def f_slices_IndexFunc_steam_Row : Abs.Fn := ⟨2, [.t 4],
  (.seq (.reg [0, 1] f284r0) (.seq (.seq (.reg [0, 1, 7, 8] f284r1) (.blk 0 (.loop [0, 1, 7, 8] false f_slices_IndexFunc_steam_Row_l7))) (.seq (.reg [4] f284r8) .ret)))⟩
theorem e_slices_IndexFunc_steam_Row_l7 : type_of% f_slices_IndexFunc_steam_Row_l7.eq_1 := by_rfl f_slices_IndexFunc_steam_Row_l7.eq_1
theorem e_slices_IndexFunc_steam_Row : type_of% f_slices_IndexFunc_steam_Row.eq_1 := by_rfl f_slices_IndexFunc_steam_Row.eq_1
theorem ok_slices_IndexFunc_steam_Row : fnC Tryz.prog a_slices_IndexFunc_steam_Row Tryz.f284 = some f_slices_IndexFunc_steam_Row := by kernel_rfl

/-! 285 slices.IndexFunc[[]fumarole/plant.Part,fumarole/plant.Part] -/
def f285r0 : List Abs.Op := [qi 4 0]
def f285r1 : List Abs.Op := [qm 6 0, qe 7 6, qi 8 0]
def f285r2 : List Abs.Op := [qk 9 .lss 8 7]
def f285r3 : List Abs.Op := [qm 10 8, qm 5 10]
def f285r4 : List Abs.Op := [qm 11 1, qm 12 0, qm 13 5, qj 14 2 12 13, qa 15 2 14, qo 16 (.call false (.t 11) [(.t 15)])]
def f285r5 : List Abs.Op := [qm 17 5, qm 4 17]
def f285r6 : List Abs.Op := [qn 18 .add 8 1, qm 8 18]
def f_slices_IndexFunc_plant_Part_l7 : Abs.Cmd :=
  (.seq (.reg [0, 1, 7, 8, 9] f285r2) (.seq (.ite (.t 9) .nop (.exit 0)) (.seq (.blk 1 (.seq (.reg [0, 1, 5, 7, 8] f285r3) (.seq (.reg [0, 1, 5, 7, 8, 16] f285r4) (.ite (.t 16) (.seq (.reg [4] f285r5) .ret) .nop)))) (.reg [0, 1, 7, 8] f285r6))))

def f285r8 : List Abs.Op := [qi 4 (-1)]
def a_slices_IndexFunc_plant_Part : Ann := ⟨[(7, [4]), (6, [0, 1, 7, 8]), (5, [4]), (4, [0, 1, 5, 7, 8, 16]), (3, [0, 1, 5, 7, 8]), (2, [0, 1, 7, 8, 9]), (1, [0, 1, 7, 8]), (0, [0, 1])], [(0, [0, 1, 7, 8])], [], [], [], [], [], [], [], [], []⟩
def f_slices_IndexFunc_plant_Part : Abs.Fn := ⟨2, [.t 4],
  (.seq (.reg [0, 1] f285r0) (.seq (.seq (.reg [0, 1, 7, 8] f285r1) (.blk 0 (.loop [0, 1, 7, 8] false f_slices_IndexFunc_plant_Part_l7))) (.seq (.reg [4] f285r8) .ret)))⟩
theorem e_slices_IndexFunc_plant_Part_l7 : type_of% f_slices_IndexFunc_plant_Part_l7.eq_1 := by_rfl f_slices_IndexFunc_plant_Part_l7.eq_1
theorem e_slices_IndexFunc_plant_Part : type_of% f_slices_IndexFunc_plant_Part.eq_1 := by_rfl f_slices_IndexFunc_plant_Part.eq_1
theorem ok_slices_IndexFunc_plant_Part : fnC Tryz.prog a_slices_IndexFunc_plant_Part Tryz.f285 = some f_slices_IndexFunc_plant_Part := by kernel_rfl

/-! 286 slices.IndexFunc[[]fumarole/steam.Stream,fumarole/steam.Stream] -/
def f286r0 : List Abs.Op := [qi 4 0]
def f286r1 : List Abs.Op := [qm 6 0, qe 7 6, qi 8 0]
def f286r2 : List Abs.Op := [qk 9 .lss 8 7]
def f286r3 : List Abs.Op := [qm 10 8, qm 5 10]
def f286r4 : List Abs.Op := [qm 11 1, qm 12 0, qm 13 5, qj 14 4 12 13, qa 15 4 14, qo 16 (.call false (.t 11) [(.t 15)])]
def f286r5 : List Abs.Op := [qm 17 5, qm 4 17]
def f286r6 : List Abs.Op := [qn 18 .add 8 1, qm 8 18]
def f_slices_IndexFunc_steam_Stream_l7 : Abs.Cmd :=
  (.seq (.reg [0, 1, 7, 8, 9] f286r2) (.seq (.ite (.t 9) .nop (.exit 0)) (.seq (.blk 1 (.seq (.reg [0, 1, 5, 7, 8] f286r3) (.seq (.reg [0, 1, 5, 7, 8, 16] f286r4) (.ite (.t 16) (.seq (.reg [4] f286r5) .ret) .nop)))) (.reg [0, 1, 7, 8] f286r6))))

def f286r8 : List Abs.Op := [qi 4 (-1)]
def a_slices_IndexFunc_steam_Stream : Ann := ⟨[(7, [4]), (6, [0, 1, 7, 8]), (5, [4]), (4, [0, 1, 5, 7, 8, 16]), (3, [0, 1, 5, 7, 8]), (2, [0, 1, 7, 8, 9]), (1, [0, 1, 7, 8]), (0, [0, 1])], [(0, [0, 1, 7, 8])], [], [], [], [], [], [], [], [], []⟩
def f_slices_IndexFunc_steam_Stream : Abs.Fn := ⟨2, [.t 4],
  (.seq (.reg [0, 1] f286r0) (.seq (.seq (.reg [0, 1, 7, 8] f286r1) (.blk 0 (.loop [0, 1, 7, 8] false f_slices_IndexFunc_steam_Stream_l7))) (.seq (.reg [4] f286r8) .ret)))⟩
theorem e_slices_IndexFunc_steam_Stream_l7 : type_of% f_slices_IndexFunc_steam_Stream_l7.eq_1 := by_rfl f_slices_IndexFunc_steam_Stream_l7.eq_1
theorem e_slices_IndexFunc_steam_Stream : type_of% f_slices_IndexFunc_steam_Stream.eq_1 := by_rfl f_slices_IndexFunc_steam_Stream.eq_1
theorem ok_slices_IndexFunc_steam_Stream : fnC Tryz.prog a_slices_IndexFunc_steam_Stream Tryz.f286 = some f_slices_IndexFunc_steam_Stream := by kernel_rfl

/-! 288 (*fumarole/logbook.book).field -/
def f288r0 : List Abs.Op := [qm 7 0, qo 8 (.nck (.t 7)), qf 9 0 8, qf 10 0 9, qf 11 0 10, qa 12 4 11, qo 13 (.bld [(.int .i64 0), (.int .i64 0), (.int .i64 0), (.int .i64 0)] []), qo 14 (.eqv true [some .i64, some .i64, some .i64, some .i64] false (.t 12) (.t 13))]
def f288r1 : List Abs.Op := []
def f288r2 : List Abs.Op := [qM 16 2, qO 17 (.idxS 1 (.t 16) (.c (.int .i64 0))), qL 18 1 17, qM 19 2, qO 20 (.idxS 1 (.t 19) (.c (.int .i64 1))), qL 21 1 20, qM 22 2, qO 23 (.idxS 1 (.t 22) (.c (.int .i64 2))), qL 24 1 23, qM 25 2, qO 26 (.idxS 1 (.t 25) (.c (.int .i64 3))), qL 27 1 26, qO 28 (.bld [(.int .i64 0), (.int .i64 0), (.int .i64 0), (.int .i64 0)] [(0, 1, (.t 18)), (1, 1, (.t 21)), (2, 1, (.t 24)), (3, 1, (.t 27))]), qO 6 (.alcv [] [(.int .i64 0), (.int .i64 0), (.int .i64 0), (.int .i64 0)]), qs 6 4 6 28]
def f288r3 : List Abs.Op := [qw 29 6 4 6, qc 30 i_field_CheckField [29], qn 31 .eql 30 0, qm 32 31, qg 32 true (qf 33 3 6), qg 32 true (qv 34 6 1 33), qg 32 true (qn 35 .geq 34 4), qp 36 32 35]
def f288r4 : List Abs.Op := []
def f288r5 : List Abs.Op := [qm 38 0, qw 39 6 4 6, qo 40 (.nck (.t 38)), qf 41 0 40, qf 42 0 41, qf 43 0 42, qt 4 43 39]
def a_logbook_book_field : Ann := ⟨[(3, []), (2, [0, 6]), (1, [0, 6]), (0, [0, 2])], [], [], [0, 6], [6], [], [], [], [], [], [(0, some 8), (2, some 8)]⟩
def f_logbook_book_field : Abs.Fn := ⟨3, [],
  (.seq (.treg [0, 2] f288r0 ⟨some 15, none, false, .call false (.c (.fn i_logbook_ask [] [])) [(.t 14), (.c (.int .i64 8))]⟩ f288r1) (.seq (.reg [0, 6] f288r2) (.seq (.treg [0, 6] f288r3 ⟨some 37, none, false, .call false (.c (.fn i_logbook_ask [] [])) [(.t 36), (.c (.int .i64 1))]⟩ f288r4) (.reg [] f288r5))))⟩
theorem e_logbook_book_field : type_of% f_logbook_book_field.eq_1 := by_rfl f_logbook_book_field.eq_1
theorem ok_logbook_book_field : fnC Tryz.prog a_logbook_book_field Tryz.f288 = some f_logbook_book_field := by kernel_rfl

/-! 289 (*fumarole/logbook.book).table -/
def f289r0 : List Abs.Op := [qm 7 0, qo 8 (.nck (.t 7)), qf 9 0 8, qf 10 0 9, qf 11 4 10, ql 12 1 11, qe 13 12, qn 14 .eql 13 0]
def f289r1 : List Abs.Op := []
def f289r2 : List Abs.Op := [qo 6 (.nilb 5)]
def f289r3 : List Abs.Op := [qm 16 2, qe 17 16, qn 18 .gtr 17 0]
def f289r4 : List Abs.Op := [qM 21 6, qM 22 2, qO 23 (.idxS 1 (.t 22) (.c (.int .i64 0))), qL 24 1 23, qM 25 2, qO 26 (.idxS 1 (.t 25) (.c (.int .i64 1))), qL 27 1 26, qM 28 2, qO 29 (.idxS 1 (.t 28) (.c (.int .i64 2))), qL 30 1 29, qM 31 2, qO 32 (.idxS 1 (.t 31) (.c (.int .i64 3))), qL 33 1 32, qM 34 2, qO 35 (.idxS 1 (.t 34) (.c (.int .i64 4))), qL 36 1 35, qO 37 (.bld [(.int .i64 0), (.int .i64 0), (.int .i64 0), (.int .i64 0), (.int .i64 0)] [(0, 1, (.t 24)), (1, 1, (.t 27)), (2, 1, (.t 30)), (3, 1, (.t 33)), (4, 1, (.t 36))]), qO 38 (.bsi 1 5 [(.int .i64 0), (.int .i64 0), (.int .i64 0), (.int .i64 0), (.int .i64 0)] [(0, 5, (.t 37))]), qy 39 5 40 21 38, qm 6 39]
def f289r5 : List Abs.Op := [qm 19 2, qo 20 (.slc 1 (.t 19) (some (.c (.int .i64 5))) none none), qm 2 20]
def f_logbook_book_table_l6 : Abs.Cmd :=
  (.seq (.seq (.reg [0, 2, 6, 18] f289r3) (.ite (.t 18) .nop (.exit 0))) (.seq (.blk 1 (.reg [0, 2, 6] f289r4)) (.reg [0, 2, 6] f289r5)))

def f289r7 : List Abs.Op := [qm 40 6, qc 41 i_steam_CheckTable [40]]
def f289r8 : List Abs.Op := []
def f289r9 : List Abs.Op := [qm 43 0, qm 44 6, qo 45 (.nck (.t 43)), qf 46 0 45, qf 47 0 46, qf 48 4 47, qt 1 48 44]
def a_logbook_book_table : Ann := ⟨[(6, []), (5, [0, 6]), (3, [0, 2, 6]), (4, [0, 2, 6]), (2, [0, 2, 6, 18]), (1, [0, 2, 6]), (0, [0, 2])], [(0, [0, 2, 6])], [], [0, 6], [], [], [], [(5, [6])], [], [], [(0, some 8), (5, some 2)]⟩
def f_logbook_book_table : Abs.Fn := ⟨3, [],
  (.seq (.treg [0, 2] f289r0 ⟨some 15, none, false, .call false (.c (.fn i_logbook_ask [] [])) [(.t 14), (.c (.int .i64 8))]⟩ f289r1) (.seq (.reg [0, 2, 6] f289r2) (.seq (.blk 0 (.loop [0, 2, 6] false f_logbook_book_table_l6)) (.seq (.seq (.frz [6]) (.treg [0, 6] f289r7 ⟨some 42, none, false, .call false (.c (.fn i_logbook_must [] [])) [(.t 41)]⟩ f289r8)) (.reg [] f289r9)))))⟩
theorem e_logbook_book_table_l6 : type_of% f_logbook_book_table_l6.eq_1 := by_rfl f_logbook_book_table_l6.eq_1
theorem e_logbook_book_table : type_of% f_logbook_book_table.eq_1 := by_rfl f_logbook_book_table.eq_1
theorem ok_logbook_book_table : fnC Tryz.prog a_logbook_book_table Tryz.f289 = some f_logbook_book_table := by kernel_rfl

/-! 290 (*fumarole/logbook.book).bed -/
def f290r0 : List Abs.Op := [qm 7 0, qo 8 (.nck (.t 7)), qf 9 0 8, qf 10 0 9, qf 11 0 10, qa 12 4 11, qo 13 (.bld [(.int .i64 0), (.int .i64 0), (.int .i64 0), (.int .i64 0)] []), qo 14 (.eqv true [some .i64, some .i64, some .i64, some .i64] true (.t 12) (.t 13)), qm 15 14, qg 15 true (qm 16 0), qg 15 true (qo 17 (.nck (.t 16))), qg 15 true (qf 18 0 17), qg 15 true (qf 19 0 18), qg 15 true (qf 20 4 19), qg 15 true (ql 21 1 20), qg 15 true (qe 22 21), qg 15 true (qn 23 .gtr 22 0), qp 24 15 23, qm 25 24, qg 25 true (qm 26 0), qg 25 true (qo 27 (.nck (.t 26))), qg 25 true (qf 28 18 27), qg 25 true (ql 29 1 28), qg 25 true (qu 30 29), qp 31 25 30]
def f290r1 : List Abs.Op := []
def f290r2 : List Abs.Op := [qm 33 0, qo 34 (.nck (.t 33)), qf 35 0 34, qf 36 0 35, qa 37 9 36, qo 6 (.alcv [] [(.int .i64 0), (.int .i64 0), (.int .i64 0), (.int .i64 0), .nils, (.int .i64 0), (.int .i64 0), (.int .i64 0), .nils]), qs 6 9 6 37]
def f290r3 : List Abs.Op := [qM 38 2, qO 39 (.idxS 1 (.t 38) (.c (.int .i64 0))), qL 40 1 39, qM 41 2, qO 42 (.idxS 1 (.t 41) (.c (.int .i64 1))), qL 43 1 42, qM 44 2, qO 45 (.idxS 1 (.t 44) (.c (.int .i64 2))), qL 46 1 45, qF 47 5 6, qS 6 1 47 40, qF 48 6 6, qS 6 1 48 43, qf 49 7 6, qs 6 1 49 46]
def f290r4 : List Abs.Op := [qw 50 6 9 6, qc 51 i_rock_CheckBed [50]]
def f290r5 : List Abs.Op := []
def f290r6 : List Abs.Op := [qm 53 0, qm 54 0, qw 55 6 9 6, qo 56 (.nck (.t 53)), qf 57 0 56, qf 58 0 57, qt 9 58 55, qo 59 (.nck (.t 54)), qf 60 18 59, ⟨none, none, false, .st [] 1 (.t 60) (.c (.bool true))⟩]
def a_logbook_book_bed : Ann := ⟨[(4, []), (3, [0, 6]), (2, [0, 6]), (1, [0, 2, 6]), (0, [0, 2])], [], [], [0, 6], [6], [], [], [], [], [], [(0, some 25), (3, some 2)]⟩
def f_logbook_book_bed : Abs.Fn := ⟨3, [],
  (.seq (.treg [0, 2] f290r0 ⟨some 32, none, false, .call false (.c (.fn i_logbook_ask [] [])) [(.t 31), (.c (.int .i64 8))]⟩ f290r1) (.seq (.reg [0, 2, 6] f290r2) (.seq (.reg [0, 6] f290r3) (.seq (.treg [0, 6] f290r4 ⟨some 52, none, false, .call false (.c (.fn i_logbook_must [] [])) [(.t 51)]⟩ f290r5) (.reg [] f290r6)))))⟩
theorem e_logbook_book_bed : type_of% f_logbook_book_bed.eq_1 := by_rfl f_logbook_book_bed.eq_1
theorem ok_logbook_book_bed : fnC Tryz.prog a_logbook_book_bed Tryz.f290 = some f_logbook_book_bed := by kernel_rfl

/-! 291 (*fumarole/logbook.book).well -/
def f291r0 : List Abs.Op := [qm 7 0, qo 8 (.nck (.t 7)), qf 9 18 8, ql 10 1 9, qm 11 10, qg 11 true (qm 12 0), qg 11 true (qo 13 (.nck (.t 12))), qg 11 true (qf 14 0 13), qg 11 true (qf 15 9 14), qg 11 true (ql 16 1 15), qg 11 true (qe 17 16), qg 11 true (qn 18 .eql 17 0), qp 19 11 18]
def f291r1 : List Abs.Op := []
def f291r2 : List Abs.Op := [qm 21 0, qo 22 (.nck (.t 21)), qf 23 0 22, qf 24 0 23, qa 25 9 24, qo 6 (.alcv [] [(.int .i64 0), (.int .i64 0), (.int .i64 0), (.int .i64 0), .nils, (.int .i64 0), (.int .i64 0), (.int .i64 0), .nils]), qs 6 9 6 25]
def f291r3 : List Abs.Op := [qF 26 8 6, qV 27 6 1 26, qo 28 (.call true (.c (.fn i_slices_Clone_rock_Bore [] [])) [(.t 27)]), qM 29 2, qO 30 (.idxS 1 (.t 29) (.c (.int .i64 0))), qO 31 (.ldi false 1 (.t 30)), qM 32 2, qO 33 (.idxS 1 (.t 32) (.c (.int .i64 1))), qO 34 (.ldi false 1 (.t 33)), qM 35 2, qO 36 (.idxS 1 (.t 35) (.c (.int .i64 2))), qO 37 (.ldi false 1 (.t 36)), qO 38 (.bld [(.int .i64 0), (.int .i64 0), (.int .i64 0)] [(0, 1, (.t 31)), (1, 1, (.t 34)), (2, 1, (.t 37))]), qO 39 (.bsi 1 3 [(.int .i64 0), (.int .i64 0), (.int .i64 0)] [(0, 3, (.t 38))]), qy 40 3 24 28 39, qf 41 8 6, qs 6 1 41 40]
def f291r4 : List Abs.Op := [qw 42 6 9 6, qc 43 i_rock_CheckBed [42]]
def f291r5 : List Abs.Op := []
def f291r6 : List Abs.Op := [qm 45 0, qw 46 6 9 6, qo 47 (.nck (.t 45)), qf 48 0 47, qf 49 0 48, qt 9 49 46]
def a_logbook_book_well : Ann := ⟨[(4, []), (3, [0, 6]), (2, [0, 6]), (1, [0, 2, 6]), (0, [0, 2])], [], [], [0, 6], [6], [], [2002], [(3, [6])], [29, 32, 35], [], [(0, some 13), (3, some 2)]⟩
def f_logbook_book_well : Abs.Fn := ⟨3, [],
  (.seq (.treg [0, 2] f291r0 ⟨some 20, none, false, .call false (.c (.fn i_logbook_ask [] [])) [(.t 19), (.c (.int .i64 8))]⟩ f291r1) (.seq (.reg [0, 2, 6] f291r2) (.seq (.reg [0, 6] f291r3) (.seq (.seq (.frz [6]) (.treg [0, 6] f291r4 ⟨some 44, none, false, .call false (.c (.fn i_logbook_must [] [])) [(.t 43)]⟩ f291r5)) (.reg [] f291r6)))))⟩
theorem e_logbook_book_well : type_of% f_logbook_book_well.eq_1 := by_rfl f_logbook_book_well.eq_1
theorem ok_logbook_book_well : fnC Tryz.prog a_logbook_book_well Tryz.f291 = some f_logbook_book_well := by kernel_rfl

/-! 292 (*fumarole/logbook.book).model -/
def f292r0 : List Abs.Op := [qx 4 1]
def f292r1 : List Abs.Op := [qm 9 0, qo 10 (.nck (.t 9)), qf 11 18 10, ql 12 1 11, qm 13 12, qg 13 true (qm 14 0), qg 13 true (qo 15 (.nck (.t 14))), qg 13 true (qf 16 0 15), qg 13 true (qf 17 10 16), qg 13 true (ql 18 1 17), qg 13 true (qe 19 18), qg 13 true (qn 20 .eql 19 0), qp 21 13 20]
def f292r2 : List Abs.Op := []
def f292r3 : List Abs.Op := [qm 23 0, qo 24 (.nck (.t 23)), qf 25 0 24, qf 26 9 25, ql 27 1 26, qo 28 (.mkf i_logbook_book_model_1 [] [(.t 4)]), qc 29 i_slices_ContainsFunc_logbook_Entry [27, 28], qu 30 29]
def f292r4 : List Abs.Op := []
def f292r5 : List Abs.Op := [qm 32 0, qo 33 (.nck (.t 32)), qf 34 0 33, qf 35 9 34, ql 36 1 35, qe 37 36, qn 38 .lss 37 40]
def f292r6 : List Abs.Op := []
def f292r7 : List Abs.Op := [qo 40 (.ldi false 1 (.t 4)), qm 41 2, qo 42 (.bld [(.str []), .nils] [(0, 1, (.t 40)), (1, 1, (.t 41))]), qo 6 (.alcv [] [(.str []), .nils]), qs 6 2 6 42]
def f292r8 : List Abs.Op := [qM 44 0, qO 45 (.nck (.t 44)), qF 46 0 45, qF 47 0 46, qA 48 9 47, qW 49 6 2 6, qC 50 i_rock_Start [48, 49], qM 43 50, qZ 51 43 0, qZ 52 43 1, qM 7 51, qm 8 52]
def f292r9 : List Abs.Op := [qm 53 8]
def f292r10 : List Abs.Op := []
def f292r11 : List Abs.Op := [qM 55 0, qM 56 0, qM 57 0, qO 58 (.nck (.t 57)), qF 59 0 58, qF 60 9 59, qL 61 1 60, qW 62 6 2 6, qO 63 (.bld [(.str []), .nils, (.bool false), (.int .i64 0)] [(0, 2, (.t 62)), (2, 1, (.c (.bool true))), (3, 1, (.c (.int .i64 0)))]), qO 64 (.bsi 1 4 [(.str []), .nils, (.bool false), (.int .i64 0)] [(0, 4, (.t 63))]), qO 65 (.apc [] 4 56 (.t 61) (.t 64)), qM 66 0, qO 67 (.nck (.t 66)), qF 68 19 67, qO 69 (.ld0 false 1 (.t 68)), qO 70 (.bld [(.int .i64 0), (.int .i64 0), (.int .i64 0), (.int .i64 0)] []), qO 71 (.bsi 1 4 [(.int .i64 0), (.int .i64 0), (.int .i64 0), (.int .i64 0)] [(0, 4, (.t 70))]), qO 72 (.app 4 32 (.t 69) (.t 71)), qO 73 (.nck (.t 55)), qF 74 0 73, qF 75 9 74, ⟨none, none, true, .st [(0, 4), (10, 4)] 1 (.t 75) (.t 65)⟩, qo 76 (.nck (.t 56)), qf 77 19 76, ⟨none, none, false, .st [(0, 4)] 1 (.t 77) (.t 72)⟩]
def a_logbook_book_model : Ann := ⟨[(7, []), (6, [0, 6]), (5, [0, 6, 8]), (4, [0, 6]), (3, [0, 2, 4]), (2, [0, 2, 4]), (1, [0, 2, 4]), (0, [0, 2, 4])], [], [], [0, 6], [6], [(7021, [(0, 4), (10, 4)]), (7024, [(0, 4)])], [3007014], [], [4], [(7010, some [])], [(1, some 13), (2, some 8), (3, some 7), (6, some 1)]⟩
def f_logbook_book_model : Abs.Fn := ⟨3, [],
  (.seq (.reg [0, 2, 4] f292r0) (.seq (.treg [0, 2, 4] f292r1 ⟨some 22, none, false, .call false (.c (.fn i_logbook_ask [] [])) [(.t 21), (.c (.int .i64 8))]⟩ f292r2) (.seq (.treg [0, 2, 4] f292r3 ⟨some 31, none, false, .call false (.c (.fn i_logbook_ask [] [])) [(.t 30), (.c (.int .i64 6))]⟩ f292r4) (.seq (.treg [0, 2, 4] f292r5 ⟨some 39, none, false, .call false (.c (.fn i_logbook_ask [] [])) [(.t 38), (.c (.int .i64 3))]⟩ f292r6) (.seq (.reg [0, 6] f292r7) (.seq (.reg [0, 6, 8] f292r8) (.seq (.treg [0, 6] f292r9 ⟨some 54, none, false, .call false (.c (.fn i_logbook_must [] [])) [(.t 53)]⟩ f292r10) (.reg [] f292r11))))))))⟩
theorem e_logbook_book_model : type_of% f_logbook_book_model.eq_1 := by_rfl f_logbook_book_model.eq_1
theorem ok_logbook_book_model : fnC Tryz.prog a_logbook_book_model Tryz.f292 = some f_logbook_book_model := by kernel_rfl

/-! 293 (*fumarole/logbook.book).log -/
def f293r0 : List Abs.Op := [qx 3 0]
def f293r1 : List Abs.Op := [ql 9 1 3, qo 10 (.nck (.t 9)), qf 11 0 10, qf 12 9 11, ql 13 1 12, qe 14 13, qn 15 .gtr 14 0]
def f293r2 : List Abs.Op := []
def f293r3 : List Abs.Op := [qM 17 1, qM 18 2, qO 19 (.idxS 1 (.t 18) (.c (.int .i64 0))), qL 20 1 19, qM 21 2, qO 22 (.idxS 1 (.t 21) (.c (.int .i64 1))), qL 23 1 22, qM 24 2, qO 25 (.idxS 1 (.t 24) (.c (.int .i64 2))), qL 26 1 25, qO 27 (.bld [(.int .i64 0), (.int .i64 0)] [(0, 1, (.t 23)), (1, 1, (.t 26))]), qO 28 (.bld [(.str []), (.int .i64 0), .nils, .nils, (.int .i64 0), (.int .i64 0)] [(0, 1, (.t 17)), (1, 1, (.t 20)), (4, 2, (.t 27))]), qO 6 (.alc [] [(.str []), (.int .i64 0), .nils, .nils, (.int .i64 0), (.int .i64 0)]), ⟨none, none, false, .st [(2, 1), (3, 1)] 6 (.t 6) (.t 28)⟩]
def f293r4 : List Abs.Op := [qm 29 2, qo 30 (.slc 1 (.t 29) (some (.c (.int .i64 3))) none none), qe 31 30, qi 32 0]
def f293r5 : List Abs.Op := [qk 33 .lss 32 31]
def f293r6 : List Abs.Op := [qm 34 32, qj 35 1 30 32, ql 36 1 35, qm 7 34, qm 8 36]
def f293r7 : List Abs.Op := [qm 37 7, qn 38 .rem 37 2, qn 39 .eql 38 0]
def f293r8 : List Abs.Op := [qf 40 2 6, ql 41 1 40, qm 42 8, qo 43 (.bsi 1 1 [(.int .i64 0)] [(0, 1, (.t 42))]), qy 44 1 8 41 43, qf 45 2 6, ⟨none, none, false, .st [(0, 1), (1, 1)] 1 (.t 45) (.t 44)⟩]
def f293r9 : List Abs.Op := [qf 46 3 6, ql 47 1 46, qm 48 8, qo 49 (.bsi 1 1 [(.int .i64 0)] [(0, 1, (.t 48))]), qy 50 1 8 47 49, qf 51 3 6, ⟨none, none, false, .st [(0, 1)] 1 (.t 51) (.t 50)⟩]
def f293r10 : List Abs.Op := [qn 52 .add 32 1, qm 32 52]
def f_logbook_book_log_l11 : Abs.Cmd :=
  (.seq (.reg [2, 3, 6, 30, 31, 32, 33] f293r5) (.seq (.ite (.t 33) .nop (.exit 0)) (.seq (.blk 1 (.seq (.reg [2, 3, 6, 7, 8, 30, 31, 32] f293r6) (.seq (.reg [2, 3, 6, 8, 30, 31, 32, 39] f293r7) (.ite (.t 39) (.reg [2, 3, 6, 30, 31, 32] f293r8) (.reg [2, 3, 6, 30, 31, 32] f293r9))))) (.reg [2, 3, 6, 30, 31, 32] f293r10))))

def f293r12 : List Abs.Op := [qL 53 1 3, qO 54 (.nck (.t 53)), qF 55 0 54, qF 56 0 55, qF 57 0 56, qA 58 4 57, qA 59 6 6, qO 60 (.bsi 1 6 [(.str []), (.int .i64 0), .nils, .nils, (.int .i64 0), (.int .i64 0)] [(0, 6, (.t 59))]), qc 61 i_field_CheckMeasures [58, 60]]
def f293r13 : List Abs.Op := []
def f293r14 : List Abs.Op := [qL 63 1 3, qM 64 2, qO 65 (.idxS 1 (.t 64) (.c (.int .i64 1))), qL 66 1 65, qM 67 2, qO 68 (.idxS 1 (.t 67) (.c (.int .i64 2))), qL 69 1 68, qO 70 (.bld [(.int .i64 0), (.int .i64 0)] [(0, 1, (.t 66)), (1, 1, (.t 69))]), qO 71 (.mkf i_logbook_book_log_1 [] [(.t 3), (.t 6)]), qc 72 i_logbook_book_strike [63, 70, 71]]
def a_logbook_book_log : Ann := ⟨[(11, []), (10, [2, 3, 6]), (9, [2, 3, 6, 30, 31, 32]), (7, [2, 3, 6, 30, 31, 32]), (8, [2, 3, 6, 30, 31, 32]), (6, [2, 3, 6, 8, 30, 31, 32, 39]), (5, [2, 3, 6, 7, 8, 30, 31, 32]), (4, [2, 3, 6, 30, 31, 32, 33]), (3, [2, 3, 6, 30, 31, 32]), (2, [2, 3, 6]), (1, [1, 2, 3]), (0, [1, 2, 3])], [(0, [2, 3, 6, 30, 31, 32])], [], [6], [], [(2013, [(2, 1), (3, 1)]), (7006, [(0, 1), (1, 1)]), (8006, [(0, 1)])], [], [(10, [1000006])], [], [], [(1, some 7), (10, some 9)]⟩
def f_logbook_book_log : Abs.Fn := ⟨3, [],
  (.seq (.reg [1, 2, 3] f293r0) (.seq (.treg [1, 2, 3] f293r1 ⟨some 16, none, false, .call false (.c (.fn i_logbook_ask [] [])) [(.t 15), (.c (.int .i64 8))]⟩ f293r2) (.seq (.reg [2, 3, 6] f293r3) (.seq (.seq (.reg [2, 3, 6, 30, 31, 32] f293r4) (.blk 0 (.loop [2, 3, 6, 30, 31, 32] false f_logbook_book_log_l11))) (.seq (.seq (.frz [1000006]) (.treg [2, 3, 6] f293r12 ⟨some 62, none, false, .call false (.c (.fn i_logbook_must [] [])) [(.t 61)]⟩ f293r13)) (.reg [] f293r14))))))⟩
theorem e_logbook_book_log_l11 : type_of% f_logbook_book_log_l11.eq_1 := by_rfl f_logbook_book_log_l11.eq_1
theorem e_logbook_book_log : type_of% f_logbook_book_log.eq_1 := by_rfl f_logbook_book_log.eq_1
theorem ok_logbook_book_log : fnC Tryz.prog a_logbook_book_log Tryz.f293 = some f_logbook_book_log := by kernel_rfl

/-! 294 (*fumarole/logbook.book).rule -/
def f294r0 : List Abs.Op := [qm 10 0, qo 11 (.nck (.t 10)), qf 12 0 11, qf 13 11 12, ql 14 1 13, qe 15 14, qn 16 .lss 15 20]
def f294r1 : List Abs.Op := []
def f294r2 : List Abs.Op := [qm 18 2, qo 19 (.idxS 1 (.t 18) (.c (.int .i64 9))), ql 20 1 19, qo 21 (.call false (.c (.fn i_logbook_within [] [])) [(.t 20), (.c (.int .i64 1)), (.c (.int .i64 2))])]
def f294r3 : List Abs.Op := []
def f294r4 : List Abs.Op := [qM 23 2, qO 24 (.idxS 1 (.t 23) (.c (.int .i64 0))), qL 25 1 24, qM 26 2, qO 27 (.idxS 1 (.t 26) (.c (.int .i64 1))), qL 28 1 27, qM 29 2, qO 30 (.idxS 1 (.t 29) (.c (.int .i64 2))), qL 31 1 30, qO 32 (.bld [(.int .i64 0), (.int .i64 0), (.int .i64 0)] [(0, 1, (.t 25)), (1, 1, (.t 28)), (2, 1, (.t 31))]), qM 33 2, qO 34 (.idxS 1 (.t 33) (.c (.int .i64 3))), qL 35 1 34, qM 36 2, qO 37 (.idxS 1 (.t 36) (.c (.int .i64 4))), qL 38 1 37, qM 39 2, qO 40 (.idxS 1 (.t 39) (.c (.int .i64 5))), qL 41 1 40, qO 42 (.bld [(.int .i64 0), (.int .i64 0), (.int .i64 0)] [(0, 1, (.t 35)), (1, 1, (.t 38)), (2, 1, (.t 41))]), qM 43 2, qO 44 (.idxS 1 (.t 43) (.c (.int .i64 6))), qL 45 1 44, qM 46 2, qO 47 (.idxS 1 (.t 46) (.c (.int .i64 7))), qL 48 1 47, qM 49 2, qO 50 (.idxS 1 (.t 49) (.c (.int .i64 8))), qL 51 1 50, qM 52 2, qO 53 (.idxS 1 (.t 52) (.c (.int .i64 9))), qL 54 1 53, qO 55 (.cvt .u8 (.t 54)), qO 56 (.bld [(.int .i64 0), (.int .i64 0), (.int .i64 0), (.int .i64 0), (.int .i64 0), (.int .i64 0), (.int .i64 0), (.int .i64 0), (.int .i64 0), (.int .u8 0)] [(0, 3, (.t 32)), (3, 3, (.t 42)), (6, 1, (.t 45)), (7, 1, (.t 48)), (8, 1, (.t 51)), (9, 1, (.t 55))]), qO 6 (.alcv [] [(.int .i64 0), (.int .i64 0), (.int .i64 0), (.int .i64 0), (.int .i64 0), (.int .i64 0), (.int .i64 0), (.int .i64 0), (.int .i64 0), (.int .u8 0)]), qs 6 10 6 56]
def f294r5 : List Abs.Op := [qw 58 6 10 6, qo 59 (.bsi 1 10 [(.int .i64 0), (.int .i64 0), (.int .i64 0), (.int .i64 0), (.int .i64 0), (.int .i64 0), (.int .i64 0), (.int .i64 0), (.int .i64 0), (.int .u8 0)] [(0, 10, (.t 58))]), qo 60 (.call false (.c (.fn i_tremor_Light [] [])) [(.t 59), (.c .nils), (.c (.int .i64 0))]), qm 57 60, qz 61 57 0, qz 62 57 1, qz 63 57 2, qm 7 61, qm 8 62, qm 9 63]
def f294r6 : List Abs.Op := [qm 64 9]
def f294r7 : List Abs.Op := []
def f294r8 : List Abs.Op := [qM 66 0, qM 67 0, qO 68 (.nck (.t 67)), qF 69 0 68, qF 70 11 69, qL 71 1 70, qW 72 6 10 6, qO 73 (.bsi 1 10 [(.int .i64 0), (.int .i64 0), (.int .i64 0), (.int .i64 0), (.int .i64 0), (.int .i64 0), (.int .i64 0), (.int .i64 0), (.int .i64 0), (.int .u8 0)] [(0, 10, (.t 72))]), qO 74 (.app 10 80 (.t 71) (.t 73)), qo 75 (.nck (.t 66)), qf 76 0 75, qf 77 11 76, ⟨none, none, false, .st [(0, 10)] 1 (.t 77) (.t 74)⟩]
def a_logbook_book_rule : Ann := ⟨[(5, []), (4, [0, 6]), (3, [0, 6, 9]), (2, [0, 6]), (1, [0, 2]), (0, [0, 2])], [], [], [0, 6], [6], [(5012, [(0, 10)])], [], [], [], [], [(0, some 7), (1, some 4), (4, some 1)]⟩
def f_logbook_book_rule : Abs.Fn := ⟨3, [],
  (.seq (.treg [0, 2] f294r0 ⟨some 17, none, false, .call false (.c (.fn i_logbook_ask [] [])) [(.t 16), (.c (.int .i64 3))]⟩ f294r1) (.seq (.treg [0, 2] f294r2 ⟨some 22, none, false, .call false (.c (.fn i_logbook_ask [] [])) [(.t 21), (.c (.int .i64 1))]⟩ f294r3) (.seq (.reg [0, 6] f294r4) (.seq (.reg [0, 6, 9] f294r5) (.seq (.treg [0, 6] f294r6 ⟨some 65, none, false, .call false (.c (.fn i_logbook_must [] [])) [(.t 64)]⟩ f294r7) (.reg [] f294r8))))))⟩
theorem e_logbook_book_rule : type_of% f_logbook_book_rule.eq_1 := by_rfl f_logbook_book_rule.eq_1
theorem ok_logbook_book_rule : fnC Tryz.prog a_logbook_book_rule Tryz.f294 = some f_logbook_book_rule := by kernel_rfl

/-! 295 (*fumarole/logbook.book).keep -/
def f295r0 : List Abs.Op := [qm 9 2, qo 10 (.me (.s2a 3 1) [(.t 9)]), qa 11 3 10, qo 12 (.call false (.c (.fn i_tremor_Inject [] [])) [(.c .nils), (.c .nils), (.t 11), (.c (.int .i64 0))]), qm 8 12, qz 13 8 0, qz 14 8 1, qm 6 13, qm 7 14]
def f295r1 : List Abs.Op := [qm 15 7]
def f295r2 : List Abs.Op := []
def f295r3 : List Abs.Op := [qm 17 0, qm 18 2, qo 19 (.me (.s2a 3 1) [(.t 18)]), qa 20 3 19, qo 21 (.nck (.t 17)), qf 22 0 21, qf 23 13 22, qt 3 23 20]
def a_logbook_book_keep : Ann := ⟨[(2, []), (1, [0, 2]), (0, [0, 2, 7])], [], [], [0], [], [], [], [], [], [], [(1, some 1)]⟩
def f_logbook_book_keep : Abs.Fn := ⟨3, [],
  (.seq (.reg [0, 2, 7] f295r0) (.seq (.treg [0, 2] f295r1 ⟨some 16, none, false, .call false (.c (.fn i_logbook_must [] [])) [(.t 15)]⟩ f295r2) (.reg [] f295r3)))⟩
theorem e_logbook_book_keep : type_of% f_logbook_book_keep.eq_1 := by_rfl f_logbook_book_keep.eq_1
theorem ok_logbook_book_keep : fnC Tryz.prog a_logbook_book_keep Tryz.f295 = some f_logbook_book_keep := by kernel_rfl

/-! 296 (*fumarole/logbook.book).quake -/
def f296r0 : List Abs.Op := [qm 10 0, qo 11 (.nck (.t 10)), qf 12 0 11, qf 13 12 12, ql 14 1 13, qe 15 14, qn 16 .lss 15 200]
def f296r1 : List Abs.Op := []
def f296r2 : List Abs.Op := [qm 18 0, qo 19 (.nck (.t 18)), qf 20 0 19, qf 21 10 20, ql 22 1 21, qe 23 22, qo 24 (.bld [(.int .i64 0), .nils] [(0, 1, (.t 23))]), qo 6 (.alcv [] [(.int .i64 0), .nils]), ⟨none, none, false, .stv 6 [(1, 4)] 2 6 (.t 24)⟩]
def f296r3 : List Abs.Op := [qm 25 2, qe 26 25, qn 27 .gtr 26 0]
def f296r4 : List Abs.Op := [qF 30 1 6, qV 31 6 1 30, qM 32 2, qO 33 (.idxS 1 (.t 32) (.c (.int .i64 0))), qL 34 1 33, qM 35 2, qO 36 (.idxS 1 (.t 35) (.c (.int .i64 1))), qL 37 1 36, qM 38 2, qO 39 (.idxS 1 (.t 38) (.c (.int .i64 2))), qL 40 1 39, qO 41 (.bld [(.int .i64 0), (.int .i64 0), (.int .i64 0)] [(0, 1, (.t 34)), (1, 1, (.t 37)), (2, 1, (.t 40))]), qM 42 2, qO 43 (.idxS 1 (.t 42) (.c (.int .i64 3))), qL 44 1 43, qO 45 (.bld [(.int .i64 0), (.int .i64 0), (.int .i64 0), (.int .i64 0)] [(0, 3, (.t 41)), (3, 1, (.t 44))]), qO 46 (.bsi 1 4 [(.int .i64 0), (.int .i64 0), (.int .i64 0), (.int .i64 0)] [(0, 4, (.t 45))]), qy 47 4 32 31 46, qf 48 1 6, ⟨none, none, false, .stv 6 [(0, 4)] 1 48 (.t 47)⟩]
def f296r5 : List Abs.Op := [qm 28 2, qo 29 (.slc 1 (.t 28) (some (.c (.int .i64 4))) none none), qm 2 29]
def f_logbook_book_quake_l6 : Abs.Cmd :=
  (.seq (.seq (.reg [0, 2, 6, 27] f296r3) (.ite (.t 27) .nop (.exit 0))) (.seq (.blk 1 (.reg [0, 2, 6] f296r4)) (.reg [0, 2, 6] f296r5)))

def f296r7 : List Abs.Op := [qw 50 6 2 6, qo 51 (.bsi 1 2 [(.int .i64 0), .nils] [(0, 2, (.t 50))]), qo 52 (.call false (.c (.fn i_tremor_Light [] [])) [(.c .nils), (.t 51), (.c (.int .i64 0))]), qm 49 52, qz 53 49 0, qz 54 49 1, qz 55 49 2, qm 7 53, qm 8 54, qm 9 55]
def f296r8 : List Abs.Op := [qm 56 9]
def f296r9 : List Abs.Op := []
def f296r10 : List Abs.Op := [qM 58 0, qM 59 0, qO 60 (.nck (.t 59)), qF 61 0 60, qF 62 12 61, qL 63 1 62, qW 64 6 2 6, qO 65 (.bsi 1 2 [(.int .i64 0), .nils] [(0, 2, (.t 64))]), qO 66 (.app 2 32 (.t 63) (.t 65)), qo 67 (.nck (.t 58)), qf 68 0 67, qf 69 12 68, ⟨none, none, false, .st [(0, 2)] 1 (.t 69) (.t 66)⟩]
def a_logbook_book_quake : Ann := ⟨[(7, []), (6, [0, 6]), (5, [0, 6, 9]), (3, [0, 2, 6]), (4, [0, 2, 6]), (2, [0, 2, 6, 27]), (1, [0, 2, 6]), (0, [0, 2])], [(0, [0, 2, 6])], [], [0, 6], [6], [(1008, [(1, 4)]), (4019, [(0, 4)]), (7012, [(0, 2)])], [], [(5, [6, 1000006])], [], [], [(0, some 7), (6, some 1)]⟩
def f_logbook_book_quake : Abs.Fn := ⟨3, [],
  (.seq (.treg [0, 2] f296r0 ⟨some 17, none, false, .call false (.c (.fn i_logbook_ask [] [])) [(.t 16), (.c (.int .i64 3))]⟩ f296r1) (.seq (.reg [0, 2, 6] f296r2) (.seq (.blk 0 (.loop [0, 2, 6] false f_logbook_book_quake_l6)) (.seq (.seq (.frz [6, 1000006]) (.reg [0, 6, 9] f296r7)) (.seq (.treg [0, 6] f296r8 ⟨some 57, none, false, .call false (.c (.fn i_logbook_must [] [])) [(.t 56)]⟩ f296r9) (.reg [] f296r10))))))⟩
theorem e_logbook_book_quake_l6 : type_of% f_logbook_book_quake_l6.eq_1 := by_rfl f_logbook_book_quake_l6.eq_1
theorem e_logbook_book_quake : type_of% f_logbook_book_quake.eq_1 := by_rfl f_logbook_book_quake.eq_1
theorem ok_logbook_book_quake : fnC Tryz.prog a_logbook_book_quake Tryz.f296 = some f_logbook_book_quake := by kernel_rfl

/-! 297 (*fumarole/logbook.book).tick -/
def f297r0 : List Abs.Op := [qm 16 0, qc 17 i_logbook_book_left [16], qm 6 17]
def f297r1 : List Abs.Op := [qm 18 6, qe 19 18, qn 20 .gtr 19 0]
def f297r2 : List Abs.Op := []
def f297r3 : List Abs.Op := [qm 22 0, qo 23 (.nck (.t 22)), qf 24 0 23, qf 25 10 24, ql 26 1 25, qe 27 26, qn 28 .lss 27 200]
def f297r4 : List Abs.Op := []
def f297r5 : List Abs.Op := [qm 30 2, qe 31 30, qm 32 0, qo 33 (.nck (.t 32)), qf 34 0 33, qf 35 0 34, qf 36 8 35, ql 37 1 36, qe 38 37, qk 39 .eql 31 38]
def f297r6 : List Abs.Op := []
def f297r7 : List Abs.Op := [qM 41 0, qM 42 0, qC 43 i_logbook_book_colour [42], qO 44 (.nck (.t 41)), qF 45 0 44, qF 46 13 45, qo 47 (.idxA 3 1 (.t 46) (.t 43)), ql 48 1 47, qm 7 48]
def f297r8 : List Abs.Op := [qo 8 (.nilb 1)]
def f297r9 : List Abs.Op := [qm 49 2, qe 50 49, qi 51 0]
def f297r10 : List Abs.Op := [qk 52 .lss 51 50]
def f297r11 : List Abs.Op := [qj 53 1 49 51, ql 54 1 53, qm 10 54]
def f297r12 : List Abs.Op := [qm 55 10, qo 56 (.call false (.c (.fn i_logbook_within [] [])) [(.t 55), (.c (.int .i64 (-100000))), (.c (.int .i64 100000))])]
def f297r13 : List Abs.Op := []
def f297r14 : List Abs.Op := [qm 58 10, qn 59 .lss 58 0]
def f297r15 : List Abs.Op := [qm 60 10, qo 61 (.un .neg (.t 60)), qm 62 7, qk 63 .mul 61 62, qn 64 .quo 63 1000, qo 65 (.un .neg (.t 64)), qm 10 65]
def f297r16 : List Abs.Op := [qm 66 8, qm 67 10, qo 68 (.bsi 1 1 [(.int .i64 0)] [(0, 1, (.t 67))]), qy 69 1 8 66 68, qm 8 69]
def f297r17 : List Abs.Op := [qn 70 .add 51 1, qm 51 70]
def f_logbook_book_tick_l18 : Abs.Cmd :=
  (.seq (.reg [0, 6, 7, 8, 49, 50, 51, 52] f297r10) (.seq (.ite (.t 52) .nop (.exit 0)) (.seq (.blk 1 (.seq (.reg [0, 6, 7, 8, 10, 49, 50, 51] f297r11) (.seq (.treg [0, 6, 7, 8, 10, 49, 50, 51] f297r12 ⟨some 57, none, false, .call false (.c (.fn i_logbook_ask [] [])) [(.t 56), (.c (.int .i64 2))]⟩ f297r13) (.seq (.seq (.reg [0, 6, 7, 8, 10, 49, 50, 51, 59] f297r14) (.ite (.t 59) (.reg [0, 6, 7, 8, 10, 49, 50, 51] f297r15) .nop)) (.reg [0, 6, 7, 8, 49, 50, 51] f297r16))))) (.reg [0, 6, 7, 8, 49, 50, 51] f297r17))))

def f297r19 : List Abs.Op := [qm 71 0, qo 72 (.nck (.t 71)), qf 73 0 72, qf 74 10 73, ql 75 1 74, qo 76 (.call true (.c (.fn i_slices_Clone_L_int [] [])) [(.t 75)]), qm 77 8, qo 78 (.bsi 1 1 [.nils] [(0, 1, (.t 77))]), qy 79 1 24 76 78, qm 11 79]
def f297r20 : List Abs.Op := [qm 80 6, qe 81 80, qi 82 0]
def f297r21 : List Abs.Op := [qk 83 .lss 82 81]
def f297r22 : List Abs.Op := [qj 84 4 80 82, qa 85 4 84, qo 13 (.alcv [] [(.str []), .nils, (.bool false), (.int .i64 0)]), qs 13 4 13 85]
def f297r23 : List Abs.Op := [qM 87 0, qO 88 (.nck (.t 87)), qF 89 0 88, qF 90 0 89, qA 91 9 90, qF 92 0 13, qW 93 13 2 92, qM 94 11, qC 95 i_rock_Play [91, 93, 94], qM 86 95, qZ 96 86 0, qZ 97 86 1, qO 14 (.alcv [] [.nils, .nils]), qS 14 2 14 96, qm 15 97]
def f297r24 : List Abs.Op := [qm 98 15]
def f297r25 : List Abs.Op := []
def f297r26 : List Abs.Op := [qn 100 .add 82 1, qm 82 100]
def f_logbook_book_tick_l27 : Abs.Cmd :=
  (.seq (.reg [0, 11, 80, 81, 82, 83] f297r21) (.seq (.ite (.t 83) .nop (.exit 2)) (.seq (.blk 3 (.seq (.reg [0, 11, 13, 80, 81, 82] f297r22) (.seq (.reg [0, 11, 15, 80, 81, 82] f297r23) (.treg [0, 11, 80, 81, 82] f297r24 ⟨some 99, none, false, .call false (.c (.fn i_logbook_must [] [])) [(.t 98)]⟩ f297r25)))) (.reg [0, 11, 80, 81, 82] f297r26))))

def f297r28 : List Abs.Op := [qm 101 0, qm 102 11, qo 103 (.nck (.t 101)), qf 104 0 103, qf 105 10 104, qt 1 105 102]
def a_logbook_book_tick : Ann := ⟨[(21, []), (20, [0, 11, 80, 81, 82]), (19, [0, 11, 80, 81, 82]), (18, [0, 11, 15, 80, 81, 82]), (17, [0, 11, 13, 80, 81, 82]), (16, [0, 11, 80, 81, 82, 83]), (15, [0, 11, 80, 81, 82]), (14, [0, 6, 11]), (13, [0, 6, 7, 8, 49, 50, 51]), (12, [0, 6, 7, 8, 49, 50, 51]), (11, [0, 6, 7, 8, 10, 49, 50, 51]), (10, [0, 6, 7, 8, 10, 49, 50, 51, 59]), (9, [0, 6, 7, 8, 10, 49, 50, 51]), (8, [0, 6, 7, 8, 10, 49, 50, 51]), (7, [0, 6, 7, 8, 49, 50, 51, 52]), (6, [0, 6, 7, 8, 49, 50, 51]), (5, [0, 2, 6, 7, 8]), (4, [0, 2, 6, 7]), (3, [0, 2, 6]), (2, [0, 2, 6]), (1, [0, 2, 6]), (0, [0, 2, 6])], [(2, [0, 11, 80, 81, 82]), (0, [0, 6, 7, 8, 49, 50, 51])], [], [0, 8, 13, 14], [13, 14], [], [14005], [(15, [11])], [], [], [(1, some 3), (2, some 7), (3, some 10), (9, some 2), (19, some 1)]⟩
def f_logbook_book_tick : Abs.Fn := ⟨3, [],
  (.seq (.reg [0, 2, 6] f297r0) (.seq (.treg [0, 2, 6] f297r1 ⟨some 21, none, false, .call false (.c (.fn i_logbook_ask [] [])) [(.t 20), (.c (.int .i64 8))]⟩ f297r2) (.seq (.treg [0, 2, 6] f297r3 ⟨some 29, none, false, .call false (.c (.fn i_logbook_ask [] [])) [(.t 28), (.c (.int .i64 3))]⟩ f297r4) (.seq (.treg [0, 2, 6] f297r5 ⟨some 40, none, false, .call false (.c (.fn i_logbook_ask [] [])) [(.t 39), (.c (.int .i64 1))]⟩ f297r6) (.seq (.reg [0, 2, 6, 7] f297r7) (.seq (.reg [0, 2, 6, 7, 8] f297r8) (.seq (.seq (.reg [0, 6, 7, 8, 49, 50, 51] f297r9) (.blk 0 (.loop [0, 6, 7, 8, 49, 50, 51] false f_logbook_book_tick_l18))) (.seq (.reg [0, 6, 11] f297r19) (.seq (.seq (.seq (.frz [11]) (.reg [0, 11, 80, 81, 82] f297r20)) (.blk 2 (.loop [0, 11, 80, 81, 82] false f_logbook_book_tick_l27))) (.reg [] f297r28))))))))))⟩
theorem e_logbook_book_tick_l18 : type_of% f_logbook_book_tick_l18.eq_1 := by_rfl f_logbook_book_tick_l18.eq_1
theorem e_logbook_book_tick_l27 : type_of% f_logbook_book_tick_l27.eq_1 := by_rfl f_logbook_book_tick_l27.eq_1
theorem e_logbook_book_tick : type_of% f_logbook_book_tick.eq_1 := by_rfl f_logbook_book_tick.eq_1
theorem ok_logbook_book_tick : fnC Tryz.prog a_logbook_book_tick Tryz.f297 = some f_logbook_book_tick := by kernel_rfl

/-! 298 (*fumarole/logbook.book).read -/
def f298r0 : List Abs.Op := [qx 3 0, qx 5 2]
def f298r1 : List Abs.Op := [ql 11 1 3, qc 12 i_logbook_book_left [11], qm 6 12]
def f298r2 : List Abs.Op := [qm 13 6, qe 14 13, qn 15 .gtr 14 0]
def f298r3 : List Abs.Op := []
def f298r4 : List Abs.Op := [ql 17 1 5, qo 18 (.idxS 1 (.t 17) (.c (.int .i64 0))), ql 19 1 18, qo 20 (.call false (.c (.fn i_logbook_within [] [])) [(.t 19), (.c (.int .i64 0)), (.c (.int .i64 255))])]
def f298r5 : List Abs.Op := []
def f298r6 : List Abs.Op := [qL 22 1 3, qO 23 (.nck (.t 22)), qF 24 0 23, qF 25 10 24, qL 26 1 25, qE 27 26, qL 28 1 5, qO 29 (.idxS 1 (.t 28) (.c (.int .i64 0))), qL 30 1 29, qO 31 (.cvt .u8 (.t 30)), qL 32 1 5, qO 33 (.idxS 1 (.t 32) (.c (.int .i64 1))), qL 34 1 33, qL 35 1 5, qO 36 (.idxS 1 (.t 35) (.c (.int .i64 2))), qL 37 1 36, qL 38 1 5, qO 39 (.idxS 1 (.t 38) (.c (.int .i64 3))), qL 40 1 39, qO 41 (.bld [(.int .i64 0), (.int .i64 0)] [(0, 1, (.t 37)), (1, 1, (.t 40))]), qO 42 (.bld [(.int .i64 0), (.int .u8 0), (.int .i64 0), (.int .i64 0), (.int .i64 0)] [(0, 1, (.t 27)), (1, 1, (.t 31)), (2, 1, (.t 34)), (3, 2, (.t 41))]), qO 7 (.alc [] [(.int .i64 0), (.int .u8 0), (.int .i64 0), (.int .i64 0), (.int .i64 0)]), qt 5 7 42]
def f298r7 : List Abs.Op := [qL 44 1 3, qO 45 (.nck (.t 44)), qF 46 0 45, qF 47 0 46, qA 48 9 47, qM 49 6, qO 50 (.idxS 4 (.t 49) (.c (.int .i64 0))), qF 51 0 50, qA 52 2 51, qO 53 (.bsi 1 2 [(.str []), .nils] [(0, 2, (.t 52))]), qL 54 1 3, qO 55 (.nck (.t 54)), qF 56 0 55, qF 57 10 56, qL 58 1 57, qA 59 5 7, qO 60 (.bsi 1 5 [(.int .i64 0), (.int .u8 0), (.int .i64 0), (.int .i64 0), (.int .i64 0)] [(0, 5, (.t 59))]), qC 61 i_rock_Strikes [48, 53, 58, 60], qM 43 61, qZ 62 43 0, qZ 63 43 1, qZ 64 43 2, qM 8 62, qM 9 63, qm 10 64]
def f298r8 : List Abs.Op := [qm 65 10]
def f298r9 : List Abs.Op := []
def f298r10 : List Abs.Op := [qL 67 1 3, qL 68 1 5, qO 69 (.idxS 1 (.t 68) (.c (.int .i64 2))), qL 70 1 69, qL 71 1 5, qO 72 (.idxS 1 (.t 71) (.c (.int .i64 3))), qL 73 1 72, qO 74 (.bld [(.int .i64 0), (.int .i64 0)] [(0, 1, (.t 70)), (1, 1, (.t 73))]), qO 75 (.mkf i_logbook_book_read_1 [] [(.t 3), (.t 7), (.t 5)]), qc 76 i_logbook_book_strike [67, 74, 75]]
def a_logbook_book_read : Ann := ⟨[(7, []), (6, [3, 5, 7]), (5, [3, 5, 7, 10]), (4, [3, 5, 6, 7]), (3, [3, 5, 6]), (2, [3, 5, 6]), (1, [3, 5, 6]), (0, [3, 5])], [], [], [7], [], [], [], [], [], [], [(2, some 3), (3, some 4), (6, some 1)]⟩
def f_logbook_book_read : Abs.Fn := ⟨3, [],
  (.seq (.reg [3, 5] f298r0) (.seq (.reg [3, 5, 6] f298r1) (.seq (.treg [3, 5, 6] f298r2 ⟨some 16, none, false, .call false (.c (.fn i_logbook_ask [] [])) [(.t 15), (.c (.int .i64 8))]⟩ f298r3) (.seq (.treg [3, 5, 6] f298r4 ⟨some 21, none, false, .call false (.c (.fn i_logbook_ask [] [])) [(.t 20), (.c (.int .i64 1))]⟩ f298r5) (.seq (.reg [3, 5, 6, 7] f298r6) (.seq (.reg [3, 5, 7, 10] f298r7) (.seq (.treg [3, 5, 7] f298r8 ⟨some 66, none, false, .call false (.c (.fn i_logbook_must [] [])) [(.t 65)]⟩ f298r9) (.reg [] f298r10))))))))⟩
theorem e_logbook_book_read : type_of% f_logbook_book_read.eq_1 := by_rfl f_logbook_book_read.eq_1
theorem ok_logbook_book_read : fnC Tryz.prog a_logbook_book_read Tryz.f298 = some f_logbook_book_read := by kernel_rfl

end Go.Proofs.YtfgljaglidhjiaaGreatDoor
