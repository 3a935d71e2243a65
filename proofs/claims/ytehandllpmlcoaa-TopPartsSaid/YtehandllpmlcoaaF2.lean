/- The code of functions of the program, in the small instruction set; each is what the translation makes of it. -/
import Derived.Test.YtehandllpmlcoaaIds
set_option linter.unusedVariables false
set_option maxRecDepth 100000
namespace Go.Proofs.Ytehandllpmlcoaa
open Go Go.Abs
/-! 95 fumarole/field.within -/
def f95r0 : List Abs.Op := [
  ⟨some 6, none, false, .mv (.c (.bool false))⟩]

def f95r1 : List Abs.Op := [
  ⟨some 7, none, false, .mv (.t 1)⟩,
  ⟨some 8, none, false, .mv (.t 0)⟩,
  ⟨some 9, none, false, .bin .leq (.t 7) (.t 8)⟩,
  ⟨some 10, none, false, .mv (.t 9)⟩,
  ⟨some 11, some (10, true), false, .mv (.t 0)⟩,
  ⟨some 12, some (10, true), false, .mv (.t 2)⟩,
  ⟨some 13, some (10, true), false, .bin .leq (.t 11) (.t 12)⟩,
  ⟨some 14, none, false, .pick (.t 10) (.t 13) (.c (.bool false))⟩,
  ⟨some 6, none, false, .mv (.t 14)⟩]

def a_field_within : Ann := ⟨[(1, [6]), (0, [0, 1, 2])], [], [], [], [], [], [], [], [], [], []⟩
def f_field_within : Abs.Fn := ⟨3, [.t 6],
  (.seq (.reg [0, 1, 2] f95r0) (.seq (.reg [6] f95r1) .ret))⟩

@[simp] theorem e95r0 : type_of% f95r0.eq_1 := by_rfl f95r0.eq_1
@[simp] theorem e95r1 : type_of% f95r1.eq_1 := by_rfl f95r1.eq_1
theorem e_field_within : type_of% f_field_within.eq_1 := by_rfl f_field_within.eq_1
theorem ok_field_within : fnC Try.prog a_field_within Try.f95 = some f_field_within := by kernel_rfl

/-! 96 fumarole/field.each[fumarole/field.Model] -/
def f96r0 : List Abs.Op := [
  ⟨some 4, none, false, .mv (.c (.int .i64 0))⟩]

def f96r1 : List Abs.Op := [
  ⟨some 10, none, false, .mp (.make) []⟩,
  ⟨some 5, none, false, .mv (.t 10)⟩]

def f96r2 : List Abs.Op := [
  ⟨some 11, none, false, .mv (.t 0)⟩,
  ⟨some 12, none, false, .lenS (.t 11)⟩,
  ⟨some 13, none, false, .mv (.c (.int .i64 0))⟩]

def f96r3 : List Abs.Op := [
  ⟨some 14, none, false, .bin .lss (.t 13) (.t 12)⟩]

def f96r4 : List Abs.Op := [
  ⟨some 15, none, false, .idxS 2 (.t 11) (.t 13)⟩,
  ⟨some 16, none, false, .ld true 2 (.t 15)⟩,
  ⟨some 7, none, false, .alcv [] [(.str []), .nils]⟩,
  ⟨none, none, false, .stv 7 [] 2 7 (.t 16)⟩]

def f96r5 : List Abs.Op := [
  ⟨some 18, none, false, .mv (.t 1)⟩,
  ⟨some 19, none, false, .ldv 7 true 2 7⟩,
  ⟨some 20, none, false, .call false (.t 18) [(.t 19)]⟩,
  ⟨some 17, none, false, .mv (.t 20)⟩,
  ⟨some 21, none, false, .ext (.t 17) 0⟩,
  ⟨some 22, none, false, .ext (.t 17) 1⟩,
  ⟨some 8, none, false, .mv (.t 21)⟩,
  ⟨some 9, none, false, .mv (.t 22)⟩]

def f96r6 : List Abs.Op := [
  ⟨some 23, none, false, .mv (.t 9)⟩,
  ⟨some 24, none, false, .bin .neq (.t 23) (.c (.int .i64 0))⟩]

def f96r7 : List Abs.Op := [
  ⟨some 25, none, false, .mv (.t 9)⟩,
  ⟨some 4, none, false, .mv (.t 25)⟩]

def f96r8 : List Abs.Op := [
  ⟨some 26, none, false, .mv (.t 5)⟩,
  ⟨some 27, none, false, .mv (.t 8)⟩,
  ⟨some 28, none, false, .mp (.get none (.bool false) false) [(.t 26), (.t 27)]⟩]

def f96r9 : List Abs.Op := [
  ⟨some 4, none, false, .mv (.c (.int .i64 6))⟩]

def f96r10 : List Abs.Op := [
  ⟨some 29, none, false, .mv (.t 5)⟩,
  ⟨some 30, none, false, .mv (.t 8)⟩,
  ⟨none, none, false, .mp (.put none) [(.t 29), (.t 30), (.c (.bool true))]⟩]

def f96r11 : List Abs.Op := [
  ⟨some 31, none, false, .bin .add (.t 13) (.c (.int .i64 1))⟩,
  ⟨some 13, none, false, .mv (.t 31)⟩]

def f_field_each_field_Model_l12 : Abs.Cmd :=
  (.seq (.reg [1, 5, 11, 12, 13, 14] f96r3) (.seq (.ite (.t 14) .nop (.exit 0)) (.seq (.blk 1 (.seq (.reg [1, 5, 7, 11, 12, 13] f96r4) (.seq (.reg [1, 5, 8, 9, 11, 12, 13] f96r5) (.seq (.seq (.reg [1, 5, 8, 9, 11, 12, 13, 24] f96r6) (.ite (.t 24) (.seq (.reg [4] f96r7) .ret) .nop)) (.seq (.seq (.reg [1, 5, 8, 11, 12, 13, 28] f96r8) (.ite (.t 28) (.seq (.reg [4] f96r9) .ret) .nop)) (.reg [1, 5, 11, 12, 13] f96r10)))))) (.reg [1, 5, 11, 12, 13] f96r11))))

def f96r13 : List Abs.Op := [
  ⟨some 4, none, false, .mv (.c (.int .i64 0))⟩]

def a_field_each_field_Model : Ann := ⟨[(12, [4]), (11, [1, 5, 11, 12, 13]), (10, [1, 5, 11, 12, 13]), (9, [4]), (8, [1, 5, 8, 11, 12, 13, 28]), (7, [4]), (6, [1, 5, 8, 9, 11, 12, 13, 24]), (5, [1, 5, 8, 9, 11, 12, 13]), (4, [1, 5, 7, 11, 12, 13]), (3, [1, 5, 11, 12, 13, 14]), (2, [1, 5, 11, 12, 13]), (1, [0, 1, 5]), (0, [0, 1])], [(0, [1, 5, 11, 12, 13])], [], [7], [7], [], [], [], [], [], []⟩
def f_field_each_field_Model : Abs.Fn := ⟨2, [.t 4],
  (.seq (.reg [0, 1] f96r0) (.seq (.reg [0, 1, 5] f96r1) (.seq (.seq (.reg [1, 5, 11, 12, 13] f96r2) (.blk 0 (.loop [1, 5, 11, 12, 13] false f_field_each_field_Model_l12))) (.seq (.reg [4] f96r13) .ret))))⟩

@[simp] theorem e96r0 : type_of% f96r0.eq_1 := by_rfl f96r0.eq_1
@[simp] theorem e96r1 : type_of% f96r1.eq_1 := by_rfl f96r1.eq_1
@[simp] theorem e96r2 : type_of% f96r2.eq_1 := by_rfl f96r2.eq_1
@[simp] theorem e96r3 : type_of% f96r3.eq_1 := by_rfl f96r3.eq_1
@[simp] theorem e96r4 : type_of% f96r4.eq_1 := by_rfl f96r4.eq_1
@[simp] theorem e96r5 : type_of% f96r5.eq_1 := by_rfl f96r5.eq_1
@[simp] theorem e96r6 : type_of% f96r6.eq_1 := by_rfl f96r6.eq_1
@[simp] theorem e96r7 : type_of% f96r7.eq_1 := by_rfl f96r7.eq_1
@[simp] theorem e96r8 : type_of% f96r8.eq_1 := by_rfl f96r8.eq_1
@[simp] theorem e96r9 : type_of% f96r9.eq_1 := by_rfl f96r9.eq_1
@[simp] theorem e96r10 : type_of% f96r10.eq_1 := by_rfl f96r10.eq_1
@[simp] theorem e96r11 : type_of% f96r11.eq_1 := by_rfl f96r11.eq_1
@[simp] theorem e96r13 : type_of% f96r13.eq_1 := by_rfl f96r13.eq_1
theorem e_field_each_field_Model_l12 : type_of% f_field_each_field_Model_l12.eq_1 := by_rfl f_field_each_field_Model_l12.eq_1
theorem e_field_each_field_Model : type_of% f_field_each_field_Model.eq_1 := by_rfl f_field_each_field_Model.eq_1
theorem ok_field_each_field_Model : fnC Try.prog a_field_each_field_Model Try.f96 = some f_field_each_field_Model := by kernel_rfl

/-! 97 (fumarole/field.Field).models$1 -/
def f97r0 : List Abs.Op := [
  ⟨some 2, none, false, .boxi (.t 0)⟩,
  ⟨some 3, none, false, .mv (.c (.str []))⟩,
  ⟨some 4, none, false, .mv (.c (.int .i64 0))⟩]

def f97r1 : List Abs.Op := [
  ⟨some 5, none, true, .fadr 0 (.t 2)⟩,
  ⟨some 6, none, true, .ld false 1 (.t 5)⟩,
  ⟨some 7, none, true, .ld true 4 (.t 1)⟩,
  ⟨some 8, none, true, .ld true 2 (.t 2)⟩,
  ⟨some 9, none, true, .call false (.c (.fn i_field_Field_model [] [])) [(.t 7), (.t 8)]⟩,
  ⟨some 3, none, false, .mv (.t 6)⟩,
  ⟨some 4, none, false, .mv (.t 9)⟩]

def a_field_Field_models_1 : Ann := ⟨[(1, [3, 4]), (0, [1, 2])], [], [], [], [], [], [], [], [], [], []⟩
def f_field_Field_models_1 : Abs.Fn := ⟨2, [.t 3, .t 4],
  (.seq (.reg [1, 2] f97r0) (.seq (.reg [3, 4] f97r1) .ret))⟩

@[simp] theorem e97r0 : type_of% f97r0.eq_1 := by_rfl f97r0.eq_1
@[simp] theorem e97r1 : type_of% f97r1.eq_1 := by_rfl f97r1.eq_1
theorem e_field_Field_models_1 : type_of% f_field_Field_models_1.eq_1 := by_rfl f_field_Field_models_1.eq_1
theorem ok_field_Field_models_1 : fnC Try.prog a_field_Field_models_1 Try.f97 = some f_field_Field_models_1 := by kernel_rfl

/-! 98 (fumarole/field.Field).model -/
def f98r0 : List Abs.Op := [
  ⟨some 2, none, false, .boxi (.t 0)⟩,
  ⟨some 3, none, false, .boxi (.t 1)⟩,
  ⟨some 4, none, false, .mv (.c (.int .i64 0))⟩]

def f98r1 : List Abs.Op := [
  ⟨some 6, none, false, .fadr 0 (.t 3)⟩,
  ⟨some 7, none, false, .ld false 1 (.t 6)⟩,
  ⟨some 8, none, false, .call false (.c (.fn i_field_named [] [])) [(.t 7)]⟩,
  ⟨some 9, none, false, .un .not (.t 8)⟩,
  ⟨some 5, none, false, .mv (.t 9)⟩]

def f98r2 : List Abs.Op := [
  ⟨some 4, none, false, .mv (.c (.int .i64 5))⟩]

def f98r3 : List Abs.Op := [
  ⟨some 11, none, true, .fadr 1 (.t 3)⟩,
  ⟨some 12, none, true, .ld false 1 (.t 11)⟩,
  ⟨some 13, none, true, .lenS (.t 12)⟩,
  ⟨some 14, none, true, .fadr 3 (.t 2)⟩,
  ⟨some 15, none, true, .ld false 1 (.t 14)⟩,
  ⟨some 16, none, true, .ld true 4 (.t 2)⟩,
  ⟨some 17, none, true, .call false (.c (.fn i_field_Field_blocks [] [])) [(.t 16)]⟩,
  ⟨some 18, none, true, .bin .mul (.t 15) (.t 17)⟩,
  ⟨some 19, none, false, .bin .neq (.t 13) (.t 18)⟩,
  ⟨some 20, none, false, .mv (.t 19)⟩,
  ⟨some 21, some (20, false), false, .fadr 1 (.t 3)⟩,
  ⟨some 22, some (20, false), false, .ld false 1 (.t 21)⟩,
  ⟨some 23, some (20, false), false, .call false (.c (.fn i_field_all_int [] [])) [(.t 22), (.c (.fn i_field_Field_model_1 [] []))]⟩,
  ⟨some 24, some (20, false), false, .un .not (.t 23)⟩,
  ⟨some 25, none, false, .pick (.t 20) (.c (.bool true)) (.t 24)⟩,
  ⟨some 10, none, false, .mv (.t 25)⟩]

def f98r4 : List Abs.Op := [
  ⟨some 4, none, false, .mv (.c (.int .i64 1))⟩]

def f98r5 : List Abs.Op := [
  ⟨some 4, none, false, .mv (.c (.int .i64 0))⟩]

def a_field_Field_model : Ann := ⟨[(5, [4]), (2, [4]), (4, [4]), (3, [10]), (1, [2, 3, 5]), (0, [2, 3])], [], [], [], [], [], [], [], [], [], []⟩
def f_field_Field_model : Abs.Fn := ⟨2, [.t 4],
  (.seq (.reg [2, 3] f98r0) (.seq (.blk 0 (.seq (.reg [2, 3, 5] f98r1) (.ite (.t 5) (.seq (.reg [4] f98r2) .ret) (.seq (.reg [10] f98r3) (.ite (.t 10) (.seq (.reg [4] f98r4) .ret) .nop))))) (.seq (.reg [4] f98r5) .ret)))⟩

@[simp] theorem e98r0 : type_of% f98r0.eq_1 := by_rfl f98r0.eq_1
@[simp] theorem e98r1 : type_of% f98r1.eq_1 := by_rfl f98r1.eq_1
@[simp] theorem e98r2 : type_of% f98r2.eq_1 := by_rfl f98r2.eq_1
@[simp] theorem e98r3 : type_of% f98r3.eq_1 := by_rfl f98r3.eq_1
@[simp] theorem e98r4 : type_of% f98r4.eq_1 := by_rfl f98r4.eq_1
@[simp] theorem e98r5 : type_of% f98r5.eq_1 := by_rfl f98r5.eq_1
theorem e_field_Field_model : type_of% f_field_Field_model.eq_1 := by_rfl f_field_Field_model.eq_1
theorem ok_field_Field_model : fnC Try.prog a_field_Field_model Try.f98 = some f_field_Field_model := by kernel_rfl

/-! 99 slices.IndexFunc[[]int,int] -/
def f99r0 : List Abs.Op := [
  ⟨some 4, none, false, .mv (.c (.int .i64 0))⟩]

def f99r1 : List Abs.Op := [
  ⟨some 6, none, false, .mv (.t 0)⟩,
  ⟨some 7, none, false, .lenS (.t 6)⟩,
  ⟨some 8, none, false, .mv (.c (.int .i64 0))⟩]

def f99r2 : List Abs.Op := [
  ⟨some 9, none, false, .bin .lss (.t 8) (.t 7)⟩]

def f99r3 : List Abs.Op := [
  ⟨some 10, none, false, .mv (.t 8)⟩,
  ⟨some 5, none, false, .mv (.t 10)⟩]

def f99r4 : List Abs.Op := [
  ⟨some 11, none, false, .mv (.t 1)⟩,
  ⟨some 12, none, false, .mv (.t 0)⟩,
  ⟨some 13, none, false, .mv (.t 5)⟩,
  ⟨some 14, none, false, .idxS 1 (.t 12) (.t 13)⟩,
  ⟨some 15, none, false, .ld false 1 (.t 14)⟩,
  ⟨some 16, none, false, .call false (.t 11) [(.t 15)]⟩]

def f99r5 : List Abs.Op := [
  ⟨some 17, none, false, .mv (.t 5)⟩,
  ⟨some 4, none, false, .mv (.t 17)⟩]

def f99r6 : List Abs.Op := [
  ⟨some 18, none, false, .bin .add (.t 8) (.c (.int .i64 1))⟩,
  ⟨some 8, none, false, .mv (.t 18)⟩]

def f_slices_IndexFunc_int_l7 : Abs.Cmd :=
  (.seq (.reg [0, 1, 7, 8, 9] f99r2) (.seq (.ite (.t 9) .nop (.exit 0)) (.seq (.blk 1 (.seq (.reg [0, 1, 5, 7, 8] f99r3) (.seq (.reg [0, 1, 5, 7, 8, 16] f99r4) (.ite (.t 16) (.seq (.reg [4] f99r5) .ret) .nop)))) (.reg [0, 1, 7, 8] f99r6))))

def f99r8 : List Abs.Op := [
  ⟨some 4, none, false, .mv (.c (.int .i64 (-1)))⟩]

def a_slices_IndexFunc_int : Ann := ⟨[(7, [4]), (6, [0, 1, 7, 8]), (5, [4]), (4, [0, 1, 5, 7, 8, 16]), (3, [0, 1, 5, 7, 8]), (2, [0, 1, 7, 8, 9]), (1, [0, 1, 7, 8]), (0, [0, 1])], [(0, [0, 1, 7, 8])], [], [], [], [], [], [], [], [], []⟩
def f_slices_IndexFunc_int : Abs.Fn := ⟨2, [.t 4],
  (.seq (.reg [0, 1] f99r0) (.seq (.seq (.reg [0, 1, 7, 8] f99r1) (.blk 0 (.loop [0, 1, 7, 8] false f_slices_IndexFunc_int_l7))) (.seq (.reg [4] f99r8) .ret)))⟩

@[simp] theorem e99r0 : type_of% f99r0.eq_1 := by_rfl f99r0.eq_1
@[simp] theorem e99r1 : type_of% f99r1.eq_1 := by_rfl f99r1.eq_1
@[simp] theorem e99r2 : type_of% f99r2.eq_1 := by_rfl f99r2.eq_1
@[simp] theorem e99r3 : type_of% f99r3.eq_1 := by_rfl f99r3.eq_1
@[simp] theorem e99r4 : type_of% f99r4.eq_1 := by_rfl f99r4.eq_1
@[simp] theorem e99r5 : type_of% f99r5.eq_1 := by_rfl f99r5.eq_1
@[simp] theorem e99r6 : type_of% f99r6.eq_1 := by_rfl f99r6.eq_1
@[simp] theorem e99r8 : type_of% f99r8.eq_1 := by_rfl f99r8.eq_1
theorem e_slices_IndexFunc_int_l7 : type_of% f_slices_IndexFunc_int_l7.eq_1 := by_rfl f_slices_IndexFunc_int_l7.eq_1
theorem e_slices_IndexFunc_int : type_of% f_slices_IndexFunc_int.eq_1 := by_rfl f_slices_IndexFunc_int.eq_1
theorem ok_slices_IndexFunc_int : fnC Try.prog a_slices_IndexFunc_int Try.f99 = some f_slices_IndexFunc_int := by kernel_rfl

/-! 100 (fumarole/rock.Bed).links$1 -/
def f100r0 : List Abs.Op := [
  ⟨some 6, none, true, .fadr 0 (.t 1)⟩,
  ⟨some 7, none, true, .fadr 0 (.t 6)⟩,
  ⟨some 8, none, true, .ld false 1 (.t 7)⟩,
  ⟨some 9, none, true, .fadr 0 (.t 1)⟩,
  ⟨some 10, none, true, .fadr 1 (.t 9)⟩,
  ⟨some 11, none, true, .ld false 1 (.t 10)⟩,
  ⟨some 3, none, true, .mv (.t 8)⟩,
  ⟨some 4, none, false, .mv (.t 11)⟩]

def f100r1 : List Abs.Op := [
  ⟨some 12, none, false, .ld true 9 (.t 1)⟩,
  ⟨some 13, none, false, .call false (.c (.fn i_rock_Bed_size [] [])) [(.t 12)]⟩,
  ⟨some 14, none, false, .mv (.c (.int .i64 0))⟩]

def f100r2 : List Abs.Op := [
  ⟨some 15, none, false, .bin .lss (.t 14) (.t 13)⟩]

def f100r3 : List Abs.Op := [
  ⟨some 16, none, false, .mv (.t 14)⟩,
  ⟨some 5, none, false, .mv (.t 16)⟩]

def f100r4 : List Abs.Op := [
  ⟨some 17, none, false, .mv (.t 5)⟩,
  ⟨some 18, none, false, .bin .add (.t 17) (.c (.int .i64 1))⟩,
  ⟨some 19, none, false, .mv (.t 3)⟩,
  ⟨some 20, none, false, .bin .rem (.t 18) (.t 19)⟩,
  ⟨some 21, none, false, .bin .neq (.t 20) (.c (.int .i64 0))⟩,
  ⟨some 22, none, false, .mv (.t 21)⟩,
  ⟨some 23, some (22, true), false, .mv (.t 0)⟩,
  ⟨some 24, some (22, true), false, .mv (.t 5)⟩,
  ⟨some 25, some (22, true), false, .mv (.t 5)⟩,
  ⟨some 26, some (22, true), false, .bin .add (.t 25) (.c (.int .i64 1))⟩,
  ⟨some 27, some (22, true), false, .bld [(.int .i64 0), (.int .i64 0)] [(0, 1, (.t 24)), (1, 1, (.t 26))]⟩,
  ⟨some 28, some (22, true), false, .call false (.t 23) [(.t 27)]⟩,
  ⟨some 29, some (22, true), false, .un .not (.t 28)⟩,
  ⟨some 30, none, false, .pick (.t 22) (.t 29) (.c (.bool false))⟩]

def f100r5 : List Abs.Op := [
  ⟨some 31, none, false, .mv (.t 5)⟩,
  ⟨some 32, none, false, .mv (.t 3)⟩,
  ⟨some 33, none, false, .bin .quo (.t 31) (.t 32)⟩,
  ⟨some 34, none, false, .mv (.t 4)⟩,
  ⟨some 35, none, false, .bin .rem (.t 33) (.t 34)⟩,
  ⟨some 36, none, false, .mv (.t 4)⟩,
  ⟨some 37, none, false, .bin .sub (.t 36) (.c (.int .i64 1))⟩,
  ⟨some 38, none, false, .bin .neq (.t 35) (.t 37)⟩,
  ⟨some 39, none, false, .mv (.t 38)⟩,
  ⟨some 40, some (39, true), false, .mv (.t 0)⟩,
  ⟨some 41, some (39, true), false, .mv (.t 5)⟩,
  ⟨some 42, some (39, true), false, .mv (.t 5)⟩,
  ⟨some 43, some (39, true), false, .mv (.t 3)⟩,
  ⟨some 44, some (39, true), false, .bin .add (.t 42) (.t 43)⟩,
  ⟨some 45, some (39, true), false, .bld [(.int .i64 0), (.int .i64 0)] [(0, 1, (.t 41)), (1, 1, (.t 44))]⟩,
  ⟨some 46, some (39, true), false, .call false (.t 40) [(.t 45)]⟩,
  ⟨some 47, some (39, true), false, .un .not (.t 46)⟩,
  ⟨some 48, none, false, .pick (.t 39) (.t 47) (.c (.bool false))⟩]

def f100r6 : List Abs.Op := [
  ⟨some 49, none, false, .mv (.t 5)⟩,
  ⟨some 50, none, false, .mv (.t 3)⟩,
  ⟨some 51, none, false, .mv (.t 4)⟩,
  ⟨some 52, none, false, .bin .mul (.t 50) (.t 51)⟩,
  ⟨some 53, none, false, .bin .add (.t 49) (.t 52)⟩,
  ⟨some 54, none, false, .ld true 9 (.t 1)⟩,
  ⟨some 55, none, false, .call false (.c (.fn i_rock_Bed_size [] [])) [(.t 54)]⟩,
  ⟨some 56, none, false, .bin .lss (.t 53) (.t 55)⟩,
  ⟨some 57, none, false, .mv (.t 56)⟩,
  ⟨some 58, some (57, true), false, .mv (.t 0)⟩,
  ⟨some 59, some (57, true), false, .mv (.t 5)⟩,
  ⟨some 60, some (57, true), false, .mv (.t 5)⟩,
  ⟨some 61, some (57, true), false, .mv (.t 3)⟩,
  ⟨some 62, some (57, true), false, .mv (.t 4)⟩,
  ⟨some 63, some (57, true), false, .bin .mul (.t 61) (.t 62)⟩,
  ⟨some 64, some (57, true), false, .bin .add (.t 60) (.t 63)⟩,
  ⟨some 65, some (57, true), false, .bld [(.int .i64 0), (.int .i64 0)] [(0, 1, (.t 59)), (1, 1, (.t 64))]⟩,
  ⟨some 66, some (57, true), false, .call false (.t 58) [(.t 65)]⟩,
  ⟨some 67, some (57, true), false, .un .not (.t 66)⟩,
  ⟨some 68, none, false, .pick (.t 57) (.t 67) (.c (.bool false))⟩]

def f100r7 : List Abs.Op := [
  ⟨some 69, none, false, .bin .add (.t 14) (.c (.int .i64 1))⟩,
  ⟨some 14, none, false, .mv (.t 69)⟩]

def f_rock_Bed_links_1_l8 : Abs.Cmd :=
  (.seq (.reg [0, 1, 3, 4, 13, 14, 15] f100r2) (.seq (.ite (.t 15) .nop (.exit 0)) (.seq (.blk 1 (.seq (.reg [0, 1, 3, 4, 5, 13, 14] f100r3) (.seq (.seq (.reg [0, 1, 3, 4, 5, 13, 14, 30] f100r4) (.ite (.t 30) .ret .nop)) (.seq (.seq (.reg [0, 1, 3, 4, 5, 13, 14, 48] f100r5) (.ite (.t 48) .ret .nop)) (.seq (.reg [0, 1, 3, 4, 13, 14, 68] f100r6) (.ite (.t 68) .ret .nop)))))) (.reg [0, 1, 3, 4, 13, 14] f100r7))))

def a_rock_Bed_links_1 : Ann := ⟨[(7, [0, 1, 3, 4, 13, 14]), (6, [0, 1, 3, 4, 13, 14, 68]), (5, [0, 1, 3, 4, 5, 13, 14, 48]), (4, [0, 1, 3, 4, 5, 13, 14, 30]), (3, [0, 1, 3, 4, 5, 13, 14]), (2, [0, 1, 3, 4, 13, 14, 15]), (1, [0, 1, 3, 4, 13, 14]), (0, [0, 1, 3, 4])], [(0, [0, 1, 3, 4, 13, 14])], [], [], [], [], [], [], [], [], []⟩
def f_rock_Bed_links_1 : Abs.Fn := ⟨2, [],
  (.seq (.reg [0, 1, 3, 4] f100r0) (.seq (.reg [0, 1, 3, 4, 13, 14] f100r1) (.blk 0 (.loop [0, 1, 3, 4, 13, 14] false f_rock_Bed_links_1_l8))))⟩

@[simp] theorem e100r0 : type_of% f100r0.eq_1 := by_rfl f100r0.eq_1
@[simp] theorem e100r1 : type_of% f100r1.eq_1 := by_rfl f100r1.eq_1
@[simp] theorem e100r2 : type_of% f100r2.eq_1 := by_rfl f100r2.eq_1
@[simp] theorem e100r3 : type_of% f100r3.eq_1 := by_rfl f100r3.eq_1
@[simp] theorem e100r4 : type_of% f100r4.eq_1 := by_rfl f100r4.eq_1
@[simp] theorem e100r5 : type_of% f100r5.eq_1 := by_rfl f100r5.eq_1
@[simp] theorem e100r6 : type_of% f100r6.eq_1 := by_rfl f100r6.eq_1
@[simp] theorem e100r7 : type_of% f100r7.eq_1 := by_rfl f100r7.eq_1
theorem e_rock_Bed_links_1_l8 : type_of% f_rock_Bed_links_1_l8.eq_1 := by_rfl f_rock_Bed_links_1_l8.eq_1
theorem e_rock_Bed_links_1 : type_of% f_rock_Bed_links_1.eq_1 := by_rfl f_rock_Bed_links_1.eq_1
theorem ok_rock_Bed_links_1 : fnC Try.prog a_rock_Bed_links_1 Try.f100 = some f_rock_Bed_links_1 := by kernel_rfl

/-! 101 (fumarole/field.Field).blocks -/
def f101r0 : List Abs.Op := [
  ⟨some 1, none, false, .boxi (.t 0)⟩,
  ⟨some 2, none, false, .mv (.c (.int .i64 0))⟩]

def f101r1 : List Abs.Op := [
  ⟨some 3, none, false, .fadr 0 (.t 1)⟩,
  ⟨some 4, none, false, .ld false 1 (.t 3)⟩,
  ⟨some 5, none, false, .fadr 1 (.t 1)⟩,
  ⟨some 6, none, false, .ld false 1 (.t 5)⟩,
  ⟨some 7, none, false, .bin .mul (.t 4) (.t 6)⟩,
  ⟨some 8, none, false, .fadr 2 (.t 1)⟩,
  ⟨some 9, none, false, .ld false 1 (.t 8)⟩,
  ⟨some 10, none, false, .bin .mul (.t 7) (.t 9)⟩,
  ⟨some 2, none, false, .mv (.t 10)⟩]

def a_field_Field_blocks : Ann := ⟨[(1, [2]), (0, [1])], [], [], [], [], [], [], [], [], [], []⟩
def f_field_Field_blocks : Abs.Fn := ⟨1, [.t 2],
  (.seq (.reg [1] f101r0) (.seq (.reg [2] f101r1) .ret))⟩

@[simp] theorem e101r0 : type_of% f101r0.eq_1 := by_rfl f101r0.eq_1
@[simp] theorem e101r1 : type_of% f101r1.eq_1 := by_rfl f101r1.eq_1
theorem e_field_Field_blocks : type_of% f_field_Field_blocks.eq_1 := by_rfl f_field_Field_blocks.eq_1
theorem ok_field_Field_blocks : fnC Try.prog a_field_Field_blocks Try.f101 = some f_field_Field_blocks := by kernel_rfl

/-! 102 slices.ContainsFunc[[]fumarole/steam.Row,fumarole/steam.Row] -/
def f102r0 : List Abs.Op := [
  ⟨some 4, none, false, .mv (.c (.bool false))⟩]

def f102r1 : List Abs.Op := [
  ⟨some 5, none, false, .mv (.t 0)⟩,
  ⟨some 6, none, false, .mv (.t 1)⟩,
  ⟨some 7, none, false, .call false (.c (.fn i_slices_IndexFunc_steam_Row [] [])) [(.t 5), (.t 6)]⟩,
  ⟨some 8, none, false, .bin .geq (.t 7) (.c (.int .i64 0))⟩,
  ⟨some 4, none, false, .mv (.t 8)⟩]

def a_slices_ContainsFunc_steam_Row : Ann := ⟨[(1, [4]), (0, [0, 1])], [], [], [], [], [], [], [], [], [], []⟩
def f_slices_ContainsFunc_steam_Row : Abs.Fn := ⟨2, [.t 4],
  (.seq (.reg [0, 1] f102r0) (.seq (.reg [4] f102r1) .ret))⟩

@[simp] theorem e102r0 : type_of% f102r0.eq_1 := by_rfl f102r0.eq_1
@[simp] theorem e102r1 : type_of% f102r1.eq_1 := by_rfl f102r1.eq_1
theorem e_slices_ContainsFunc_steam_Row : type_of% f_slices_ContainsFunc_steam_Row.eq_1 := by_rfl f_slices_ContainsFunc_steam_Row.eq_1
theorem ok_slices_ContainsFunc_steam_Row : fnC Try.prog a_slices_ContainsFunc_steam_Row Try.f102 = some f_slices_ContainsFunc_steam_Row := by kernel_rfl

/-! 103 fumarole/steam.all[fumarole/steam.Row]$1 -/
def f103r0 : List Abs.Op := [
  ⟨some 2, none, false, .boxi (.t 0)⟩,
  ⟨some 3, none, false, .mv (.c (.bool false))⟩]

def f103r1 : List Abs.Op := [
  ⟨some 4, none, false, .ld false 1 (.t 1)⟩,
  ⟨some 5, none, false, .ld true 5 (.t 2)⟩,
  ⟨some 6, none, false, .call false (.t 4) [(.t 5)]⟩,
  ⟨some 7, none, false, .un .not (.t 6)⟩,
  ⟨some 3, none, false, .mv (.t 7)⟩]

def a_steam_all_steam_Row_1 : Ann := ⟨[(1, [3]), (0, [1, 2])], [], [], [], [], [], [], [], [], [], []⟩
def f_steam_all_steam_Row_1 : Abs.Fn := ⟨2, [.t 3],
  (.seq (.reg [1, 2] f103r0) (.seq (.reg [3] f103r1) .ret))⟩

@[simp] theorem e103r0 : type_of% f103r0.eq_1 := by_rfl f103r0.eq_1
@[simp] theorem e103r1 : type_of% f103r1.eq_1 := by_rfl f103r1.eq_1
theorem e_steam_all_steam_Row_1 : type_of% f_steam_all_steam_Row_1.eq_1 := by_rfl f_steam_all_steam_Row_1.eq_1
theorem ok_steam_all_steam_Row_1 : fnC Try.prog a_steam_all_steam_Row_1 Try.f103 = some f_steam_all_steam_Row_1 := by kernel_rfl

/-! 104 fumarole/field.named -/
def f104r0 : List Abs.Op := [
  ⟨some 2, none, false, .mv (.c (.bool false))⟩]

def f104r1 : List Abs.Op := [
  ⟨some 5, none, false, .mv (.t 0)⟩,
  ⟨some 6, none, false, .pur (.slen) [(.t 5)]⟩,
  ⟨some 7, none, false, .mv (.c (.int .i64 0))⟩]

def f104r2 : List Abs.Op := [
  ⟨some 8, none, false, .bin .lss (.t 7) (.t 6)⟩]

def f104r3 : List Abs.Op := [
  ⟨some 9, none, false, .mv (.t 7)⟩,
  ⟨some 3, none, false, .mv (.t 9)⟩]

def f104r4 : List Abs.Op := [
  ⟨some 10, none, false, .mv (.t 0)⟩,
  ⟨some 11, none, false, .mv (.t 3)⟩,
  ⟨some 12, none, false, .pur (.sidx) [(.t 10), (.t 11)]⟩,
  ⟨some 13, none, false, .bin .geq (.t 12) (.c (.int .u8 97))⟩,
  ⟨some 14, none, false, .mv (.t 13)⟩,
  ⟨some 15, some (14, true), false, .mv (.t 0)⟩,
  ⟨some 16, some (14, true), false, .mv (.t 3)⟩,
  ⟨some 17, some (14, true), false, .pur (.sidx) [(.t 15), (.t 16)]⟩,
  ⟨some 18, some (14, true), false, .bin .leq (.t 17) (.c (.int .u8 122))⟩,
  ⟨some 19, none, false, .pick (.t 14) (.t 18) (.c (.bool false))⟩,
  ⟨some 4, none, false, .mv (.t 19)⟩]

def f104r5 : List Abs.Op := [
  ⟨some 20, none, false, .mv (.t 4)⟩,
  ⟨some 21, none, false, .un .not (.t 20)⟩,
  ⟨some 22, none, false, .mv (.t 21)⟩,
  ⟨some 23, some (22, true), false, .mv (.t 3)⟩,
  ⟨some 24, some (22, true), false, .bin .eql (.t 23) (.c (.int .i64 0))⟩,
  ⟨some 25, some (22, true), false, .mv (.t 24)⟩,
  ⟨some 26, some (25, false), false, .mv (.t 0)⟩,
  ⟨some 27, some (25, false), false, .mv (.t 3)⟩,
  ⟨some 28, some (25, false), false, .pur (.sidx) [(.t 26), (.t 27)]⟩,
  ⟨some 29, some (25, false), false, .bin .lss (.t 28) (.c (.int .u8 48))⟩,
  ⟨some 30, some (22, true), false, .pick (.t 25) (.c (.bool true)) (.t 29)⟩,
  ⟨some 31, some (22, true), false, .mv (.t 30)⟩,
  ⟨some 32, some (31, false), false, .mv (.t 0)⟩,
  ⟨some 33, some (31, false), false, .mv (.t 3)⟩,
  ⟨some 34, some (31, false), false, .pur (.sidx) [(.t 32), (.t 33)]⟩,
  ⟨some 35, some (31, false), false, .bin .gtr (.t 34) (.c (.int .u8 57))⟩,
  ⟨some 36, some (22, true), false, .pick (.t 31) (.c (.bool true)) (.t 35)⟩,
  ⟨some 37, none, false, .pick (.t 22) (.t 36) (.c (.bool false))⟩]

def f104r6 : List Abs.Op := [
  ⟨some 2, none, false, .mv (.c (.bool false))⟩]

def f104r7 : List Abs.Op := [
  ⟨some 38, none, false, .bin .add (.t 7) (.c (.int .i64 1))⟩,
  ⟨some 7, none, false, .mv (.t 38)⟩]

def f_field_named_l8 : Abs.Cmd :=
  (.seq (.reg [0, 6, 7, 8] f104r2) (.seq (.ite (.t 8) .nop (.exit 0)) (.seq (.blk 1 (.seq (.reg [0, 3, 6, 7] f104r3) (.seq (.reg [0, 3, 4, 6, 7] f104r4) (.seq (.reg [0, 6, 7, 37] f104r5) (.ite (.t 37) (.seq (.reg [2] f104r6) .ret) .nop))))) (.reg [0, 6, 7] f104r7))))

def f104r9 : List Abs.Op := [
  ⟨some 39, none, false, .mv (.t 0)⟩,
  ⟨some 40, none, false, .pur (.slen) [(.t 39)]⟩,
  ⟨some 41, none, false, .call false (.c (.fn i_field_within [] [])) [(.t 40), (.c (.int .i64 1)), (.c (.int .i64 16))]⟩,
  ⟨some 2, none, false, .mv (.t 41)⟩]

def a_field_named : Ann := ⟨[(8, [2]), (7, [0, 6, 7]), (6, [2]), (5, [0, 6, 7, 37]), (4, [0, 3, 4, 6, 7]), (3, [0, 3, 6, 7]), (2, [0, 6, 7, 8]), (1, [0, 6, 7]), (0, [0])], [(0, [0, 6, 7])], [], [], [], [], [], [], [], [], []⟩
def f_field_named : Abs.Fn := ⟨1, [.t 2],
  (.seq (.reg [0] f104r0) (.seq (.seq (.reg [0, 6, 7] f104r1) (.blk 0 (.loop [0, 6, 7] false f_field_named_l8))) (.seq (.reg [2] f104r9) .ret)))⟩

@[simp] theorem e104r0 : type_of% f104r0.eq_1 := by_rfl f104r0.eq_1
@[simp] theorem e104r1 : type_of% f104r1.eq_1 := by_rfl f104r1.eq_1
@[simp] theorem e104r2 : type_of% f104r2.eq_1 := by_rfl f104r2.eq_1
@[simp] theorem e104r3 : type_of% f104r3.eq_1 := by_rfl f104r3.eq_1
@[simp] theorem e104r4 : type_of% f104r4.eq_1 := by_rfl f104r4.eq_1
@[simp] theorem e104r5 : type_of% f104r5.eq_1 := by_rfl f104r5.eq_1
@[simp] theorem e104r6 : type_of% f104r6.eq_1 := by_rfl f104r6.eq_1
@[simp] theorem e104r7 : type_of% f104r7.eq_1 := by_rfl f104r7.eq_1
@[simp] theorem e104r9 : type_of% f104r9.eq_1 := by_rfl f104r9.eq_1
theorem e_field_named_l8 : type_of% f_field_named_l8.eq_1 := by_rfl f_field_named_l8.eq_1
theorem e_field_named : type_of% f_field_named.eq_1 := by_rfl f_field_named.eq_1
theorem ok_field_named : fnC Try.prog a_field_named Try.f104 = some f_field_named := by kernel_rfl

/-! 105 fumarole/field.all[int] -/
def f105r0 : List Abs.Op := [
  ⟨some 3, none, false, .boxi (.t 1)⟩,
  ⟨some 4, none, false, .mv (.c (.bool false))⟩]

def f105r1 : List Abs.Op := [
  ⟨some 5, none, false, .mv (.t 0)⟩,
  ⟨some 6, none, false, .mkf i_field_all_int_1 [] [(.t 3)]⟩,
  ⟨some 7, none, false, .call false (.c (.fn i_slices_ContainsFunc_int [] [])) [(.t 5), (.t 6)]⟩,
  ⟨some 8, none, false, .un .not (.t 7)⟩,
  ⟨some 4, none, false, .mv (.t 8)⟩]

def a_field_all_int : Ann := ⟨[(1, [4]), (0, [0, 3])], [], [], [], [], [], [], [], [], [], []⟩
def f_field_all_int : Abs.Fn := ⟨2, [.t 4],
  (.seq (.reg [0, 3] f105r0) (.seq (.reg [4] f105r1) .ret))⟩

@[simp] theorem e105r0 : type_of% f105r0.eq_1 := by_rfl f105r0.eq_1
@[simp] theorem e105r1 : type_of% f105r1.eq_1 := by_rfl f105r1.eq_1
theorem e_field_all_int : type_of% f_field_all_int.eq_1 := by_rfl f_field_all_int.eq_1
theorem ok_field_all_int : fnC Try.prog a_field_all_int Try.f105 = some f_field_all_int := by kernel_rfl

/-! 106 (fumarole/field.Field).model$1 -/
def f106r0 : List Abs.Op := [
  ⟨some 2, none, false, .mv (.c (.bool false))⟩]

def f106r1 : List Abs.Op := [
  ⟨some 3, none, false, .mv (.t 0)⟩,
  ⟨some 4, none, false, .call false (.c (.fn i_field_within [] [])) [(.t 3), (.c (.int .i64 (-100000))), (.c (.int .i64 100000))]⟩,
  ⟨some 2, none, false, .mv (.t 4)⟩]

def a_field_Field_model_1 : Ann := ⟨[(1, [2]), (0, [0])], [], [], [], [], [], [], [], [], [], []⟩
def f_field_Field_model_1 : Abs.Fn := ⟨1, [.t 2],
  (.seq (.reg [0] f106r0) (.seq (.reg [2] f106r1) .ret))⟩

@[simp] theorem e106r0 : type_of% f106r0.eq_1 := by_rfl f106r0.eq_1
@[simp] theorem e106r1 : type_of% f106r1.eq_1 := by_rfl f106r1.eq_1
theorem e_field_Field_model_1 : type_of% f_field_Field_model_1.eq_1 := by_rfl f_field_Field_model_1.eq_1
theorem ok_field_Field_model_1 : fnC Try.prog a_field_Field_model_1 Try.f106 = some f_field_Field_model_1 := by kernel_rfl

/-! 107 slices.IndexFunc[[]fumarole/steam.Row,fumarole/steam.Row] -/
def f107r0 : List Abs.Op := [
  ⟨some 4, none, false, .mv (.c (.int .i64 0))⟩]

def f107r1 : List Abs.Op := [
  ⟨some 6, none, false, .mv (.t 0)⟩,
  ⟨some 7, none, false, .lenS (.t 6)⟩,
  ⟨some 8, none, false, .mv (.c (.int .i64 0))⟩]

def f107r2 : List Abs.Op := [
  ⟨some 9, none, false, .bin .lss (.t 8) (.t 7)⟩]

def f107r3 : List Abs.Op := [
  ⟨some 10, none, false, .mv (.t 8)⟩,
  ⟨some 5, none, false, .mv (.t 10)⟩]

def f107r4 : List Abs.Op := [
  ⟨some 11, none, false, .mv (.t 1)⟩,
  ⟨some 12, none, false, .mv (.t 0)⟩,
  ⟨some 13, none, false, .mv (.t 5)⟩,
  ⟨some 14, none, false, .idxS 5 (.t 12) (.t 13)⟩,
  ⟨some 15, none, false, .ld true 5 (.t 14)⟩,
  ⟨some 16, none, false, .call false (.t 11) [(.t 15)]⟩]

def f107r5 : List Abs.Op := [
  ⟨some 17, none, false, .mv (.t 5)⟩,
  ⟨some 4, none, false, .mv (.t 17)⟩]

def f107r6 : List Abs.Op := [
  ⟨some 18, none, false, .bin .add (.t 8) (.c (.int .i64 1))⟩,
  ⟨some 8, none, false, .mv (.t 18)⟩]

def f_slices_IndexFunc_steam_Row_l7 : Abs.Cmd :=
  (.seq (.reg [0, 1, 7, 8, 9] f107r2) (.seq (.ite (.t 9) .nop (.exit 0)) (.seq (.blk 1 (.seq (.reg [0, 1, 5, 7, 8] f107r3) (.seq (.reg [0, 1, 5, 7, 8, 16] f107r4) (.ite (.t 16) (.seq (.reg [4] f107r5) .ret) .nop)))) (.reg [0, 1, 7, 8] f107r6))))

def f107r8 : List Abs.Op := [
  ⟨some 4, none, false, .mv (.c (.int .i64 (-1)))⟩]

def a_slices_IndexFunc_steam_Row : Ann := ⟨[(7, [4]), (6, [0, 1, 7, 8]), (5, [4]), (4, [0, 1, 5, 7, 8, 16]), (3, [0, 1, 5, 7, 8]), (2, [0, 1, 7, 8, 9]), (1, [0, 1, 7, 8]), (0, [0, 1])], [(0, [0, 1, 7, 8])], [], [], [], [], [], [], [], [], []⟩
def f_slices_IndexFunc_steam_Row : Abs.Fn := ⟨2, [.t 4],
  (.seq (.reg [0, 1] f107r0) (.seq (.seq (.reg [0, 1, 7, 8] f107r1) (.blk 0 (.loop [0, 1, 7, 8] false f_slices_IndexFunc_steam_Row_l7))) (.seq (.reg [4] f107r8) .ret)))⟩

@[simp] theorem e107r0 : type_of% f107r0.eq_1 := by_rfl f107r0.eq_1
@[simp] theorem e107r1 : type_of% f107r1.eq_1 := by_rfl f107r1.eq_1
@[simp] theorem e107r2 : type_of% f107r2.eq_1 := by_rfl f107r2.eq_1
@[simp] theorem e107r3 : type_of% f107r3.eq_1 := by_rfl f107r3.eq_1
@[simp] theorem e107r4 : type_of% f107r4.eq_1 := by_rfl f107r4.eq_1
@[simp] theorem e107r5 : type_of% f107r5.eq_1 := by_rfl f107r5.eq_1
@[simp] theorem e107r6 : type_of% f107r6.eq_1 := by_rfl f107r6.eq_1
@[simp] theorem e107r8 : type_of% f107r8.eq_1 := by_rfl f107r8.eq_1
theorem e_slices_IndexFunc_steam_Row_l7 : type_of% f_slices_IndexFunc_steam_Row_l7.eq_1 := by_rfl f_slices_IndexFunc_steam_Row_l7.eq_1
theorem e_slices_IndexFunc_steam_Row : type_of% f_slices_IndexFunc_steam_Row.eq_1 := by_rfl f_slices_IndexFunc_steam_Row.eq_1
theorem ok_slices_IndexFunc_steam_Row : fnC Try.prog a_slices_IndexFunc_steam_Row Try.f107 = some f_slices_IndexFunc_steam_Row := by kernel_rfl

/-! 108 fumarole/field.all[int]$1 -/
def f108r0 : List Abs.Op := [
  ⟨some 3, none, false, .mv (.c (.bool false))⟩]

def f108r1 : List Abs.Op := [
  ⟨some 4, none, false, .ld false 1 (.t 1)⟩,
  ⟨some 5, none, false, .mv (.t 0)⟩,
  ⟨some 6, none, false, .call false (.t 4) [(.t 5)]⟩,
  ⟨some 7, none, false, .un .not (.t 6)⟩,
  ⟨some 3, none, false, .mv (.t 7)⟩]

def a_field_all_int_1 : Ann := ⟨[(1, [3]), (0, [0, 1])], [], [], [], [], [], [], [], [], [], []⟩
def f_field_all_int_1 : Abs.Fn := ⟨2, [.t 3],
  (.seq (.reg [0, 1] f108r0) (.seq (.reg [3] f108r1) .ret))⟩

@[simp] theorem e108r0 : type_of% f108r0.eq_1 := by_rfl f108r0.eq_1
@[simp] theorem e108r1 : type_of% f108r1.eq_1 := by_rfl f108r1.eq_1
theorem e_field_all_int_1 : type_of% f_field_all_int_1.eq_1 := by_rfl f_field_all_int_1.eq_1
theorem ok_field_all_int_1 : fnC Try.prog a_field_all_int_1 Try.f108 = some f_field_all_int_1 := by kernel_rfl

end Go.Proofs.Ytehandllpmlcoaa
