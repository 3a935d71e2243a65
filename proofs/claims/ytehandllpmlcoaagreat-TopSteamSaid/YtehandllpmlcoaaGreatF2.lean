/- The code of functions of the program, in the small instruction set; each is what the translation makes of it. -/
import Derived.Test.YtehandllpmlcoaaGreatIds
set_option linter.unusedVariables false
set_option maxRecDepth 100000
namespace Go.Proofs.YtehandllpmlcoaaGreat
open Go Go.Abs
/-! 98 fumarole/fumaroleref02.Name -/
def f98r0 : List Abs.Op := [
  ⟨some 2, none, false, .mv (.c (.bool false))⟩]

def f98r1 : List Abs.Op := [
  ⟨some 3, none, false, .mv (.c (.int .i64 0))⟩]

def f98r2 : List Abs.Op := [
  ⟨some 5, none, false, .mv (.t 3)⟩,
  ⟨some 6, none, false, .mv (.t 0)⟩,
  ⟨some 7, none, false, .pur (.slen) [(.t 6)]⟩,
  ⟨some 8, none, false, .bin .lss (.t 5) (.t 7)⟩]

def f98r3 : List Abs.Op := [
  ⟨some 11, none, false, .mv (.t 0)⟩,
  ⟨some 12, none, false, .mv (.t 3)⟩,
  ⟨some 13, none, false, .pur (.sidx) [(.t 11), (.t 12)]⟩,
  ⟨some 14, none, false, .bin .geq (.t 13) (.c (.int .u8 97))⟩,
  ⟨some 15, none, false, .mv (.t 14)⟩,
  ⟨some 16, some (15, true), false, .mv (.t 0)⟩,
  ⟨some 17, some (15, true), false, .mv (.t 3)⟩,
  ⟨some 18, some (15, true), false, .pur (.sidx) [(.t 16), (.t 17)]⟩,
  ⟨some 19, some (15, true), false, .bin .leq (.t 18) (.c (.int .u8 122))⟩,
  ⟨some 20, none, false, .pick (.t 15) (.t 19) (.c (.bool false))⟩,
  ⟨some 4, none, false, .mv (.t 20)⟩]

def f98r4 : List Abs.Op := [
  ⟨some 21, none, false, .mv (.t 4)⟩,
  ⟨some 22, none, false, .un .not (.t 21)⟩,
  ⟨some 23, none, false, .mv (.t 22)⟩,
  ⟨some 24, some (23, true), false, .mv (.t 3)⟩,
  ⟨some 25, some (23, true), false, .bin .eql (.t 24) (.c (.int .i64 0))⟩,
  ⟨some 26, some (23, true), false, .mv (.t 25)⟩,
  ⟨some 27, some (26, false), false, .mv (.t 0)⟩,
  ⟨some 28, some (26, false), false, .mv (.t 3)⟩,
  ⟨some 29, some (26, false), false, .pur (.sidx) [(.t 27), (.t 28)]⟩,
  ⟨some 30, some (26, false), false, .bin .lss (.t 29) (.c (.int .u8 48))⟩,
  ⟨some 31, some (23, true), false, .pick (.t 26) (.c (.bool true)) (.t 30)⟩,
  ⟨some 32, some (23, true), false, .mv (.t 31)⟩,
  ⟨some 33, some (32, false), false, .mv (.t 0)⟩,
  ⟨some 34, some (32, false), false, .mv (.t 3)⟩,
  ⟨some 35, some (32, false), false, .pur (.sidx) [(.t 33), (.t 34)]⟩,
  ⟨some 36, some (32, false), false, .bin .gtr (.t 35) (.c (.int .u8 57))⟩,
  ⟨some 37, some (23, true), false, .pick (.t 32) (.c (.bool true)) (.t 36)⟩,
  ⟨some 38, none, false, .pick (.t 23) (.t 37) (.c (.bool false))⟩]

def f98r5 : List Abs.Op := [
  ⟨some 2, none, false, .mv (.c (.bool false))⟩]

def f98r6 : List Abs.Op := [
  ⟨some 9, none, false, .mv (.t 3)⟩,
  ⟨some 10, none, false, .bin .add (.t 9) (.c (.int .i64 1))⟩,
  ⟨some 3, none, false, .mv (.t 10)⟩]

def f_ref02_Name_l7 : Abs.Cmd :=
  (.seq (.seq (.reg [0, 3, 8] f98r2) (.ite (.t 8) .nop (.exit 0))) (.seq (.blk 1 (.seq (.reg [0, 3, 4] f98r3) (.seq (.reg [0, 3, 38] f98r4) (.ite (.t 38) (.seq (.reg [2] f98r5) .ret) .nop)))) (.reg [0, 3] f98r6)))

def f98r8 : List Abs.Op := [
  ⟨some 39, none, false, .mv (.t 0)⟩,
  ⟨some 40, none, false, .pur (.slen) [(.t 39)]⟩,
  ⟨some 41, none, false, .bin .geq (.t 40) (.c (.int .i64 1))⟩,
  ⟨some 42, none, false, .mv (.t 41)⟩,
  ⟨some 43, some (42, true), false, .mv (.t 0)⟩,
  ⟨some 44, some (42, true), false, .pur (.slen) [(.t 43)]⟩,
  ⟨some 45, some (42, true), false, .bin .leq (.t 44) (.c (.int .i64 16))⟩,
  ⟨some 46, none, false, .pick (.t 42) (.t 45) (.c (.bool false))⟩,
  ⟨some 2, none, false, .mv (.t 46)⟩]

def a_ref02_Name : Ann := ⟨[(7, [2]), (3, [0, 3]), (6, [2]), (5, [0, 3, 38]), (4, [0, 3, 4]), (2, [0, 3, 8]), (1, [0, 3]), (0, [0])], [(0, [0, 3])], [], [], [], [], [], [], [], [], []⟩
def f_ref02_Name : Abs.Fn := ⟨1, [.t 2],
  (.seq (.reg [0] f98r0) (.seq (.seq (.reg [0, 3] f98r1) (.blk 0 (.loop [0, 3] false f_ref02_Name_l7))) (.seq (.reg [2] f98r8) .ret)))⟩

@[simp] theorem e98r0 : type_of% f98r0.eq_1 := by_rfl f98r0.eq_1
@[simp] theorem e98r1 : type_of% f98r1.eq_1 := by_rfl f98r1.eq_1
@[simp] theorem e98r2 : type_of% f98r2.eq_1 := by_rfl f98r2.eq_1
@[simp] theorem e98r3 : type_of% f98r3.eq_1 := by_rfl f98r3.eq_1
@[simp] theorem e98r4 : type_of% f98r4.eq_1 := by_rfl f98r4.eq_1
@[simp] theorem e98r5 : type_of% f98r5.eq_1 := by_rfl f98r5.eq_1
@[simp] theorem e98r6 : type_of% f98r6.eq_1 := by_rfl f98r6.eq_1
@[simp] theorem e98r8 : type_of% f98r8.eq_1 := by_rfl f98r8.eq_1
theorem e_ref02_Name_l7 : type_of% f_ref02_Name_l7.eq_1 := by_rfl f_ref02_Name_l7.eq_1
theorem e_ref02_Name : type_of% f_ref02_Name.eq_1 := by_rfl f_ref02_Name.eq_1
theorem ok_ref02_Name : fnC Tryz.prog a_ref02_Name Tryz.f98 = some f_ref02_Name := by kernel_rfl

/-! 101 fumarole/field.first -/
def f101r0 : List Abs.Op := [
  ⟨some 2, none, false, .mv (.c (.int .i64 0))⟩]

def f101r1 : List Abs.Op := [
  ⟨some 6, none, false, .mv (.t 0)⟩,
  ⟨some 7, none, false, .lenS (.t 6)⟩,
  ⟨some 8, none, false, .mv (.c (.int .i64 0))⟩]

def f101r2 : List Abs.Op := [
  ⟨some 9, none, false, .bin .lss (.t 8) (.t 7)⟩]

def f101r3 : List Abs.Op := [
  ⟨some 10, none, false, .idxS 1 (.t 6) (.t 8)⟩,
  ⟨some 11, none, false, .ld false 1 (.t 10)⟩,
  ⟨some 4, none, false, .mv (.t 11)⟩]

def f101r4 : List Abs.Op := [
  ⟨some 12, none, false, .mv (.t 4)⟩,
  ⟨some 13, none, false, .call false (.t 12) []⟩,
  ⟨some 5, none, false, .mv (.t 13)⟩]

def f101r5 : List Abs.Op := [
  ⟨some 14, none, false, .mv (.t 5)⟩,
  ⟨some 15, none, false, .bin .neq (.t 14) (.c (.int .i64 0))⟩]

def f101r6 : List Abs.Op := [
  ⟨some 16, none, false, .mv (.t 5)⟩,
  ⟨some 2, none, false, .mv (.t 16)⟩]

def f101r7 : List Abs.Op := [
  ⟨some 17, none, false, .bin .add (.t 8) (.c (.int .i64 1))⟩,
  ⟨some 8, none, false, .mv (.t 17)⟩]

def f_field_first_l8 : Abs.Cmd :=
  (.seq (.reg [6, 7, 8, 9] f101r2) (.seq (.ite (.t 9) .nop (.exit 0)) (.seq (.blk 1 (.seq (.reg [4, 6, 7, 8] f101r3) (.seq (.reg [5, 6, 7, 8] f101r4) (.seq (.reg [5, 6, 7, 8, 15] f101r5) (.ite (.t 15) (.seq (.reg [2] f101r6) .ret) .nop))))) (.reg [6, 7, 8] f101r7))))

def f101r9 : List Abs.Op := [
  ⟨some 2, none, false, .mv (.c (.int .i64 0))⟩]

def a_field_first : Ann := ⟨[(8, [2]), (7, [6, 7, 8]), (6, [2]), (5, [5, 6, 7, 8, 15]), (4, [5, 6, 7, 8]), (3, [4, 6, 7, 8]), (2, [6, 7, 8, 9]), (1, [6, 7, 8]), (0, [0])], [(0, [6, 7, 8])], [], [], [], [], [], [], [], [], []⟩
def f_field_first : Abs.Fn := ⟨1, [.t 2],
  (.seq (.reg [0] f101r0) (.seq (.seq (.reg [6, 7, 8] f101r1) (.blk 0 (.loop [6, 7, 8] false f_field_first_l8))) (.seq (.reg [2] f101r9) .ret)))⟩

@[simp] theorem e101r0 : type_of% f101r0.eq_1 := by_rfl f101r0.eq_1
@[simp] theorem e101r1 : type_of% f101r1.eq_1 := by_rfl f101r1.eq_1
@[simp] theorem e101r2 : type_of% f101r2.eq_1 := by_rfl f101r2.eq_1
@[simp] theorem e101r3 : type_of% f101r3.eq_1 := by_rfl f101r3.eq_1
@[simp] theorem e101r4 : type_of% f101r4.eq_1 := by_rfl f101r4.eq_1
@[simp] theorem e101r5 : type_of% f101r5.eq_1 := by_rfl f101r5.eq_1
@[simp] theorem e101r6 : type_of% f101r6.eq_1 := by_rfl f101r6.eq_1
@[simp] theorem e101r7 : type_of% f101r7.eq_1 := by_rfl f101r7.eq_1
@[simp] theorem e101r9 : type_of% f101r9.eq_1 := by_rfl f101r9.eq_1
theorem e_field_first_l8 : type_of% f_field_first_l8.eq_1 := by_rfl f_field_first_l8.eq_1
theorem e_field_first : type_of% f_field_first.eq_1 := by_rfl f_field_first.eq_1
theorem ok_field_first : fnC Tryz.prog a_field_first Tryz.f101 = some f_field_first := by kernel_rfl

/-! 102 (fumarole/field.Field).shape -/
def f102r0 : List Abs.Op := [
  ⟨some 1, none, false, .boxi (.t 0)⟩,
  ⟨some 2, none, false, .mv (.c (.int .i64 0))⟩]

def f102r1 : List Abs.Op := [
  ⟨some 3, none, false, .ld true 4 (.t 1)⟩,
  ⟨some 4, none, false, .call false (.c (.fn i_field_Field_valid [] [])) [(.t 3)]⟩,
  ⟨some 5, none, false, .un .not (.t 4)⟩]

def f102r2 : List Abs.Op := [
  ⟨some 2, none, false, .mv (.c (.int .i64 1))⟩]

def f102r3 : List Abs.Op := [
  ⟨some 2, none, false, .mv (.c (.int .i64 0))⟩]

def a_field_Field_shape : Ann := ⟨[(3, [2]), (2, [2]), (1, [5]), (0, [1])], [], [], [], [], [], [], [], [], [], []⟩
def f_field_Field_shape : Abs.Fn := ⟨1, [.t 2],
  (.seq (.reg [1] f102r0) (.seq (.seq (.reg [5] f102r1) (.ite (.t 5) (.seq (.reg [2] f102r2) .ret) .nop)) (.seq (.reg [2] f102r3) .ret)))⟩

@[simp] theorem e102r0 : type_of% f102r0.eq_1 := by_rfl f102r0.eq_1
@[simp] theorem e102r1 : type_of% f102r1.eq_1 := by_rfl f102r1.eq_1
@[simp] theorem e102r2 : type_of% f102r2.eq_1 := by_rfl f102r2.eq_1
@[simp] theorem e102r3 : type_of% f102r3.eq_1 := by_rfl f102r3.eq_1
theorem e_field_Field_shape : type_of% f_field_Field_shape.eq_1 := by_rfl f_field_Field_shape.eq_1
theorem ok_field_Field_shape : fnC Tryz.prog a_field_Field_shape Tryz.f102 = some f_field_Field_shape := by kernel_rfl

/-! 104 (fumarole/field.Field).models -/
def f104r0 : List Abs.Op := [
  ⟨some 2, none, false, .boxi (.t 0)⟩,
  ⟨some 4, none, false, .mv (.c (.int .i64 0))⟩]

def f104r1 : List Abs.Op := [
  ⟨some 5, none, false, .mv (.t 1)⟩,
  ⟨some 6, none, false, .lenS (.t 5)⟩,
  ⟨some 7, none, false, .call false (.c (.fn i_field_within [] [])) [(.t 6), (.c (.int .i64 1)), (.c (.int .i64 40))]⟩,
  ⟨some 8, none, false, .un .not (.t 7)⟩]

def f104r2 : List Abs.Op := [
  ⟨some 4, none, false, .mv (.c (.int .i64 3))⟩]

def f104r3 : List Abs.Op := [
  ⟨some 9, none, false, .mv (.t 1)⟩,
  ⟨some 10, none, false, .mkf i_field_Field_models_1 [] [(.t 2)]⟩,
  ⟨some 11, none, false, .call false (.c (.fn i_field_each_field_Model [] [])) [(.t 9), (.t 10)]⟩,
  ⟨some 4, none, false, .mv (.t 11)⟩]

def a_field_Field_models : Ann := ⟨[(3, [4]), (2, [4]), (1, [1, 2, 8]), (0, [1, 2])], [], [], [], [], [], [], [], [], [], []⟩
def f_field_Field_models : Abs.Fn := ⟨2, [.t 4],
  (.seq (.reg [1, 2] f104r0) (.seq (.seq (.reg [1, 2, 8] f104r1) (.ite (.t 8) (.seq (.reg [4] f104r2) .ret) .nop)) (.seq (.reg [4] f104r3) .ret)))⟩

@[simp] theorem e104r0 : type_of% f104r0.eq_1 := by_rfl f104r0.eq_1
@[simp] theorem e104r1 : type_of% f104r1.eq_1 := by_rfl f104r1.eq_1
@[simp] theorem e104r2 : type_of% f104r2.eq_1 := by_rfl f104r2.eq_1
@[simp] theorem e104r3 : type_of% f104r3.eq_1 := by_rfl f104r3.eq_1
theorem e_field_Field_models : type_of% f_field_Field_models.eq_1 := by_rfl f_field_Field_models.eq_1
theorem ok_field_Field_models : fnC Tryz.prog a_field_Field_models Tryz.f104 = some f_field_Field_models := by kernel_rfl

/-! 111 (fumarole/field.Field).valid -/
def f111r0 : List Abs.Op := [
  ⟨some 1, none, false, .boxi (.t 0)⟩,
  ⟨some 2, none, false, .mv (.c (.bool false))⟩]

def f111r1 : List Abs.Op := [
  ⟨some 3, none, false, .fadr 0 (.t 1)⟩,
  ⟨some 4, none, false, .ld false 1 (.t 3)⟩,
  ⟨some 5, none, false, .call false (.c (.fn i_field_within [] [])) [(.t 4), (.c (.int .i64 1)), (.c (.int .i64 8))]⟩,
  ⟨some 6, none, false, .mv (.t 5)⟩,
  ⟨some 7, some (6, true), false, .fadr 1 (.t 1)⟩,
  ⟨some 8, some (6, true), false, .ld false 1 (.t 7)⟩,
  ⟨some 9, some (6, true), false, .call false (.c (.fn i_field_within [] [])) [(.t 8), (.c (.int .i64 1)), (.c (.int .i64 8))]⟩,
  ⟨some 10, none, false, .pick (.t 6) (.t 9) (.c (.bool false))⟩,
  ⟨some 11, none, false, .mv (.t 10)⟩,
  ⟨some 12, some (11, true), false, .fadr 2 (.t 1)⟩,
  ⟨some 13, some (11, true), false, .ld false 1 (.t 12)⟩,
  ⟨some 14, some (11, true), false, .call false (.c (.fn i_field_within [] [])) [(.t 13), (.c (.int .i64 1)), (.c (.int .i64 8))]⟩,
  ⟨some 15, none, false, .pick (.t 11) (.t 14) (.c (.bool false))⟩,
  ⟨some 16, none, false, .mv (.t 15)⟩,
  ⟨some 17, some (16, true), false, .ld true 4 (.t 1)⟩,
  ⟨some 18, some (16, true), false, .call false (.c (.fn i_field_Field_blocks [] [])) [(.t 17)]⟩,
  ⟨some 19, some (16, true), false, .bin .leq (.t 18) (.c (.int .i64 64))⟩,
  ⟨some 20, none, false, .pick (.t 16) (.t 19) (.c (.bool false))⟩,
  ⟨some 21, none, false, .mv (.t 20)⟩,
  ⟨some 22, some (21, true), false, .fadr 3 (.t 1)⟩,
  ⟨some 23, some (21, true), false, .ld false 1 (.t 22)⟩,
  ⟨some 24, some (21, true), false, .call false (.c (.fn i_field_within [] [])) [(.t 23), (.c (.int .i64 1)), (.c (.int .i64 6))]⟩,
  ⟨some 25, none, false, .pick (.t 21) (.t 24) (.c (.bool false))⟩,
  ⟨some 2, none, false, .mv (.t 25)⟩]

def a_field_Field_valid : Ann := ⟨[(1, [2]), (0, [1])], [], [], [], [], [], [], [], [], [], []⟩
def f_field_Field_valid : Abs.Fn := ⟨1, [.t 2],
  (.seq (.reg [1] f111r0) (.seq (.reg [2] f111r1) .ret))⟩

@[simp] theorem e111r0 : type_of% f111r0.eq_1 := by_rfl f111r0.eq_1
@[simp] theorem e111r1 : type_of% f111r1.eq_1 := by_rfl f111r1.eq_1
theorem e_field_Field_valid : type_of% f_field_Field_valid.eq_1 := by_rfl f_field_Field_valid.eq_1
theorem ok_field_Field_valid : fnC Tryz.prog a_field_Field_valid Tryz.f111 = some f_field_Field_valid := by kernel_rfl

/-! 112 fumarole/field.within -/
def f112r0 : List Abs.Op := [
  ⟨some 6, none, false, .mv (.c (.bool false))⟩]

def f112r1 : List Abs.Op := [
  ⟨some 7, none, false, .mv (.t 1)⟩,
  ⟨some 8, none, false, .mv (.t 0)⟩,
  ⟨some 9, none, false, .bin .leq (.t 7) (.t 8)⟩,
  ⟨some 10, none, false, .mv (.t 9)⟩,
  ⟨some 11, some (10, true), false, .mv (.t 0)⟩,
  ⟨some 12, some (10, true), false, .mv (.t 2)⟩,
  ⟨some 13, some (10, true), false, .bin .leq (.t 11) (.t 12)⟩,
  ⟨some 14, none, false, .pick (.t 10) (.t 13) (.c (.bool false))⟩,
  ⟨some 6, none, false, .mv (.t 14)⟩]

def a_field_within : Ann := ⟨[(1, [6]), (0, [0, 1, 2])], [], [], [], [], [], [], [], [], [], []⟩
def f_field_within : Abs.Fn := ⟨3, [.t 6],
  (.seq (.reg [0, 1, 2] f112r0) (.seq (.reg [6] f112r1) .ret))⟩

@[simp] theorem e112r0 : type_of% f112r0.eq_1 := by_rfl f112r0.eq_1
@[simp] theorem e112r1 : type_of% f112r1.eq_1 := by_rfl f112r1.eq_1
theorem e_field_within : type_of% f_field_within.eq_1 := by_rfl f_field_within.eq_1
theorem ok_field_within : fnC Tryz.prog a_field_within Tryz.f112 = some f_field_within := by kernel_rfl

/-! 113 (fumarole/field.Field).blocks -/
def f113r0 : List Abs.Op := [
  ⟨some 1, none, false, .boxi (.t 0)⟩,
  ⟨some 2, none, false, .mv (.c (.int .i64 0))⟩]

def f113r1 : List Abs.Op := [
  ⟨some 3, none, false, .fadr 0 (.t 1)⟩,
  ⟨some 4, none, false, .ld false 1 (.t 3)⟩,
  ⟨some 5, none, false, .fadr 1 (.t 1)⟩,
  ⟨some 6, none, false, .ld false 1 (.t 5)⟩,
  ⟨some 7, none, false, .bin .mul (.t 4) (.t 6)⟩,
  ⟨some 8, none, false, .fadr 2 (.t 1)⟩,
  ⟨some 9, none, false, .ld false 1 (.t 8)⟩,
  ⟨some 10, none, false, .bin .mul (.t 7) (.t 9)⟩,
  ⟨some 2, none, false, .mv (.t 10)⟩]

def a_field_Field_blocks : Ann := ⟨[(1, [2]), (0, [1])], [], [], [], [], [], [], [], [], [], []⟩
def f_field_Field_blocks : Abs.Fn := ⟨1, [.t 2],
  (.seq (.reg [1] f113r0) (.seq (.reg [2] f113r1) .ret))⟩

@[simp] theorem e113r0 : type_of% f113r0.eq_1 := by_rfl f113r0.eq_1
@[simp] theorem e113r1 : type_of% f113r1.eq_1 := by_rfl f113r1.eq_1
theorem e_field_Field_blocks : type_of% f_field_Field_blocks.eq_1 := by_rfl f_field_Field_blocks.eq_1
theorem ok_field_Field_blocks : fnC Tryz.prog a_field_Field_blocks Tryz.f113 = some f_field_Field_blocks := by kernel_rfl

/-! 122 fumarole/fumaroleref02.In -/
def f122r0 : List Abs.Op := [
  ⟨some 6, none, false, .mv (.c (.bool false))⟩]

def f122r1 : List Abs.Op := [
  ⟨some 7, none, false, .mv (.t 0)⟩,
  ⟨some 8, none, false, .mv (.t 1)⟩,
  ⟨some 9, none, false, .bin .geq (.t 7) (.t 8)⟩,
  ⟨some 10, none, false, .mv (.t 9)⟩,
  ⟨some 11, some (10, true), false, .mv (.t 0)⟩,
  ⟨some 12, some (10, true), false, .mv (.t 2)⟩,
  ⟨some 13, some (10, true), false, .bin .leq (.t 11) (.t 12)⟩,
  ⟨some 14, none, false, .pick (.t 10) (.t 13) (.c (.bool false))⟩,
  ⟨some 6, none, false, .mv (.t 14)⟩]

def a_ref02_In : Ann := ⟨[(1, [6]), (0, [0, 1, 2])], [], [], [], [], [], [], [], [], [], []⟩
def f_ref02_In : Abs.Fn := ⟨3, [.t 6],
  (.seq (.reg [0, 1, 2] f122r0) (.seq (.reg [6] f122r1) .ret))⟩

@[simp] theorem e122r0 : type_of% f122r0.eq_1 := by_rfl f122r0.eq_1
@[simp] theorem e122r1 : type_of% f122r1.eq_1 := by_rfl f122r1.eq_1
theorem e_ref02_In : type_of% f_ref02_In.eq_1 := by_rfl f_ref02_In.eq_1
theorem ok_ref02_In : fnC Tryz.prog a_ref02_In Tryz.f122 = some f_ref02_In := by kernel_rfl

/-! 123 fumarole/fumaroleref02.ModelFault -/
def f123r0 : List Abs.Op := [
  ⟨some 2, none, false, .boxi (.t 0)⟩,
  ⟨some 3, none, false, .boxi (.t 1)⟩,
  ⟨some 4, none, false, .mv (.c (.int .i64 0))⟩]

def f123r1 : List Abs.Op := [
  ⟨some 6, none, false, .fadr 0 (.t 3)⟩,
  ⟨some 7, none, false, .ld false 1 (.t 6)⟩,
  ⟨some 8, none, false, .call false (.c (.fn i_ref02_Name [] [])) [(.t 7)]⟩,
  ⟨some 9, none, false, .un .not (.t 8)⟩]

def f123r2 : List Abs.Op := [
  ⟨some 4, none, false, .mv (.c (.int .i64 5))⟩]

def f123r3 : List Abs.Op := [
  ⟨some 10, none, true, .fadr 1 (.t 3)⟩,
  ⟨some 11, none, true, .ld false 1 (.t 10)⟩,
  ⟨some 12, none, true, .lenS (.t 11)⟩,
  ⟨some 13, none, true, .fadr 3 (.t 2)⟩,
  ⟨some 14, none, true, .ld false 1 (.t 13)⟩,
  ⟨some 15, none, true, .ld true 4 (.t 2)⟩,
  ⟨some 16, none, true, .call false (.c (.fn i_ref02_Size [] [])) [(.t 15)]⟩,
  ⟨some 17, none, true, .bin .mul (.t 14) (.t 16)⟩,
  ⟨some 18, none, false, .bin .neq (.t 12) (.t 17)⟩]

def f123r4 : List Abs.Op := [
  ⟨some 4, none, false, .mv (.c (.int .i64 1))⟩]

def f123r5 : List Abs.Op := [
  ⟨some 5, none, false, .mv (.c (.int .i64 0))⟩]

def f123r6 : List Abs.Op := [
  ⟨some 19, none, false, .mv (.t 5)⟩,
  ⟨some 20, none, false, .fadr 1 (.t 3)⟩,
  ⟨some 21, none, false, .ld false 1 (.t 20)⟩,
  ⟨some 22, none, false, .lenS (.t 21)⟩,
  ⟨some 23, none, false, .bin .lss (.t 19) (.t 22)⟩]

def f123r7 : List Abs.Op := [
  ⟨some 26, none, false, .fadr 1 (.t 3)⟩,
  ⟨some 27, none, false, .ld false 1 (.t 26)⟩,
  ⟨some 28, none, false, .mv (.t 5)⟩,
  ⟨some 29, none, false, .idxS 1 (.t 27) (.t 28)⟩,
  ⟨some 30, none, false, .ld false 1 (.t 29)⟩,
  ⟨some 31, none, false, .call false (.c (.fn i_ref02_In [] [])) [(.t 30), (.c (.int .i64 (-100000))), (.c (.int .i64 100000))]⟩,
  ⟨some 32, none, false, .un .not (.t 31)⟩]

def f123r8 : List Abs.Op := [
  ⟨some 4, none, false, .mv (.c (.int .i64 1))⟩]

def f123r9 : List Abs.Op := [
  ⟨some 24, none, false, .mv (.t 5)⟩,
  ⟨some 25, none, false, .bin .add (.t 24) (.c (.int .i64 1))⟩,
  ⟨some 5, none, false, .mv (.t 25)⟩]

def f_ref02_ModelFault_l10 : Abs.Cmd :=
  (.seq (.seq (.reg [3, 5, 23] f123r6) (.ite (.t 23) .nop (.exit 0))) (.seq (.blk 1 (.seq (.reg [3, 5, 32] f123r7) (.ite (.t 32) (.seq (.reg [4] f123r8) .ret) .nop))) (.reg [3, 5] f123r9)))

def f123r11 : List Abs.Op := [
  ⟨some 4, none, false, .mv (.c (.int .i64 0))⟩]

def a_ref02_ModelFault : Ann := ⟨[(10, [4]), (7, [3, 5]), (9, [4]), (8, [3, 5, 32]), (6, [3, 5, 23]), (5, [3, 5]), (4, [4]), (3, [3, 18]), (2, [4]), (1, [2, 3, 9]), (0, [2, 3])], [(0, [3, 5])], [], [], [], [], [], [], [], [], []⟩
def f_ref02_ModelFault : Abs.Fn := ⟨2, [.t 4],
  (.seq (.reg [2, 3] f123r0) (.seq (.seq (.reg [2, 3, 9] f123r1) (.ite (.t 9) (.seq (.reg [4] f123r2) .ret) .nop)) (.seq (.seq (.reg [3, 18] f123r3) (.ite (.t 18) (.seq (.reg [4] f123r4) .ret) .nop)) (.seq (.seq (.reg [3, 5] f123r5) (.blk 0 (.loop [3, 5] false f_ref02_ModelFault_l10))) (.seq (.reg [4] f123r11) .ret)))))⟩

@[simp] theorem e123r0 : type_of% f123r0.eq_1 := by_rfl f123r0.eq_1
@[simp] theorem e123r1 : type_of% f123r1.eq_1 := by_rfl f123r1.eq_1
@[simp] theorem e123r2 : type_of% f123r2.eq_1 := by_rfl f123r2.eq_1
@[simp] theorem e123r3 : type_of% f123r3.eq_1 := by_rfl f123r3.eq_1
@[simp] theorem e123r4 : type_of% f123r4.eq_1 := by_rfl f123r4.eq_1
@[simp] theorem e123r5 : type_of% f123r5.eq_1 := by_rfl f123r5.eq_1
@[simp] theorem e123r6 : type_of% f123r6.eq_1 := by_rfl f123r6.eq_1
@[simp] theorem e123r7 : type_of% f123r7.eq_1 := by_rfl f123r7.eq_1
@[simp] theorem e123r8 : type_of% f123r8.eq_1 := by_rfl f123r8.eq_1
@[simp] theorem e123r9 : type_of% f123r9.eq_1 := by_rfl f123r9.eq_1
@[simp] theorem e123r11 : type_of% f123r11.eq_1 := by_rfl f123r11.eq_1
theorem e_ref02_ModelFault_l10 : type_of% f_ref02_ModelFault_l10.eq_1 := by_rfl f_ref02_ModelFault_l10.eq_1
theorem e_ref02_ModelFault : type_of% f_ref02_ModelFault.eq_1 := by_rfl f_ref02_ModelFault.eq_1
theorem ok_ref02_ModelFault : fnC Tryz.prog a_ref02_ModelFault Tryz.f123 = some f_ref02_ModelFault := by kernel_rfl

/-! 124 fumarole/fumaroleref05.Value -/
def f124r0 : List Abs.Op := [
  ⟨some 4, none, false, .boxi (.t 0)⟩,
  ⟨some 5, none, false, .boxi (.t 1)⟩,
  ⟨some 8, none, false, .mv (.c (.int .i64 0))⟩]

def f124r1 : List Abs.Op := [
  ⟨some 9, none, true, .fadr 1 (.t 5)⟩,
  ⟨some 10, none, true, .ld false 1 (.t 9)⟩,
  ⟨some 11, none, true, .mv (.t 2)⟩,
  ⟨some 12, none, true, .fadr 0 (.t 4)⟩,
  ⟨some 13, none, true, .ld true 4 (.t 12)⟩,
  ⟨some 14, none, true, .call false (.c (.fn i_ref02_Size [] [])) [(.t 13)]⟩,
  ⟨some 15, none, true, .bin .mul (.t 11) (.t 14)⟩,
  ⟨some 16, none, true, .mv (.t 3)⟩,
  ⟨some 17, none, true, .bin .add (.t 15) (.t 16)⟩,
  ⟨some 18, none, false, .idxS 1 (.t 10) (.t 17)⟩,
  ⟨some 19, none, false, .ld false 1 (.t 18)⟩,
  ⟨some 8, none, false, .mv (.t 19)⟩]

def a_ref05_Value : Ann := ⟨[(1, [8]), (0, [2, 3, 4, 5])], [], [], [], [], [], [], [], [], [], []⟩
def f_ref05_Value : Abs.Fn := ⟨4, [.t 8],
  (.seq (.reg [2, 3, 4, 5] f124r0) (.seq (.reg [8] f124r1) .ret))⟩

@[simp] theorem e124r0 : type_of% f124r0.eq_1 := by_rfl f124r0.eq_1
@[simp] theorem e124r1 : type_of% f124r1.eq_1 := by_rfl f124r1.eq_1
theorem e_ref05_Value : type_of% f_ref05_Value.eq_1 := by_rfl f_ref05_Value.eq_1
theorem ok_ref05_Value : fnC Tryz.prog a_ref05_Value Tryz.f124 = some f_ref05_Value := by kernel_rfl

/-! 125 fumarole/field.CheckField -/
def f125r0 : List Abs.Op := [
  ⟨some 1, none, false, .boxi (.t 0)⟩,
  ⟨some 2, none, false, .mv (.c (.int .i64 0))⟩]

def f125r1 : List Abs.Op := [
  ⟨some 3, none, false, .ld true 4 (.t 1)⟩,
  ⟨some 4, none, false, .call false (.c (.fn i_field_Field_shape [] [])) [(.t 3)]⟩,
  ⟨some 2, none, false, .mv (.t 4)⟩]

def a_field_CheckField : Ann := ⟨[(1, [2]), (0, [1])], [], [], [], [], [], [], [], [], [], []⟩
def f_field_CheckField : Abs.Fn := ⟨1, [.t 2],
  (.seq (.reg [1] f125r0) (.seq (.reg [2] f125r1) .ret))⟩

@[simp] theorem e125r0 : type_of% f125r0.eq_1 := by_rfl f125r0.eq_1
@[simp] theorem e125r1 : type_of% f125r1.eq_1 := by_rfl f125r1.eq_1
theorem e_field_CheckField : type_of% f_field_CheckField.eq_1 := by_rfl f_field_CheckField.eq_1
theorem ok_field_CheckField : fnC Tryz.prog a_field_CheckField Tryz.f125 = some f_field_CheckField := by kernel_rfl

/-! 126 fumarole/steam.CheckTable -/
def f126r0 : List Abs.Op := [
  ⟨some 2, none, false, .mv (.c (.int .i64 0))⟩]

def f126r1 : List Abs.Op := [
  ⟨some 3, none, false, .mv (.t 0)⟩,
  ⟨some 4, none, false, .call false (.c (.fn i_steam_Table_valid [] [])) [(.t 3)]⟩,
  ⟨some 5, none, false, .un .not (.t 4)⟩]

def f126r2 : List Abs.Op := [
  ⟨some 2, none, false, .mv (.c (.int .i64 1))⟩]

def f126r3 : List Abs.Op := [
  ⟨some 2, none, false, .mv (.c (.int .i64 0))⟩]

def a_steam_CheckTable : Ann := ⟨[(3, [2]), (2, [2]), (1, [5]), (0, [0])], [], [], [], [], [], [], [], [], [], []⟩
def f_steam_CheckTable : Abs.Fn := ⟨1, [.t 2],
  (.seq (.reg [0] f126r0) (.seq (.seq (.reg [5] f126r1) (.ite (.t 5) (.seq (.reg [2] f126r2) .ret) .nop)) (.seq (.reg [2] f126r3) .ret)))⟩

@[simp] theorem e126r0 : type_of% f126r0.eq_1 := by_rfl f126r0.eq_1
@[simp] theorem e126r1 : type_of% f126r1.eq_1 := by_rfl f126r1.eq_1
@[simp] theorem e126r2 : type_of% f126r2.eq_1 := by_rfl f126r2.eq_1
@[simp] theorem e126r3 : type_of% f126r3.eq_1 := by_rfl f126r3.eq_1
theorem e_steam_CheckTable : type_of% f_steam_CheckTable.eq_1 := by_rfl f_steam_CheckTable.eq_1
theorem ok_steam_CheckTable : fnC Tryz.prog a_steam_CheckTable Tryz.f126 = some f_steam_CheckTable := by kernel_rfl

/-! 127 fumarole/rock.all[fumarole/rock.Bore] -/
def f127r0 : List Abs.Op := [
  ⟨some 3, none, false, .boxi (.t 1)⟩,
  ⟨some 4, none, false, .mv (.c (.bool false))⟩]

def f127r1 : List Abs.Op := [
  ⟨some 5, none, false, .mv (.t 0)⟩,
  ⟨some 6, none, false, .mkf i_rock_all_rock_Bore_1 [] [(.t 3)]⟩,
  ⟨some 7, none, false, .call false (.c (.fn i_slices_ContainsFunc_rock_Bore [] [])) [(.t 5), (.t 6)]⟩,
  ⟨some 8, none, false, .un .not (.t 7)⟩,
  ⟨some 4, none, false, .mv (.t 8)⟩]

def a_rock_all_rock_Bore : Ann := ⟨[(1, [4]), (0, [0, 3])], [], [], [], [], [], [], [], [], [], []⟩
def f_rock_all_rock_Bore : Abs.Fn := ⟨2, [.t 4],
  (.seq (.reg [0, 3] f127r0) (.seq (.reg [4] f127r1) .ret))⟩

@[simp] theorem e127r0 : type_of% f127r0.eq_1 := by_rfl f127r0.eq_1
@[simp] theorem e127r1 : type_of% f127r1.eq_1 := by_rfl f127r1.eq_1
theorem e_rock_all_rock_Bore : type_of% f_rock_all_rock_Bore.eq_1 := by_rfl f_rock_all_rock_Bore.eq_1
theorem ok_rock_all_rock_Bore : fnC Tryz.prog a_rock_all_rock_Bore Tryz.f127 = some f_rock_all_rock_Bore := by kernel_rfl

/-! 128 (fumarole/rock.Bed).valid$1 -/
def f128r0 : List Abs.Op := [
  ⟨some 2, none, false, .boxi (.t 0)⟩,
  ⟨some 3, none, false, .mv (.c (.bool false))⟩]

def f128r1 : List Abs.Op := [
  ⟨some 4, none, false, .fadr 0 (.t 2)⟩,
  ⟨some 5, none, false, .ld false 1 (.t 4)⟩,
  ⟨some 6, none, false, .ld false 1 (.t 1)⟩,
  ⟨some 7, none, false, .lenS (.t 6)⟩,
  ⟨some 8, none, false, .bin .sub (.t 7) (.c (.int .i64 1))⟩,
  ⟨some 9, none, false, .call false (.c (.fn i_rock_within [] [])) [(.t 5), (.c (.int .i64 0)), (.t 8)]⟩,
  ⟨some 10, none, false, .un .not (.t 9)⟩,
  ⟨some 11, none, false, .mv (.t 10)⟩,
  ⟨some 12, some (11, false), false, .ld false 1 (.t 1)⟩,
  ⟨some 13, some (11, false), false, .fadr 0 (.t 2)⟩,
  ⟨some 14, some (11, false), false, .ld false 1 (.t 13)⟩,
  ⟨some 15, some (11, false), false, .idxS 1 (.t 12) (.t 14)⟩,
  ⟨some 16, some (11, false), false, .ld false 1 (.t 15)⟩,
  ⟨some 17, none, false, .pick (.t 11) (.c (.bool true)) (.t 16)⟩]

def f128r2 : List Abs.Op := [
  ⟨some 3, none, false, .mv (.c (.bool false))⟩]

def f128r3 : List Abs.Op := [
  ⟨some 18, none, false, .ld false 1 (.t 1)⟩,
  ⟨some 19, none, false, .fadr 0 (.t 2)⟩,
  ⟨some 20, none, false, .ld false 1 (.t 19)⟩,
  ⟨some 21, none, false, .idxS 1 (.t 18) (.t 20)⟩,
  ⟨none, none, false, .st [] 1 (.t 21) (.c (.bool true))⟩]

def f128r4 : List Abs.Op := [
  ⟨some 22, none, false, .fadr 1 (.t 2)⟩,
  ⟨some 23, none, false, .ld false 1 (.t 22)⟩,
  ⟨some 24, none, false, .call false (.c (.fn i_rock_within [] [])) [(.t 23), (.c (.int .i64 0)), (.c (.int .i64 3000))]⟩,
  ⟨some 25, none, false, .mv (.t 24)⟩,
  ⟨some 26, some (25, true), false, .fadr 2 (.t 2)⟩,
  ⟨some 27, some (25, true), false, .ld false 1 (.t 26)⟩,
  ⟨some 28, some (25, true), false, .call false (.c (.fn i_rock_within [] [])) [(.t 27), (.c (.int .i64 0)), (.c (.int .i64 1000000))]⟩,
  ⟨some 29, none, false, .pick (.t 25) (.t 28) (.c (.bool false))⟩,
  ⟨some 3, none, false, .mv (.t 29)⟩]

def a_rock_Bed_valid_1 : Ann := ⟨[(4, [3]), (3, [2]), (2, [3]), (1, [1, 2, 17]), (0, [1, 2])], [], [], [], [], [], [], [], [], [], []⟩
def f_rock_Bed_valid_1 : Abs.Fn := ⟨2, [.t 3],
  (.seq (.reg [1, 2] f128r0) (.seq (.seq (.reg [1, 2, 17] f128r1) (.ite (.t 17) (.seq (.reg [3] f128r2) .ret) .nop)) (.seq (.reg [2] f128r3) (.seq (.reg [3] f128r4) .ret))))⟩

@[simp] theorem e128r0 : type_of% f128r0.eq_1 := by_rfl f128r0.eq_1
@[simp] theorem e128r1 : type_of% f128r1.eq_1 := by_rfl f128r1.eq_1
@[simp] theorem e128r2 : type_of% f128r2.eq_1 := by_rfl f128r2.eq_1
@[simp] theorem e128r3 : type_of% f128r3.eq_1 := by_rfl f128r3.eq_1
@[simp] theorem e128r4 : type_of% f128r4.eq_1 := by_rfl f128r4.eq_1
theorem e_rock_Bed_valid_1 : type_of% f_rock_Bed_valid_1.eq_1 := by_rfl f_rock_Bed_valid_1.eq_1
theorem ok_rock_Bed_valid_1 : fnC Tryz.prog a_rock_Bed_valid_1 Tryz.f128 = some f_rock_Bed_valid_1 := by kernel_rfl

/-! 129 fumarole/field.CheckModels$1 -/
def f129r0 : List Abs.Op := [
  ⟨some 2, none, false, .mv (.c (.int .i64 0))⟩]

def f129r1 : List Abs.Op := [
  ⟨some 3, none, false, .ld true 4 (.t 0)⟩,
  ⟨some 4, none, false, .ld false 1 (.t 1)⟩,
  ⟨some 5, none, false, .call false (.c (.fn i_field_Field_models [] [])) [(.t 3), (.t 4)]⟩,
  ⟨some 2, none, false, .mv (.t 5)⟩]

def a_field_CheckModels_1 : Ann := ⟨[(1, [2]), (0, [0, 1])], [], [], [], [], [], [], [], [], [], []⟩
def f_field_CheckModels_1 : Abs.Fn := ⟨2, [.t 2],
  (.seq (.reg [0, 1] f129r0) (.seq (.reg [2] f129r1) .ret))⟩

@[simp] theorem e129r0 : type_of% f129r0.eq_1 := by_rfl f129r0.eq_1
@[simp] theorem e129r1 : type_of% f129r1.eq_1 := by_rfl f129r1.eq_1
theorem e_field_CheckModels_1 : type_of% f_field_CheckModels_1.eq_1 := by_rfl f_field_CheckModels_1.eq_1
theorem ok_field_CheckModels_1 : fnC Tryz.prog a_field_CheckModels_1 Tryz.f129 = some f_field_CheckModels_1 := by kernel_rfl

/-! 130 slices.ContainsFunc[[]fumarole/field.Model,fumarole/field.Model] -/
def f130r0 : List Abs.Op := [
  ⟨some 4, none, false, .mv (.c (.bool false))⟩]

def f130r1 : List Abs.Op := [
  ⟨some 5, none, false, .mv (.t 0)⟩,
  ⟨some 6, none, false, .mv (.t 1)⟩,
  ⟨some 7, none, false, .call false (.c (.fn i_slices_IndexFunc_field_Model [] [])) [(.t 5), (.t 6)]⟩,
  ⟨some 8, none, false, .bin .geq (.t 7) (.c (.int .i64 0))⟩,
  ⟨some 4, none, false, .mv (.t 8)⟩]

def a_slices_ContainsFunc_field_Model : Ann := ⟨[(1, [4]), (0, [0, 1])], [], [], [], [], [], [], [], [], [], []⟩
def f_slices_ContainsFunc_field_Model : Abs.Fn := ⟨2, [.t 4],
  (.seq (.reg [0, 1] f130r0) (.seq (.reg [4] f130r1) .ret))⟩

@[simp] theorem e130r0 : type_of% f130r0.eq_1 := by_rfl f130r0.eq_1
@[simp] theorem e130r1 : type_of% f130r1.eq_1 := by_rfl f130r1.eq_1
theorem e_slices_ContainsFunc_field_Model : type_of% f_slices_ContainsFunc_field_Model.eq_1 := by_rfl f_slices_ContainsFunc_field_Model.eq_1
theorem ok_slices_ContainsFunc_field_Model : fnC Tryz.prog a_slices_ContainsFunc_field_Model Tryz.f130 = some f_slices_ContainsFunc_field_Model := by kernel_rfl

/-! 131 fumarole/rock.all[fumarole/field.Model]$1 -/
def f131r0 : List Abs.Op := [
  ⟨some 2, none, false, .boxi (.t 0)⟩,
  ⟨some 3, none, false, .mv (.c (.bool false))⟩]

def f131r1 : List Abs.Op := [
  ⟨some 4, none, false, .ld false 1 (.t 1)⟩,
  ⟨some 5, none, false, .ld true 2 (.t 2)⟩,
  ⟨some 6, none, false, .call false (.t 4) [(.t 5)]⟩,
  ⟨some 7, none, false, .un .not (.t 6)⟩,
  ⟨some 3, none, false, .mv (.t 7)⟩]

def a_rock_all_field_Model_1 : Ann := ⟨[(1, [3]), (0, [1, 2])], [], [], [], [], [], [], [], [], [], []⟩
def f_rock_all_field_Model_1 : Abs.Fn := ⟨2, [.t 3],
  (.seq (.reg [1, 2] f131r0) (.seq (.reg [3] f131r1) .ret))⟩

@[simp] theorem e131r0 : type_of% f131r0.eq_1 := by_rfl f131r0.eq_1
@[simp] theorem e131r1 : type_of% f131r1.eq_1 := by_rfl f131r1.eq_1
theorem e_rock_all_field_Model_1 : type_of% f_rock_all_field_Model_1.eq_1 := by_rfl f_rock_all_field_Model_1.eq_1
theorem ok_rock_all_field_Model_1 : fnC Tryz.prog a_rock_all_field_Model_1 Tryz.f131 = some f_rock_all_field_Model_1 := by kernel_rfl

/-! 132 fumarole/rock.all[int] -/
def f132r0 : List Abs.Op := [
  ⟨some 3, none, false, .boxi (.t 1)⟩,
  ⟨some 4, none, false, .mv (.c (.bool false))⟩]

def f132r1 : List Abs.Op := [
  ⟨some 5, none, false, .mv (.t 0)⟩,
  ⟨some 6, none, false, .mkf i_rock_all_int_1 [] [(.t 3)]⟩,
  ⟨some 7, none, false, .call false (.c (.fn i_slices_ContainsFunc_int [] [])) [(.t 5), (.t 6)]⟩,
  ⟨some 8, none, false, .un .not (.t 7)⟩,
  ⟨some 4, none, false, .mv (.t 8)⟩]

def a_rock_all_int : Ann := ⟨[(1, [4]), (0, [0, 3])], [], [], [], [], [], [], [], [], [], []⟩
def f_rock_all_int : Abs.Fn := ⟨2, [.t 4],
  (.seq (.reg [0, 3] f132r0) (.seq (.reg [4] f132r1) .ret))⟩

@[simp] theorem e132r0 : type_of% f132r0.eq_1 := by_rfl f132r0.eq_1
@[simp] theorem e132r1 : type_of% f132r1.eq_1 := by_rfl f132r1.eq_1
theorem e_rock_all_int : type_of% f_rock_all_int.eq_1 := by_rfl f_rock_all_int.eq_1
theorem ok_rock_all_int : fnC Tryz.prog a_rock_all_int Tryz.f132 = some f_rock_all_int := by kernel_rfl

/-! 133 (fumarole/rock.bedded).kind -/
def f133r0 : List Abs.Op := [
  ⟨some 2, none, false, .boxi (.t 0)⟩,
  ⟨some 4, none, false, .mv (.c .nils)⟩]

def f133r1 : List Abs.Op := [
  ⟨some 5, none, true, .fadr 9 (.t 2)⟩,
  ⟨some 6, none, true, .fadr 1 (.t 5)⟩,
  ⟨some 7, none, true, .ld false 1 (.t 6)⟩,
  ⟨some 8, none, true, .mv (.t 1)⟩,
  ⟨some 9, none, true, .fadr 0 (.t 2)⟩,
  ⟨some 10, none, true, .ld true 9 (.t 9)⟩,
  ⟨some 11, none, true, .call false (.c (.fn i_rock_Bed_size [] [])) [(.t 10)]⟩,
  ⟨some 12, none, true, .bin .mul (.t 8) (.t 11)⟩,
  ⟨some 13, none, true, .mv (.t 1)⟩,
  ⟨some 14, none, true, .bin .add (.t 13) (.c (.int .i64 1))⟩,
  ⟨some 15, none, true, .fadr 0 (.t 2)⟩,
  ⟨some 16, none, true, .ld true 9 (.t 15)⟩,
  ⟨some 17, none, true, .call false (.c (.fn i_rock_Bed_size [] [])) [(.t 16)]⟩,
  ⟨some 18, none, true, .bin .mul (.t 14) (.t 17)⟩,
  ⟨some 19, none, false, .slc 1 (.t 7) (some (.t 12)) (some (.t 18)) none⟩,
  ⟨some 4, none, false, .mv (.t 19)⟩]

def a_rock_bedded_kind : Ann := ⟨[(1, [4]), (0, [1, 2])], [], [], [], [], [], [], [], [], [], []⟩
def f_rock_bedded_kind : Abs.Fn := ⟨2, [.t 4],
  (.seq (.reg [1, 2] f133r0) (.seq (.reg [4] f133r1) .ret))⟩

@[simp] theorem e133r0 : type_of% f133r0.eq_1 := by_rfl f133r0.eq_1
@[simp] theorem e133r1 : type_of% f133r1.eq_1 := by_rfl f133r1.eq_1
theorem e_rock_bedded_kind : type_of% f_rock_bedded_kind.eq_1 := by_rfl f_rock_bedded_kind.eq_1
theorem ok_rock_bedded_kind : fnC Tryz.prog a_rock_bedded_kind Tryz.f133 = some f_rock_bedded_kind := by kernel_rfl

/-! 134 (fumarole/rock.bedded).fits$1 -/
def f134r0 : List Abs.Op := [
  ⟨some 3, none, false, .mv (.c (.bool false))⟩]

def f134r1 : List Abs.Op := [
  ⟨some 4, none, false, .mv (.t 0)⟩,
  ⟨some 5, none, false, .idxA 2 1 (.t 1) (.c (.int .i64 0))⟩,
  ⟨some 6, none, false, .ld false 1 (.t 5)⟩,
  ⟨some 7, none, false, .idxA 2 1 (.t 1) (.c (.int .i64 1))⟩,
  ⟨some 8, none, false, .ld false 1 (.t 7)⟩,
  ⟨some 9, none, false, .call false (.c (.fn i_rock_within [] [])) [(.t 4), (.t 6), (.t 8)]⟩,
  ⟨some 3, none, false, .mv (.t 9)⟩]

def a_rock_bedded_fits_1 : Ann := ⟨[(1, [3]), (0, [0, 1])], [], [], [], [], [], [], [], [], [], []⟩
def f_rock_bedded_fits_1 : Abs.Fn := ⟨2, [.t 3],
  (.seq (.reg [0, 1] f134r0) (.seq (.reg [3] f134r1) .ret))⟩

@[simp] theorem e134r0 : type_of% f134r0.eq_1 := by_rfl f134r0.eq_1
@[simp] theorem e134r1 : type_of% f134r1.eq_1 := by_rfl f134r1.eq_1
theorem e_rock_bedded_fits_1 : type_of% f_rock_bedded_fits_1.eq_1 := by_rfl f_rock_bedded_fits_1.eq_1
theorem ok_rock_bedded_fits_1 : fnC Tryz.prog a_rock_bedded_fits_1 Tryz.f134 = some f_rock_bedded_fits_1 := by kernel_rfl

/-! 135 (fumarole/rock.Bed).rates$1 -/
def f135r0 : List Abs.Op := [
  ⟨some 2, none, false, .mv (.c (.bool false))⟩]

def f135r1 : List Abs.Op := [
  ⟨some 3, none, false, .mv (.t 0)⟩,
  ⟨some 4, none, false, .call false (.c (.fn i_rock_within [] [])) [(.t 3), (.c (.int .i64 (-100000))), (.c (.int .i64 100000))]⟩,
  ⟨some 2, none, false, .mv (.t 4)⟩]

def a_rock_Bed_rates_1 : Ann := ⟨[(1, [2]), (0, [0])], [], [], [], [], [], [], [], [], [], []⟩
def f_rock_Bed_rates_1 : Abs.Fn := ⟨1, [.t 2],
  (.seq (.reg [0] f135r0) (.seq (.reg [2] f135r1) .ret))⟩

@[simp] theorem e135r0 : type_of% f135r0.eq_1 := by_rfl f135r0.eq_1
@[simp] theorem e135r1 : type_of% f135r1.eq_1 := by_rfl f135r1.eq_1
theorem e_rock_Bed_rates_1 : type_of% f_rock_Bed_rates_1.eq_1 := by_rfl f_rock_Bed_rates_1.eq_1
theorem ok_rock_Bed_rates_1 : fnC Tryz.prog a_rock_Bed_rates_1 Tryz.f135 = some f_rock_Bed_rates_1 := by kernel_rfl

/-! 136 (fumarole/rock.bedded).warm -/
def f136r0 : List Abs.Op := [
  ⟨some 2, none, false, .boxi (.t 0)⟩,
  ⟨some 4, none, false, .mv (.c (.int .i64 0))⟩]

def f136r1 : List Abs.Op := [
  ⟨some 5, none, false, .ld true 11 (.t 2)⟩,
  ⟨some 6, none, false, .call false (.c (.fn i_rock_bedded_kind [] [])) [(.t 5), (.c (.int .i64 2))]⟩,
  ⟨some 7, none, false, .mv (.t 1)⟩,
  ⟨some 8, none, false, .idxS 1 (.t 6) (.t 7)⟩,
  ⟨some 9, none, false, .ld false 1 (.t 8)⟩,
  ⟨some 4, none, false, .mv (.t 9)⟩]

def a_rock_bedded_warm : Ann := ⟨[(1, [4]), (0, [1, 2])], [], [], [], [], [], [], [], [], [], []⟩
def f_rock_bedded_warm : Abs.Fn := ⟨2, [.t 4],
  (.seq (.reg [1, 2] f136r0) (.seq (.reg [4] f136r1) .ret))⟩

@[simp] theorem e136r0 : type_of% f136r0.eq_1 := by_rfl f136r0.eq_1
@[simp] theorem e136r1 : type_of% f136r1.eq_1 := by_rfl f136r1.eq_1
theorem e_rock_bedded_warm : type_of% f_rock_bedded_warm.eq_1 := by_rfl f_rock_bedded_warm.eq_1
theorem ok_rock_bedded_warm : fnC Tryz.prog a_rock_bedded_warm Tryz.f136 = some f_rock_bedded_warm := by kernel_rfl

/-! 137 slices.Clone[fumarole/rock.State,fumarole/rock.Block] -/
def f137r0 : List Abs.Op := [
  ⟨some 2, none, false, .nilb 3⟩]

def f137r1 : List Abs.Op := [
  ⟨some 3, none, false, .mv (.t 0)⟩,
  ⟨some 4, none, false, .isn false false (.t 3)⟩]

def f137r2 : List Abs.Op := [
  ⟨some 2, none, false, .nilb 3⟩]

def f137r3 : List Abs.Op := [
  ⟨some 5, none, false, .bsm 0 3 [] []⟩,
  ⟨some 6, none, false, .mv (.t 0)⟩,
  ⟨some 7, none, false, .app 3 24 (.t 5) (.t 6)⟩,
  ⟨some 2, none, false, .mv (.t 7)⟩]

def a_slices_Clone_rock_State_rock_Block : Ann := ⟨[(3, [2]), (2, [2]), (1, [0, 4]), (0, [0])], [], [], [2, 5], [], [], [], [], [], [], []⟩
def f_slices_Clone_rock_State_rock_Block : Abs.Fn := ⟨1, [.t 2],
  (.seq (.reg [0] f137r0) (.seq (.seq (.reg [0, 4] f137r1) (.ite (.t 4) (.seq (.reg [2] f137r2) .ret) .nop)) (.seq (.reg [2] f137r3) .ret)))⟩

@[simp] theorem e137r0 : type_of% f137r0.eq_1 := by_rfl f137r0.eq_1
@[simp] theorem e137r1 : type_of% f137r1.eq_1 := by_rfl f137r1.eq_1
@[simp] theorem e137r2 : type_of% f137r2.eq_1 := by_rfl f137r2.eq_1
@[simp] theorem e137r3 : type_of% f137r3.eq_1 := by_rfl f137r3.eq_1
theorem e_slices_Clone_rock_State_rock_Block : type_of% f_slices_Clone_rock_State_rock_Block.eq_1 := by_rfl f_slices_Clone_rock_State_rock_Block.eq_1
theorem ok_slices_Clone_rock_State_rock_Block : fnC Tryz.prog a_slices_Clone_rock_State_rock_Block Tryz.f137 = some f_slices_Clone_rock_State_rock_Block := by kernel_rfl

/-! 138 (fumarole/rock.bedded).flows -/
def f138r0 : List Abs.Op := [
  ⟨some 2, none, false, .boxi (.t 0)⟩,
  ⟨some 3, none, false, .boxi (.t 1)⟩,
  ⟨some 4, none, false, .mv (.c .undef)⟩]

def f138r1 : List Abs.Op := [
  ⟨some 11, none, false, .mp (.make) []⟩,
  ⟨some 5, none, false, .alc [] [.undef]⟩,
  ⟨none, none, false, .st [] 1 (.t 5) (.t 11)⟩]

def f138r2 : List Abs.Op := [
  ⟨some 12, none, false, .ld true 11 (.t 2)⟩,
  ⟨some 13, none, false, .ld false 1 (.t 3)⟩,
  ⟨some 14, none, false, .call false (.c (.fn i_rock_bedded_pressures [] [])) [(.t 12), (.t 13)]⟩,
  ⟨some 6, none, false, .alc [] [.nils]⟩,
  ⟨none, none, false, .st [] 1 (.t 6) (.t 14)⟩]

def f138r3 : List Abs.Op := [
  ⟨some 15, none, false, .fadr 0 (.t 2)⟩,
  ⟨some 16, none, false, .ld true 9 (.t 15)⟩,
  ⟨some 17, none, false, .call false (.c (.fn i_rock_Bed_links [] [])) [(.t 16)]⟩]

def f138r4 : List Abs.Op := [
  ⟨some 7, none, false, .alcv [] [(.int .i64 0), (.int .i64 0)]⟩,
  ⟨none, none, false, .stv 7 [] 2 7 (.t 18)⟩]

def f138r5 : List Abs.Op := [
  ⟨some 19, none, true, .ld false 1 (.t 6)⟩,
  ⟨some 20, none, true, .fadr 0 (.t 7)⟩,
  ⟨some 21, none, true, .ldv 7 false 1 20⟩,
  ⟨some 22, none, true, .idxS 1 (.t 19) (.t 21)⟩,
  ⟨some 23, none, true, .ld false 1 (.t 22)⟩,
  ⟨some 24, none, true, .ld true 11 (.t 2)⟩,
  ⟨some 25, none, true, .fadr 0 (.t 7)⟩,
  ⟨some 26, none, true, .ldv 7 false 1 25⟩,
  ⟨some 27, none, true, .call false (.c (.fn i_rock_bedded_weight [] [])) [(.t 24), (.t 26)]⟩,
  ⟨some 28, none, true, .bin .sub (.t 23) (.t 27)⟩,
  ⟨some 29, none, true, .ld false 1 (.t 6)⟩,
  ⟨some 30, none, true, .fadr 1 (.t 7)⟩,
  ⟨some 31, none, true, .ldv 7 false 1 30⟩,
  ⟨some 32, none, true, .idxS 1 (.t 29) (.t 31)⟩,
  ⟨some 33, none, true, .ld false 1 (.t 32)⟩,
  ⟨some 34, none, true, .bin .sub (.t 28) (.t 33)⟩,
  ⟨some 35, none, true, .ld true 11 (.t 2)⟩,
  ⟨some 36, none, true, .fadr 1 (.t 7)⟩,
  ⟨some 37, none, true, .ldv 7 false 1 36⟩,
  ⟨some 38, none, true, .call false (.c (.fn i_rock_bedded_weight [] [])) [(.t 35), (.t 37)]⟩,
  ⟨some 39, none, false, .bin .add (.t 34) (.t 38)⟩,
  ⟨some 8, none, false, .mv (.t 39)⟩]

def f138r6 : List Abs.Op := [
  ⟨some 40, none, false, .mv (.t 8)⟩,
  ⟨some 41, none, false, .bin .lss (.t 40) (.c (.int .i64 0))⟩]

def f138r7 : List Abs.Op := [
  ⟨some 42, none, false, .fadr 1 (.t 7)⟩,
  ⟨some 43, none, false, .ldv 7 false 1 42⟩,
  ⟨some 44, none, false, .fadr 0 (.t 7)⟩,
  ⟨some 45, none, false, .ldv 7 false 1 44⟩,
  ⟨some 46, none, false, .bld [(.int .i64 0), (.int .i64 0)] [(0, 1, (.t 43)), (1, 1, (.t 45))]⟩,
  ⟨some 47, none, false, .mv (.t 8)⟩,
  ⟨some 48, none, false, .un .neg (.t 47)⟩,
  ⟨none, none, false, .stv 7 [] 2 7 (.t 46)⟩,
  ⟨some 8, none, false, .mv (.t 48)⟩]

def f138r8 : List Abs.Op := [
  ⟨some 49, none, true, .ld true 11 (.t 2)⟩,
  ⟨some 50, none, true, .fadr 0 (.t 7)⟩,
  ⟨some 51, none, true, .ldv 7 false 1 50⟩,
  ⟨some 52, none, true, .call false (.c (.fn i_rock_bedded_open [] [])) [(.t 49), (.t 51)]⟩,
  ⟨some 53, none, true, .ld true 11 (.t 2)⟩,
  ⟨some 54, none, true, .fadr 1 (.t 7)⟩,
  ⟨some 55, none, true, .ldv 7 false 1 54⟩,
  ⟨some 56, none, false, .call false (.c (.fn i_rock_bedded_open [] [])) [(.t 53), (.t 55)]⟩,
  ⟨some 57, none, false, .mn (.t 52) (.t 56)⟩,
  ⟨some 9, none, false, .mv (.t 57)⟩]

def f138r9 : List Abs.Op := [
  ⟨some 58, none, false, .mv (.t 9)⟩,
  ⟨some 59, none, false, .mv (.t 8)⟩,
  ⟨some 60, none, false, .bin .mul (.t 58) (.t 59)⟩,
  ⟨some 61, none, false, .bin .quo (.t 60) (.c (.int .i64 1000))⟩,
  ⟨some 62, none, false, .ld false 1 (.t 3)⟩,
  ⟨some 63, none, false, .fadr 0 (.t 7)⟩,
  ⟨some 64, none, false, .ldv 7 false 1 63⟩,
  ⟨some 65, none, false, .idxS 3 (.t 62) (.t 64)⟩,
  ⟨some 66, none, false, .fadr 0 (.t 65)⟩,
  ⟨some 67, none, false, .ld false 1 (.t 66)⟩,
  ⟨some 68, none, false, .bin .quo (.t 67) (.c (.int .i64 8))⟩,
  ⟨some 69, none, false, .mn (.t 61) (.t 68)⟩,
  ⟨some 10, none, false, .mv (.t 69)⟩]

def f138r10 : List Abs.Op := [
  ⟨some 70, none, false, .mv (.t 10)⟩,
  ⟨some 71, none, false, .bin .gtr (.t 70) (.c (.int .i64 0))⟩]

def f138r11 : List Abs.Op := [
  ⟨some 72, none, true, .ld false 1 (.t 5)⟩,
  ⟨some 73, none, true, .ldv 7 true 2 7⟩,
  ⟨some 74, none, true, .ld false 1 (.t 3)⟩,
  ⟨some 75, none, true, .fadr 0 (.t 7)⟩,
  ⟨some 76, none, true, .ldv 7 false 1 75⟩,
  ⟨some 77, none, true, .idxS 3 (.t 74) (.t 76)⟩,
  ⟨some 78, none, true, .ld true 3 (.t 77)⟩,
  ⟨some 79, none, true, .mv (.t 10)⟩,
  ⟨some 80, none, true, .call false (.c (.fn i_rock_Block_out [] [])) [(.t 78), (.t 79)]⟩,
  ⟨none, none, false, .mp (.put (some (true, [some .i64, some .i64]))) [(.t 72), (.t 73), (.t 80)]⟩]

def f_rock_bedded_flows_a12 : Abs.Cmd :=
  (.reg [2, 3, 5, 6, 7] f138r4)

def f_rock_bedded_flows_b12 : Abs.Cmd :=
  (.blk 1 (.seq (.reg [2, 3, 5, 7, 8] f138r5) (.seq (.seq (.reg [2, 3, 5, 7, 8, 41] f138r6) (.ite (.t 41) (.reg [2, 3, 5, 7, 8] f138r7) .nop)) (.seq (.reg [3, 5, 7, 8, 9] f138r8) (.seq (.reg [3, 5, 7, 10] f138r9) (.seq (.reg [3, 5, 7, 10, 71] f138r10) (.ite (.t 71) (.reg [] f138r11) .nop)))))))

def f138r13 : List Abs.Op := [
  ⟨some 81, none, false, .ld false 1 (.t 5)⟩,
  ⟨some 4, none, false, .mv (.t 81)⟩]

def a_rock_bedded_flows : Ann := ⟨[(12, [4]), (11, []), (10, [3, 5, 7, 10, 71]), (9, [3, 5, 7, 10]), (8, [3, 5, 7, 8, 9]), (7, [2, 3, 5, 7, 8]), (6, [2, 3, 5, 7, 8, 41]), (5, [2, 3, 5, 7, 8]), (4, [2, 3, 5, 6, 7]), (3, [2, 3, 4, 5, 6, 17]), (2, [2, 3, 4, 5, 6]), (1, [2, 3, 4, 5]), (0, [2, 3, 4])], [(0, [2, 3, 4, 5, 6])], [], [5, 6, 7], [7], [], [], [], [], [], []⟩
def f_rock_bedded_flows : Abs.Fn := ⟨2, [.t 4],
  (.seq (.reg [2, 3, 4] f138r0) (.seq (.reg [2, 3, 4, 5] f138r1) (.seq (.reg [2, 3, 4, 5, 6] f138r2) (.seq (.seq (.reg [2, 3, 4, 5, 6, 17] f138r3) (.blk 0 (.rngf [2, 3, 4, 5, 6] (.t 17) [18] f_rock_bedded_flows_a12 f_rock_bedded_flows_b12))) (.seq (.reg [4] f138r13) .ret)))))⟩

@[simp] theorem e138r0 : type_of% f138r0.eq_1 := by_rfl f138r0.eq_1
@[simp] theorem e138r1 : type_of% f138r1.eq_1 := by_rfl f138r1.eq_1
@[simp] theorem e138r2 : type_of% f138r2.eq_1 := by_rfl f138r2.eq_1
@[simp] theorem e138r3 : type_of% f138r3.eq_1 := by_rfl f138r3.eq_1
@[simp] theorem e138r4 : type_of% f138r4.eq_1 := by_rfl f138r4.eq_1
@[simp] theorem e138r5 : type_of% f138r5.eq_1 := by_rfl f138r5.eq_1
@[simp] theorem e138r6 : type_of% f138r6.eq_1 := by_rfl f138r6.eq_1
@[simp] theorem e138r7 : type_of% f138r7.eq_1 := by_rfl f138r7.eq_1
@[simp] theorem e138r8 : type_of% f138r8.eq_1 := by_rfl f138r8.eq_1
@[simp] theorem e138r9 : type_of% f138r9.eq_1 := by_rfl f138r9.eq_1
@[simp] theorem e138r10 : type_of% f138r10.eq_1 := by_rfl f138r10.eq_1
@[simp] theorem e138r11 : type_of% f138r11.eq_1 := by_rfl f138r11.eq_1
@[simp] theorem e138r13 : type_of% f138r13.eq_1 := by_rfl f138r13.eq_1
theorem e_rock_bedded_flows_a12 : type_of% f_rock_bedded_flows_a12.eq_1 := by_rfl f_rock_bedded_flows_a12.eq_1
theorem e_rock_bedded_flows_b12 : type_of% f_rock_bedded_flows_b12.eq_1 := by_rfl f_rock_bedded_flows_b12.eq_1
theorem e_rock_bedded_flows : type_of% f_rock_bedded_flows.eq_1 := by_rfl f_rock_bedded_flows.eq_1
theorem ok_rock_bedded_flows : fnC Tryz.prog a_rock_bedded_flows Tryz.f138 = some f_rock_bedded_flows := by kernel_rfl

/-! 139 (*fumarole/rock.Block).move -/
def f139r0 : List Abs.Op := [
  ⟨some 4, none, false, .boxi (.t 1)⟩]

def f139r1 : List Abs.Op := [
  ⟨some 6, none, true, .mv (.t 0)⟩,
  ⟨some 7, none, true, .nck (.t 6)⟩,
  ⟨some 8, none, true, .fadr 0 (.t 7)⟩,
  ⟨some 9, none, true, .ld false 1 (.t 8)⟩,
  ⟨some 10, none, true, .mv (.t 2)⟩,
  ⟨some 11, none, true, .fadr 0 (.t 4)⟩,
  ⟨some 12, none, true, .ld false 1 (.t 11)⟩,
  ⟨some 13, none, true, .bin .mul (.t 10) (.t 12)⟩,
  ⟨some 14, none, false, .bin .add (.t 9) (.t 13)⟩,
  ⟨some 15, none, false, .nck (.t 6)⟩,
  ⟨some 16, none, false, .fadr 0 (.t 15)⟩,
  ⟨none, none, false, .st [] 1 (.t 16) (.t 14)⟩]

def f139r2 : List Abs.Op := [
  ⟨some 17, none, true, .mv (.t 0)⟩,
  ⟨some 18, none, true, .nck (.t 17)⟩,
  ⟨some 19, none, true, .fadr 1 (.t 18)⟩,
  ⟨some 20, none, true, .ld false 1 (.t 19)⟩,
  ⟨some 21, none, true, .mv (.t 2)⟩,
  ⟨some 22, none, true, .fadr 1 (.t 4)⟩,
  ⟨some 23, none, true, .ld false 1 (.t 22)⟩,
  ⟨some 24, none, true, .bin .mul (.t 21) (.t 23)⟩,
  ⟨some 25, none, false, .bin .add (.t 20) (.t 24)⟩,
  ⟨some 26, none, false, .nck (.t 17)⟩,
  ⟨some 27, none, false, .fadr 1 (.t 26)⟩,
  ⟨none, none, false, .st [] 1 (.t 27) (.t 25)⟩]

def f139r3 : List Abs.Op := [
  ⟨some 28, none, true, .mv (.t 0)⟩,
  ⟨some 29, none, true, .nck (.t 28)⟩,
  ⟨some 30, none, true, .fadr 2 (.t 29)⟩,
  ⟨some 31, none, true, .ld false 1 (.t 30)⟩,
  ⟨some 32, none, true, .mv (.t 2)⟩,
  ⟨some 33, none, true, .fadr 2 (.t 4)⟩,
  ⟨some 34, none, true, .ld false 1 (.t 33)⟩,
  ⟨some 35, none, true, .bin .mul (.t 32) (.t 34)⟩,
  ⟨some 36, none, false, .bin .add (.t 31) (.t 35)⟩,
  ⟨some 37, none, false, .nck (.t 28)⟩,
  ⟨some 38, none, false, .fadr 2 (.t 37)⟩,
  ⟨none, none, false, .st [] 1 (.t 38) (.t 36)⟩]

def a_rock_Block_move : Ann := ⟨[(3, []), (2, [0, 2, 4]), (1, [0, 2, 4]), (0, [0, 2, 4])], [], [], [0], [], [], [], [], [], [], []⟩
def f_rock_Block_move : Abs.Fn := ⟨3, [],
  (.seq (.reg [0, 2, 4] f139r0) (.seq (.reg [0, 2, 4] f139r1) (.seq (.reg [0, 2, 4] f139r2) (.reg [] f139r3))))⟩

@[simp] theorem e139r0 : type_of% f139r0.eq_1 := by_rfl f139r0.eq_1
@[simp] theorem e139r1 : type_of% f139r1.eq_1 := by_rfl f139r1.eq_1
@[simp] theorem e139r2 : type_of% f139r2.eq_1 := by_rfl f139r2.eq_1
@[simp] theorem e139r3 : type_of% f139r3.eq_1 := by_rfl f139r3.eq_1
theorem e_rock_Block_move : type_of% f_rock_Block_move.eq_1 := by_rfl f_rock_Block_move.eq_1
theorem ok_rock_Block_move : fnC Tryz.prog a_rock_Block_move Tryz.f139 = some f_rock_Block_move := by kernel_rfl

/-! 140 (fumarole/rock.Bore).given -/
def f140r0 : List Abs.Op := [
  ⟨some 2, none, false, .boxi (.t 0)⟩,
  ⟨some 4, none, false, .alcv [] [(.int .i64 0), (.int .i64 0), (.int .i64 0)]⟩]

def f140r1 : List Abs.Op := [
  ⟨some 5, none, false, .mv (.t 1)⟩,
  ⟨some 6, none, false, .un .neg (.t 5)⟩,
  ⟨some 7, none, false, .mv (.t 1)⟩,
  ⟨some 8, none, false, .un .neg (.t 7)⟩,
  ⟨some 9, none, false, .fadr 1 (.t 2)⟩,
  ⟨some 10, none, false, .ld false 1 (.t 9)⟩,
  ⟨some 11, none, false, .bin .mul (.t 8) (.t 10)⟩,
  ⟨some 12, none, false, .mv (.t 1)⟩,
  ⟨some 13, none, false, .un .neg (.t 12)⟩,
  ⟨some 14, none, false, .fadr 2 (.t 2)⟩,
  ⟨some 15, none, false, .ld false 1 (.t 14)⟩,
  ⟨some 16, none, false, .bin .mul (.t 13) (.t 15)⟩,
  ⟨some 17, none, false, .bld [(.int .i64 0), (.int .i64 0), (.int .i64 0)] [(0, 1, (.t 6)), (1, 1, (.t 11)), (2, 1, (.t 16))]⟩,
  ⟨none, none, false, .stv 4 [] 3 4 (.t 17)⟩]

def a_rock_Bore_given : Ann := ⟨[(1, [4]), (0, [1, 2, 4])], [], [], [4], [4], [], [], [], [], [], []⟩
def f_rock_Bore_given : Abs.Fn := ⟨2, [.v 4 true 3],
  (.seq (.reg [1, 2, 4] f140r0) (.seq (.reg [4] f140r1) .ret))⟩

@[simp] theorem e140r0 : type_of% f140r0.eq_1 := by_rfl f140r0.eq_1
@[simp] theorem e140r1 : type_of% f140r1.eq_1 := by_rfl f140r1.eq_1
theorem e_rock_Bore_given : type_of% f_rock_Bore_given.eq_1 := by_rfl f_rock_Bore_given.eq_1
theorem ok_rock_Bore_given : fnC Tryz.prog a_rock_Bore_given Tryz.f140 = some f_rock_Bore_given := by kernel_rfl

/-! 141 (fumarole/rock.Block).out -/
def f141r0 : List Abs.Op := [
  ⟨some 2, none, false, .boxi (.t 0)⟩,
  ⟨some 4, none, false, .alcv [] [(.int .i64 0), (.int .i64 0), (.int .i64 0)]⟩]

def f141r1 : List Abs.Op := [
  ⟨some 5, none, true, .mv (.t 1)⟩,
  ⟨some 6, none, true, .fadr 1 (.t 2)⟩,
  ⟨some 7, none, true, .ld false 1 (.t 6)⟩,
  ⟨some 8, none, true, .mv (.t 1)⟩,
  ⟨some 9, none, true, .bin .mul (.t 7) (.t 8)⟩,
  ⟨some 10, none, true, .fadr 0 (.t 2)⟩,
  ⟨some 11, none, true, .ld false 1 (.t 10)⟩,
  ⟨some 12, none, true, .bin .quo (.t 9) (.t 11)⟩,
  ⟨some 13, none, true, .fadr 2 (.t 2)⟩,
  ⟨some 14, none, true, .ld false 1 (.t 13)⟩,
  ⟨some 15, none, true, .mv (.t 1)⟩,
  ⟨some 16, none, true, .bin .mul (.t 14) (.t 15)⟩,
  ⟨some 17, none, true, .fadr 0 (.t 2)⟩,
  ⟨some 18, none, true, .ld false 1 (.t 17)⟩,
  ⟨some 19, none, true, .bin .quo (.t 16) (.t 18)⟩,
  ⟨some 20, none, false, .bld [(.int .i64 0), (.int .i64 0), (.int .i64 0)] [(0, 1, (.t 5)), (1, 1, (.t 12)), (2, 1, (.t 19))]⟩,
  ⟨none, none, false, .stv 4 [] 3 4 (.t 20)⟩]

def a_rock_Block_out : Ann := ⟨[(1, [4]), (0, [1, 2, 4])], [], [], [4], [4], [], [], [], [], [], []⟩
def f_rock_Block_out : Abs.Fn := ⟨2, [.v 4 true 3],
  (.seq (.reg [1, 2, 4] f141r0) (.seq (.reg [4] f141r1) .ret))⟩

@[simp] theorem e141r0 : type_of% f141r0.eq_1 := by_rfl f141r0.eq_1
@[simp] theorem e141r1 : type_of% f141r1.eq_1 := by_rfl f141r1.eq_1
theorem e_rock_Block_out : type_of% f_rock_Block_out.eq_1 := by_rfl f_rock_Block_out.eq_1
theorem ok_rock_Block_out : fnC Tryz.prog a_rock_Block_out Tryz.f141 = some f_rock_Block_out := by kernel_rfl

/-! 142 (fumarole/rock.bedded).fed -/
def f142r0 : List Abs.Op := [
  ⟨some 2, none, false, .boxi (.t 0)⟩,
  ⟨some 4, none, false, .alcv [] [(.int .i64 0), (.int .i64 0), (.int .i64 0)]⟩]

def f142r1 : List Abs.Op := [
  ⟨some 5, none, true, .ld true 11 (.t 2)⟩,
  ⟨some 6, none, true, .mv (.t 1)⟩,
  ⟨some 7, none, true, .call false (.c (.fn i_rock_bedded_feed [] [])) [(.t 5), (.t 6)]⟩,
  ⟨some 8, none, true, .ld true 11 (.t 2)⟩,
  ⟨some 9, none, true, .mv (.t 1)⟩,
  ⟨some 10, none, true, .call false (.c (.fn i_rock_bedded_feed [] [])) [(.t 8), (.t 9)]⟩,
  ⟨some 11, none, true, .fadr 0 (.t 2)⟩,
  ⟨some 12, none, true, .fadr 7 (.t 11)⟩,
  ⟨some 13, none, true, .ld false 1 (.t 12)⟩,
  ⟨some 14, none, false, .bin .mul (.t 10) (.t 13)⟩,
  ⟨some 15, none, false, .bld [(.int .i64 0), (.int .i64 0), (.int .i64 0)] [(0, 1, (.t 7)), (1, 1, (.t 14))]⟩,
  ⟨none, none, false, .stv 4 [] 3 4 (.t 15)⟩]

def a_rock_bedded_fed : Ann := ⟨[(1, [4]), (0, [1, 2, 4])], [], [], [4], [4], [], [], [], [], [], []⟩
def f_rock_bedded_fed : Abs.Fn := ⟨2, [.v 4 true 3],
  (.seq (.reg [1, 2, 4] f142r0) (.seq (.reg [4] f142r1) .ret))⟩

@[simp] theorem e142r0 : type_of% f142r0.eq_1 := by_rfl f142r0.eq_1
@[simp] theorem e142r1 : type_of% f142r1.eq_1 := by_rfl f142r1.eq_1
theorem e_rock_bedded_fed : type_of% f_rock_bedded_fed.eq_1 := by_rfl f_rock_bedded_fed.eq_1
theorem ok_rock_bedded_fed : fnC Tryz.prog a_rock_bedded_fed Tryz.f142 = some f_rock_bedded_fed := by kernel_rfl

/-! 143 (fumarole/rock.bedded).state -/
def f143r0 : List Abs.Op := [
  ⟨some 2, none, false, .boxi (.t 0)⟩,
  ⟨some 4, none, false, .mv (.c (.bool false))⟩]

def f143r1 : List Abs.Op := [
  ⟨some 5, none, false, .mv (.t 1)⟩,
  ⟨some 6, none, false, .lenS (.t 5)⟩,
  ⟨some 7, none, false, .fadr 0 (.t 2)⟩,
  ⟨some 8, none, false, .ld true 9 (.t 7)⟩,
  ⟨some 9, none, false, .call false (.c (.fn i_rock_Bed_size [] [])) [(.t 8)]⟩,
  ⟨some 10, none, false, .bin .eql (.t 6) (.t 9)⟩,
  ⟨some 11, none, false, .mv (.t 10)⟩,
  ⟨some 12, some (11, true), false, .mv (.t 1)⟩,
  ⟨some 13, some (11, true), false, .call false (.c (.fn i_rock_all_rock_Block [] [])) [(.t 12), (.c (.fn i_rock_Block_valid [] []))]⟩,
  ⟨some 14, none, false, .pick (.t 11) (.t 13) (.c (.bool false))⟩,
  ⟨some 4, none, false, .mv (.t 14)⟩]

def a_rock_bedded_state : Ann := ⟨[(1, [4]), (0, [1, 2])], [], [], [], [], [], [], [], [], [], []⟩
def f_rock_bedded_state : Abs.Fn := ⟨2, [.t 4],
  (.seq (.reg [1, 2] f143r0) (.seq (.reg [4] f143r1) .ret))⟩

@[simp] theorem e143r0 : type_of% f143r0.eq_1 := by_rfl f143r0.eq_1
@[simp] theorem e143r1 : type_of% f143r1.eq_1 := by_rfl f143r1.eq_1
theorem e_rock_bedded_state : type_of% f_rock_bedded_state.eq_1 := by_rfl f_rock_bedded_state.eq_1
theorem ok_rock_bedded_state : fnC Tryz.prog a_rock_bedded_state Tryz.f143 = some f_rock_bedded_state := by kernel_rfl

/-! 144 slices.ContainsFunc[[]fumarole/steam.Row,fumarole/steam.Row] -/
def f144r0 : List Abs.Op := [
  ⟨some 4, none, false, .mv (.c (.bool false))⟩]

def f144r1 : List Abs.Op := [
  ⟨some 5, none, false, .mv (.t 0)⟩,
  ⟨some 6, none, false, .mv (.t 1)⟩,
  ⟨some 7, none, false, .call false (.c (.fn i_slices_IndexFunc_steam_Row [] [])) [(.t 5), (.t 6)]⟩,
  ⟨some 8, none, false, .bin .geq (.t 7) (.c (.int .i64 0))⟩,
  ⟨some 4, none, false, .mv (.t 8)⟩]

def a_slices_ContainsFunc_steam_Row : Ann := ⟨[(1, [4]), (0, [0, 1])], [], [], [], [], [], [], [], [], [], []⟩
def f_slices_ContainsFunc_steam_Row : Abs.Fn := ⟨2, [.t 4],
  (.seq (.reg [0, 1] f144r0) (.seq (.reg [4] f144r1) .ret))⟩

@[simp] theorem e144r0 : type_of% f144r0.eq_1 := by_rfl f144r0.eq_1
@[simp] theorem e144r1 : type_of% f144r1.eq_1 := by_rfl f144r1.eq_1
theorem e_slices_ContainsFunc_steam_Row : type_of% f_slices_ContainsFunc_steam_Row.eq_1 := by_rfl f_slices_ContainsFunc_steam_Row.eq_1
theorem ok_slices_ContainsFunc_steam_Row : fnC Tryz.prog a_slices_ContainsFunc_steam_Row Tryz.f144 = some f_slices_ContainsFunc_steam_Row := by kernel_rfl

/-! 145 fumarole/steam.all[fumarole/steam.Row]$1 -/
def f145r0 : List Abs.Op := [
  ⟨some 2, none, false, .boxi (.t 0)⟩,
  ⟨some 3, none, false, .mv (.c (.bool false))⟩]

def f145r1 : List Abs.Op := [
  ⟨some 4, none, false, .ld false 1 (.t 1)⟩,
  ⟨some 5, none, false, .ld true 5 (.t 2)⟩,
  ⟨some 6, none, false, .call false (.t 4) [(.t 5)]⟩,
  ⟨some 7, none, false, .un .not (.t 6)⟩,
  ⟨some 3, none, false, .mv (.t 7)⟩]

def a_steam_all_steam_Row_1 : Ann := ⟨[(1, [3]), (0, [1, 2])], [], [], [], [], [], [], [], [], [], []⟩
def f_steam_all_steam_Row_1 : Abs.Fn := ⟨2, [.t 3],
  (.seq (.reg [1, 2] f145r0) (.seq (.reg [3] f145r1) .ret))⟩

@[simp] theorem e145r0 : type_of% f145r0.eq_1 := by_rfl f145r0.eq_1
@[simp] theorem e145r1 : type_of% f145r1.eq_1 := by_rfl f145r1.eq_1
theorem e_steam_all_steam_Row_1 : type_of% f_steam_all_steam_Row_1.eq_1 := by_rfl f_steam_all_steam_Row_1.eq_1
theorem ok_steam_all_steam_Row_1 : fnC Tryz.prog a_steam_all_steam_Row_1 Tryz.f145 = some f_steam_all_steam_Row_1 := by kernel_rfl

/-! 146 fumarole/field.each[fumarole/field.Model] -/
def f146r0 : List Abs.Op := [
  ⟨some 4, none, false, .mv (.c (.int .i64 0))⟩]

def f146r1 : List Abs.Op := [
  ⟨some 10, none, false, .mp (.make) []⟩,
  ⟨some 5, none, false, .mv (.t 10)⟩]

def f146r2 : List Abs.Op := [
  ⟨some 11, none, false, .mv (.t 0)⟩,
  ⟨some 12, none, false, .lenS (.t 11)⟩,
  ⟨some 13, none, false, .mv (.c (.int .i64 0))⟩]

def f146r3 : List Abs.Op := [
  ⟨some 14, none, false, .bin .lss (.t 13) (.t 12)⟩]

def f146r4 : List Abs.Op := [
  ⟨some 15, none, false, .idxS 2 (.t 11) (.t 13)⟩,
  ⟨some 16, none, false, .ld true 2 (.t 15)⟩,
  ⟨some 7, none, false, .alcv [] [(.str []), .nils]⟩,
  ⟨none, none, false, .stv 7 [] 2 7 (.t 16)⟩]

def f146r5 : List Abs.Op := [
  ⟨some 18, none, false, .mv (.t 1)⟩,
  ⟨some 19, none, false, .ldv 7 true 2 7⟩,
  ⟨some 20, none, false, .call false (.t 18) [(.t 19)]⟩,
  ⟨some 17, none, false, .mv (.t 20)⟩,
  ⟨some 21, none, false, .ext (.t 17) 0⟩,
  ⟨some 22, none, false, .ext (.t 17) 1⟩,
  ⟨some 8, none, false, .mv (.t 21)⟩,
  ⟨some 9, none, false, .mv (.t 22)⟩]

def f146r6 : List Abs.Op := [
  ⟨some 23, none, false, .mv (.t 9)⟩,
  ⟨some 24, none, false, .bin .neq (.t 23) (.c (.int .i64 0))⟩]

def f146r7 : List Abs.Op := [
  ⟨some 25, none, false, .mv (.t 9)⟩,
  ⟨some 4, none, false, .mv (.t 25)⟩]

def f146r8 : List Abs.Op := [
  ⟨some 26, none, false, .mv (.t 5)⟩,
  ⟨some 27, none, false, .mv (.t 8)⟩,
  ⟨some 28, none, false, .mp (.get none (.bool false) false) [(.t 26), (.t 27)]⟩]

def f146r9 : List Abs.Op := [
  ⟨some 4, none, false, .mv (.c (.int .i64 6))⟩]

def f146r10 : List Abs.Op := [
  ⟨some 29, none, false, .mv (.t 5)⟩,
  ⟨some 30, none, false, .mv (.t 8)⟩,
  ⟨none, none, false, .mp (.put none) [(.t 29), (.t 30), (.c (.bool true))]⟩]

def f146r11 : List Abs.Op := [
  ⟨some 31, none, false, .bin .add (.t 13) (.c (.int .i64 1))⟩,
  ⟨some 13, none, false, .mv (.t 31)⟩]

def f_field_each_field_Model_l12 : Abs.Cmd :=
  (.seq (.reg [1, 5, 11, 12, 13, 14] f146r3) (.seq (.ite (.t 14) .nop (.exit 0)) (.seq (.blk 1 (.seq (.reg [1, 5, 7, 11, 12, 13] f146r4) (.seq (.reg [1, 5, 8, 9, 11, 12, 13] f146r5) (.seq (.seq (.reg [1, 5, 8, 9, 11, 12, 13, 24] f146r6) (.ite (.t 24) (.seq (.reg [4] f146r7) .ret) .nop)) (.seq (.seq (.reg [1, 5, 8, 11, 12, 13, 28] f146r8) (.ite (.t 28) (.seq (.reg [4] f146r9) .ret) .nop)) (.reg [1, 5, 11, 12, 13] f146r10)))))) (.reg [1, 5, 11, 12, 13] f146r11))))

def f146r13 : List Abs.Op := [
  ⟨some 4, none, false, .mv (.c (.int .i64 0))⟩]

def a_field_each_field_Model : Ann := ⟨[(12, [4]), (11, [1, 5, 11, 12, 13]), (10, [1, 5, 11, 12, 13]), (9, [4]), (8, [1, 5, 8, 11, 12, 13, 28]), (7, [4]), (6, [1, 5, 8, 9, 11, 12, 13, 24]), (5, [1, 5, 8, 9, 11, 12, 13]), (4, [1, 5, 7, 11, 12, 13]), (3, [1, 5, 11, 12, 13, 14]), (2, [1, 5, 11, 12, 13]), (1, [0, 1, 5]), (0, [0, 1])], [(0, [1, 5, 11, 12, 13])], [], [7], [7], [], [], [], [], [], []⟩
def f_field_each_field_Model : Abs.Fn := ⟨2, [.t 4],
  (.seq (.reg [0, 1] f146r0) (.seq (.reg [0, 1, 5] f146r1) (.seq (.seq (.reg [1, 5, 11, 12, 13] f146r2) (.blk 0 (.loop [1, 5, 11, 12, 13] false f_field_each_field_Model_l12))) (.seq (.reg [4] f146r13) .ret))))⟩

@[simp] theorem e146r0 : type_of% f146r0.eq_1 := by_rfl f146r0.eq_1
@[simp] theorem e146r1 : type_of% f146r1.eq_1 := by_rfl f146r1.eq_1
@[simp] theorem e146r2 : type_of% f146r2.eq_1 := by_rfl f146r2.eq_1
@[simp] theorem e146r3 : type_of% f146r3.eq_1 := by_rfl f146r3.eq_1
@[simp] theorem e146r4 : type_of% f146r4.eq_1 := by_rfl f146r4.eq_1
@[simp] theorem e146r5 : type_of% f146r5.eq_1 := by_rfl f146r5.eq_1
@[simp] theorem e146r6 : type_of% f146r6.eq_1 := by_rfl f146r6.eq_1
@[simp] theorem e146r7 : type_of% f146r7.eq_1 := by_rfl f146r7.eq_1
@[simp] theorem e146r8 : type_of% f146r8.eq_1 := by_rfl f146r8.eq_1
@[simp] theorem e146r9 : type_of% f146r9.eq_1 := by_rfl f146r9.eq_1
@[simp] theorem e146r10 : type_of% f146r10.eq_1 := by_rfl f146r10.eq_1
@[simp] theorem e146r11 : type_of% f146r11.eq_1 := by_rfl f146r11.eq_1
@[simp] theorem e146r13 : type_of% f146r13.eq_1 := by_rfl f146r13.eq_1
theorem e_field_each_field_Model_l12 : type_of% f_field_each_field_Model_l12.eq_1 := by_rfl f_field_each_field_Model_l12.eq_1
theorem e_field_each_field_Model : type_of% f_field_each_field_Model.eq_1 := by_rfl f_field_each_field_Model.eq_1
theorem ok_field_each_field_Model : fnC Tryz.prog a_field_each_field_Model Tryz.f146 = some f_field_each_field_Model := by kernel_rfl

/-! 147 (fumarole/field.Field).models$1 -/
def f147r0 : List Abs.Op := [
  ⟨some 2, none, false, .boxi (.t 0)⟩,
  ⟨some 3, none, false, .mv (.c (.str []))⟩,
  ⟨some 4, none, false, .mv (.c (.int .i64 0))⟩]

def f147r1 : List Abs.Op := [
  ⟨some 5, none, true, .fadr 0 (.t 2)⟩,
  ⟨some 6, none, true, .ld false 1 (.t 5)⟩,
  ⟨some 7, none, true, .ld true 4 (.t 1)⟩,
  ⟨some 8, none, true, .ld true 2 (.t 2)⟩,
  ⟨some 9, none, true, .call false (.c (.fn i_field_Field_model [] [])) [(.t 7), (.t 8)]⟩,
  ⟨some 3, none, false, .mv (.t 6)⟩,
  ⟨some 4, none, false, .mv (.t 9)⟩]

def a_field_Field_models_1 : Ann := ⟨[(1, [3, 4]), (0, [1, 2])], [], [], [], [], [], [], [], [], [], []⟩
def f_field_Field_models_1 : Abs.Fn := ⟨2, [.t 3, .t 4],
  (.seq (.reg [1, 2] f147r0) (.seq (.reg [3, 4] f147r1) .ret))⟩

@[simp] theorem e147r0 : type_of% f147r0.eq_1 := by_rfl f147r0.eq_1
@[simp] theorem e147r1 : type_of% f147r1.eq_1 := by_rfl f147r1.eq_1
theorem e_field_Field_models_1 : type_of% f_field_Field_models_1.eq_1 := by_rfl f_field_Field_models_1.eq_1
theorem ok_field_Field_models_1 : fnC Tryz.prog a_field_Field_models_1 Tryz.f147 = some f_field_Field_models_1 := by kernel_rfl

/-! 148 (fumarole/field.Field).model -/
def f148r0 : List Abs.Op := [
  ⟨some 2, none, false, .boxi (.t 0)⟩,
  ⟨some 3, none, false, .boxi (.t 1)⟩,
  ⟨some 4, none, false, .mv (.c (.int .i64 0))⟩]

def f148r1 : List Abs.Op := [
  ⟨some 6, none, false, .fadr 0 (.t 3)⟩,
  ⟨some 7, none, false, .ld false 1 (.t 6)⟩,
  ⟨some 8, none, false, .call false (.c (.fn i_field_named [] [])) [(.t 7)]⟩,
  ⟨some 9, none, false, .un .not (.t 8)⟩,
  ⟨some 5, none, false, .mv (.t 9)⟩]

def f148r2 : List Abs.Op := [
  ⟨some 4, none, false, .mv (.c (.int .i64 5))⟩]

def f148r3 : List Abs.Op := [
  ⟨some 11, none, true, .fadr 1 (.t 3)⟩,
  ⟨some 12, none, true, .ld false 1 (.t 11)⟩,
  ⟨some 13, none, true, .lenS (.t 12)⟩,
  ⟨some 14, none, true, .fadr 3 (.t 2)⟩,
  ⟨some 15, none, true, .ld false 1 (.t 14)⟩,
  ⟨some 16, none, true, .ld true 4 (.t 2)⟩,
  ⟨some 17, none, true, .call false (.c (.fn i_field_Field_blocks [] [])) [(.t 16)]⟩,
  ⟨some 18, none, true, .bin .mul (.t 15) (.t 17)⟩,
  ⟨some 19, none, false, .bin .neq (.t 13) (.t 18)⟩,
  ⟨some 20, none, false, .mv (.t 19)⟩,
  ⟨some 21, some (20, false), false, .fadr 1 (.t 3)⟩,
  ⟨some 22, some (20, false), false, .ld false 1 (.t 21)⟩,
  ⟨some 23, some (20, false), false, .call false (.c (.fn i_field_all_int [] [])) [(.t 22), (.c (.fn i_field_Field_model_1 [] []))]⟩,
  ⟨some 24, some (20, false), false, .un .not (.t 23)⟩,
  ⟨some 25, none, false, .pick (.t 20) (.c (.bool true)) (.t 24)⟩,
  ⟨some 10, none, false, .mv (.t 25)⟩]

def f148r4 : List Abs.Op := [
  ⟨some 4, none, false, .mv (.c (.int .i64 1))⟩]

def f148r5 : List Abs.Op := [
  ⟨some 4, none, false, .mv (.c (.int .i64 0))⟩]

def a_field_Field_model : Ann := ⟨[(5, [4]), (2, [4]), (4, [4]), (3, [10]), (1, [2, 3, 5]), (0, [2, 3])], [], [], [], [], [], [], [], [], [], []⟩
def f_field_Field_model : Abs.Fn := ⟨2, [.t 4],
  (.seq (.reg [2, 3] f148r0) (.seq (.blk 0 (.seq (.reg [2, 3, 5] f148r1) (.ite (.t 5) (.seq (.reg [4] f148r2) .ret) (.seq (.reg [10] f148r3) (.ite (.t 10) (.seq (.reg [4] f148r4) .ret) .nop))))) (.seq (.reg [4] f148r5) .ret)))⟩

@[simp] theorem e148r0 : type_of% f148r0.eq_1 := by_rfl f148r0.eq_1
@[simp] theorem e148r1 : type_of% f148r1.eq_1 := by_rfl f148r1.eq_1
@[simp] theorem e148r2 : type_of% f148r2.eq_1 := by_rfl f148r2.eq_1
@[simp] theorem e148r3 : type_of% f148r3.eq_1 := by_rfl f148r3.eq_1
@[simp] theorem e148r4 : type_of% f148r4.eq_1 := by_rfl f148r4.eq_1
@[simp] theorem e148r5 : type_of% f148r5.eq_1 := by_rfl f148r5.eq_1
theorem e_field_Field_model : type_of% f_field_Field_model.eq_1 := by_rfl f_field_Field_model.eq_1
theorem ok_field_Field_model : fnC Tryz.prog a_field_Field_model Tryz.f148 = some f_field_Field_model := by kernel_rfl

/-! 156 slices.ContainsFunc[[]fumarole/rock.Bore,fumarole/rock.Bore] -/
def f156r0 : List Abs.Op := [
  ⟨some 4, none, false, .mv (.c (.bool false))⟩]

def f156r1 : List Abs.Op := [
  ⟨some 5, none, false, .mv (.t 0)⟩,
  ⟨some 6, none, false, .mv (.t 1)⟩,
  ⟨some 7, none, false, .call false (.c (.fn i_slices_IndexFunc_rock_Bore [] [])) [(.t 5), (.t 6)]⟩,
  ⟨some 8, none, false, .bin .geq (.t 7) (.c (.int .i64 0))⟩,
  ⟨some 4, none, false, .mv (.t 8)⟩]

def a_slices_ContainsFunc_rock_Bore : Ann := ⟨[(1, [4]), (0, [0, 1])], [], [], [], [], [], [], [], [], [], []⟩
def f_slices_ContainsFunc_rock_Bore : Abs.Fn := ⟨2, [.t 4],
  (.seq (.reg [0, 1] f156r0) (.seq (.reg [4] f156r1) .ret))⟩

@[simp] theorem e156r0 : type_of% f156r0.eq_1 := by_rfl f156r0.eq_1
@[simp] theorem e156r1 : type_of% f156r1.eq_1 := by_rfl f156r1.eq_1
theorem e_slices_ContainsFunc_rock_Bore : type_of% f_slices_ContainsFunc_rock_Bore.eq_1 := by_rfl f_slices_ContainsFunc_rock_Bore.eq_1
theorem ok_slices_ContainsFunc_rock_Bore : fnC Tryz.prog a_slices_ContainsFunc_rock_Bore Tryz.f156 = some f_slices_ContainsFunc_rock_Bore := by kernel_rfl

/-! 157 fumarole/rock.all[fumarole/rock.Bore]$1 -/
def f157r0 : List Abs.Op := [
  ⟨some 2, none, false, .boxi (.t 0)⟩,
  ⟨some 3, none, false, .mv (.c (.bool false))⟩]

def f157r1 : List Abs.Op := [
  ⟨some 4, none, false, .ld false 1 (.t 1)⟩,
  ⟨some 5, none, false, .ld true 3 (.t 2)⟩,
  ⟨some 6, none, false, .call false (.t 4) [(.t 5)]⟩,
  ⟨some 7, none, false, .un .not (.t 6)⟩,
  ⟨some 3, none, false, .mv (.t 7)⟩]

def a_rock_all_rock_Bore_1 : Ann := ⟨[(1, [3]), (0, [1, 2])], [], [], [], [], [], [], [], [], [], []⟩
def f_rock_all_rock_Bore_1 : Abs.Fn := ⟨2, [.t 3],
  (.seq (.reg [1, 2] f157r0) (.seq (.reg [3] f157r1) .ret))⟩

@[simp] theorem e157r0 : type_of% f157r0.eq_1 := by_rfl f157r0.eq_1
@[simp] theorem e157r1 : type_of% f157r1.eq_1 := by_rfl f157r1.eq_1
theorem e_rock_all_rock_Bore_1 : type_of% f_rock_all_rock_Bore_1.eq_1 := by_rfl f_rock_all_rock_Bore_1.eq_1
theorem ok_rock_all_rock_Bore_1 : fnC Tryz.prog a_rock_all_rock_Bore_1 Tryz.f157 = some f_rock_all_rock_Bore_1 := by kernel_rfl

/-! 158 slices.IndexFunc[[]fumarole/field.Model,fumarole/field.Model] -/
def f158r0 : List Abs.Op := [
  ⟨some 4, none, false, .mv (.c (.int .i64 0))⟩]

def f158r1 : List Abs.Op := [
  ⟨some 6, none, false, .mv (.t 0)⟩,
  ⟨some 7, none, false, .lenS (.t 6)⟩,
  ⟨some 8, none, false, .mv (.c (.int .i64 0))⟩]

def f158r2 : List Abs.Op := [
  ⟨some 9, none, false, .bin .lss (.t 8) (.t 7)⟩]

def f158r3 : List Abs.Op := [
  ⟨some 10, none, false, .mv (.t 8)⟩,
  ⟨some 5, none, false, .mv (.t 10)⟩]

def f158r4 : List Abs.Op := [
  ⟨some 11, none, false, .mv (.t 1)⟩,
  ⟨some 12, none, false, .mv (.t 0)⟩,
  ⟨some 13, none, false, .mv (.t 5)⟩,
  ⟨some 14, none, false, .idxS 2 (.t 12) (.t 13)⟩,
  ⟨some 15, none, false, .ld true 2 (.t 14)⟩,
  ⟨some 16, none, false, .call false (.t 11) [(.t 15)]⟩]

def f158r5 : List Abs.Op := [
  ⟨some 17, none, false, .mv (.t 5)⟩,
  ⟨some 4, none, false, .mv (.t 17)⟩]

def f158r6 : List Abs.Op := [
  ⟨some 18, none, false, .bin .add (.t 8) (.c (.int .i64 1))⟩,
  ⟨some 8, none, false, .mv (.t 18)⟩]

def f_slices_IndexFunc_field_Model_l7 : Abs.Cmd :=
  (.seq (.reg [0, 1, 7, 8, 9] f158r2) (.seq (.ite (.t 9) .nop (.exit 0)) (.seq (.blk 1 (.seq (.reg [0, 1, 5, 7, 8] f158r3) (.seq (.reg [0, 1, 5, 7, 8, 16] f158r4) (.ite (.t 16) (.seq (.reg [4] f158r5) .ret) .nop)))) (.reg [0, 1, 7, 8] f158r6))))

def f158r8 : List Abs.Op := [
  ⟨some 4, none, false, .mv (.c (.int .i64 (-1)))⟩]

def a_slices_IndexFunc_field_Model : Ann := ⟨[(7, [4]), (6, [0, 1, 7, 8]), (5, [4]), (4, [0, 1, 5, 7, 8, 16]), (3, [0, 1, 5, 7, 8]), (2, [0, 1, 7, 8, 9]), (1, [0, 1, 7, 8]), (0, [0, 1])], [(0, [0, 1, 7, 8])], [], [], [], [], [], [], [], [], []⟩
def f_slices_IndexFunc_field_Model : Abs.Fn := ⟨2, [.t 4],
  (.seq (.reg [0, 1] f158r0) (.seq (.seq (.reg [0, 1, 7, 8] f158r1) (.blk 0 (.loop [0, 1, 7, 8] false f_slices_IndexFunc_field_Model_l7))) (.seq (.reg [4] f158r8) .ret)))⟩

@[simp] theorem e158r0 : type_of% f158r0.eq_1 := by_rfl f158r0.eq_1
@[simp] theorem e158r1 : type_of% f158r1.eq_1 := by_rfl f158r1.eq_1
@[simp] theorem e158r2 : type_of% f158r2.eq_1 := by_rfl f158r2.eq_1
@[simp] theorem e158r3 : type_of% f158r3.eq_1 := by_rfl f158r3.eq_1
@[simp] theorem e158r4 : type_of% f158r4.eq_1 := by_rfl f158r4.eq_1
@[simp] theorem e158r5 : type_of% f158r5.eq_1 := by_rfl f158r5.eq_1
@[simp] theorem e158r6 : type_of% f158r6.eq_1 := by_rfl f158r6.eq_1
@[simp] theorem e158r8 : type_of% f158r8.eq_1 := by_rfl f158r8.eq_1
theorem e_slices_IndexFunc_field_Model_l7 : type_of% f_slices_IndexFunc_field_Model_l7.eq_1 := by_rfl f_slices_IndexFunc_field_Model_l7.eq_1
theorem e_slices_IndexFunc_field_Model : type_of% f_slices_IndexFunc_field_Model.eq_1 := by_rfl f_slices_IndexFunc_field_Model.eq_1
theorem ok_slices_IndexFunc_field_Model : fnC Tryz.prog a_slices_IndexFunc_field_Model Tryz.f158 = some f_slices_IndexFunc_field_Model := by kernel_rfl

/-! 159 slices.ContainsFunc[[]int,int] -/
def f159r0 : List Abs.Op := [
  ⟨some 4, none, false, .mv (.c (.bool false))⟩]

def f159r1 : List Abs.Op := [
  ⟨some 5, none, false, .mv (.t 0)⟩,
  ⟨some 6, none, false, .mv (.t 1)⟩,
  ⟨some 7, none, false, .call false (.c (.fn i_slices_IndexFunc_int [] [])) [(.t 5), (.t 6)]⟩,
  ⟨some 8, none, false, .bin .geq (.t 7) (.c (.int .i64 0))⟩,
  ⟨some 4, none, false, .mv (.t 8)⟩]

def a_slices_ContainsFunc_int : Ann := ⟨[(1, [4]), (0, [0, 1])], [], [], [], [], [], [], [], [], [], []⟩
def f_slices_ContainsFunc_int : Abs.Fn := ⟨2, [.t 4],
  (.seq (.reg [0, 1] f159r0) (.seq (.reg [4] f159r1) .ret))⟩

@[simp] theorem e159r0 : type_of% f159r0.eq_1 := by_rfl f159r0.eq_1
@[simp] theorem e159r1 : type_of% f159r1.eq_1 := by_rfl f159r1.eq_1
theorem e_slices_ContainsFunc_int : type_of% f_slices_ContainsFunc_int.eq_1 := by_rfl f_slices_ContainsFunc_int.eq_1
theorem ok_slices_ContainsFunc_int : fnC Tryz.prog a_slices_ContainsFunc_int Tryz.f159 = some f_slices_ContainsFunc_int := by kernel_rfl

/-! 160 fumarole/rock.all[int]$1 -/
def f160r0 : List Abs.Op := [
  ⟨some 3, none, false, .mv (.c (.bool false))⟩]

def f160r1 : List Abs.Op := [
  ⟨some 4, none, false, .ld false 1 (.t 1)⟩,
  ⟨some 5, none, false, .mv (.t 0)⟩,
  ⟨some 6, none, false, .call false (.t 4) [(.t 5)]⟩,
  ⟨some 7, none, false, .un .not (.t 6)⟩,
  ⟨some 3, none, false, .mv (.t 7)⟩]

def a_rock_all_int_1 : Ann := ⟨[(1, [3]), (0, [0, 1])], [], [], [], [], [], [], [], [], [], []⟩
def f_rock_all_int_1 : Abs.Fn := ⟨2, [.t 3],
  (.seq (.reg [0, 1] f160r0) (.seq (.reg [3] f160r1) .ret))⟩

@[simp] theorem e160r0 : type_of% f160r0.eq_1 := by_rfl f160r0.eq_1
@[simp] theorem e160r1 : type_of% f160r1.eq_1 := by_rfl f160r1.eq_1
theorem e_rock_all_int_1 : type_of% f_rock_all_int_1.eq_1 := by_rfl f_rock_all_int_1.eq_1
theorem ok_rock_all_int_1 : fnC Tryz.prog a_rock_all_int_1 Tryz.f160 = some f_rock_all_int_1 := by kernel_rfl

/-! 161 (fumarole/rock.bedded).pressures -/
def f161r0 : List Abs.Op := [
  ⟨some 2, none, false, .boxi (.t 0)⟩,
  ⟨some 4, none, false, .nilb 1⟩]

def f161r1 : List Abs.Op := [
  ⟨some 6, none, false, .mv (.t 1)⟩,
  ⟨some 7, none, false, .lenS (.t 6)⟩,
  ⟨some 8, none, false, .mv (.c (.int .i64 0))⟩]

def f161r2 : List Abs.Op := [
  ⟨some 9, none, false, .bin .lss (.t 8) (.t 7)⟩]

def f161r3 : List Abs.Op := [
  ⟨some 10, none, false, .mv (.t 8)⟩,
  ⟨some 5, none, false, .mv (.t 10)⟩]

def f161r4 : List Abs.Op := [
  ⟨some 11, none, false, .mv (.t 4)⟩,
  ⟨some 12, none, false, .ld true 11 (.t 2)⟩,
  ⟨some 13, none, false, .mv (.t 1)⟩,
  ⟨some 14, none, false, .mv (.t 5)⟩,
  ⟨some 15, none, false, .call false (.c (.fn i_rock_bedded_pressure [] [])) [(.t 12), (.t 13), (.t 14)]⟩,
  ⟨some 16, none, false, .bsi 1 1 [(.int .i64 0)] [(0, 1, (.t 15))]⟩,
  ⟨some 17, none, false, .app 1 8 (.t 11) (.t 16)⟩,
  ⟨some 4, none, false, .mv (.t 17)⟩]

def f161r5 : List Abs.Op := [
  ⟨some 18, none, false, .bin .add (.t 8) (.c (.int .i64 1))⟩,
  ⟨some 8, none, false, .mv (.t 18)⟩]

def f_rock_bedded_pressures_l6 : Abs.Cmd :=
  (.seq (.reg [1, 2, 4, 7, 8, 9] f161r2) (.seq (.ite (.t 9) .nop (.exit 0)) (.seq (.blk 1 (.seq (.reg [1, 2, 4, 5, 7, 8] f161r3) (.reg [1, 2, 4, 7, 8] f161r4))) (.reg [1, 2, 4, 7, 8] f161r5))))

def f161r7 : List Abs.Op := [
  ⟨some 19, none, false, .mv (.t 4)⟩,
  ⟨some 4, none, false, .mv (.t 19)⟩]

def a_rock_bedded_pressures : Ann := ⟨[(6, [4]), (5, [1, 2, 4, 7, 8]), (4, [1, 2, 4, 7, 8]), (3, [1, 2, 4, 5, 7, 8]), (2, [1, 2, 4, 7, 8, 9]), (1, [1, 2, 4, 7, 8]), (0, [1, 2, 4])], [(0, [1, 2, 4, 7, 8])], [], [4], [], [], [], [], [], [], []⟩
def f_rock_bedded_pressures : Abs.Fn := ⟨2, [.t 4],
  (.seq (.reg [1, 2, 4] f161r0) (.seq (.seq (.reg [1, 2, 4, 7, 8] f161r1) (.blk 0 (.loop [1, 2, 4, 7, 8] false f_rock_bedded_pressures_l6))) (.seq (.reg [4] f161r7) .ret)))⟩

@[simp] theorem e161r0 : type_of% f161r0.eq_1 := by_rfl f161r0.eq_1
@[simp] theorem e161r1 : type_of% f161r1.eq_1 := by_rfl f161r1.eq_1
@[simp] theorem e161r2 : type_of% f161r2.eq_1 := by_rfl f161r2.eq_1
@[simp] theorem e161r3 : type_of% f161r3.eq_1 := by_rfl f161r3.eq_1
@[simp] theorem e161r4 : type_of% f161r4.eq_1 := by_rfl f161r4.eq_1
@[simp] theorem e161r5 : type_of% f161r5.eq_1 := by_rfl f161r5.eq_1
@[simp] theorem e161r7 : type_of% f161r7.eq_1 := by_rfl f161r7.eq_1
theorem e_rock_bedded_pressures_l6 : type_of% f_rock_bedded_pressures_l6.eq_1 := by_rfl f_rock_bedded_pressures_l6.eq_1
theorem e_rock_bedded_pressures : type_of% f_rock_bedded_pressures.eq_1 := by_rfl f_rock_bedded_pressures.eq_1
theorem ok_rock_bedded_pressures : fnC Tryz.prog a_rock_bedded_pressures Tryz.f161 = some f_rock_bedded_pressures := by kernel_rfl

/-! 162 (fumarole/rock.Bed).links -/
def f162r0 : List Abs.Op := [
  ⟨some 1, none, false, .boxi (.t 0)⟩,
  ⟨some 2, none, false, .mv (.c .nilf)⟩]

def f162r1 : List Abs.Op := [
  ⟨some 3, none, false, .mkf i_rock_Bed_links_1 [] [(.t 1)]⟩,
  ⟨some 2, none, false, .mv (.t 3)⟩]

def a_rock_Bed_links : Ann := ⟨[(1, [2]), (0, [1])], [], [], [], [], [], [], [], [], [], []⟩
def f_rock_Bed_links : Abs.Fn := ⟨1, [.t 2],
  (.seq (.reg [1] f162r0) (.seq (.reg [2] f162r1) .ret))⟩

@[simp] theorem e162r0 : type_of% f162r0.eq_1 := by_rfl f162r0.eq_1
@[simp] theorem e162r1 : type_of% f162r1.eq_1 := by_rfl f162r1.eq_1
theorem e_rock_Bed_links : type_of% f_rock_Bed_links.eq_1 := by_rfl f_rock_Bed_links.eq_1
theorem ok_rock_Bed_links : fnC Tryz.prog a_rock_Bed_links Tryz.f162 = some f_rock_Bed_links := by kernel_rfl

/-! 163 (fumarole/rock.bedded).open -/
def f163r0 : List Abs.Op := [
  ⟨some 2, none, false, .boxi (.t 0)⟩,
  ⟨some 4, none, false, .mv (.c (.int .i64 0))⟩]

def f163r1 : List Abs.Op := [
  ⟨some 5, none, false, .ld true 11 (.t 2)⟩,
  ⟨some 6, none, false, .call false (.c (.fn i_rock_bedded_kind [] [])) [(.t 5), (.c (.int .i64 1))]⟩,
  ⟨some 7, none, false, .mv (.t 1)⟩,
  ⟨some 8, none, false, .idxS 1 (.t 6) (.t 7)⟩,
  ⟨some 9, none, false, .ld false 1 (.t 8)⟩,
  ⟨some 4, none, false, .mv (.t 9)⟩]

def a_rock_bedded_open : Ann := ⟨[(1, [4]), (0, [1, 2])], [], [], [], [], [], [], [], [], [], []⟩
def f_rock_bedded_open : Abs.Fn := ⟨2, [.t 4],
  (.seq (.reg [1, 2] f163r0) (.seq (.reg [4] f163r1) .ret))⟩

@[simp] theorem e163r0 : type_of% f163r0.eq_1 := by_rfl f163r0.eq_1
@[simp] theorem e163r1 : type_of% f163r1.eq_1 := by_rfl f163r1.eq_1
theorem e_rock_bedded_open : type_of% f_rock_bedded_open.eq_1 := by_rfl f_rock_bedded_open.eq_1
theorem ok_rock_bedded_open : fnC Tryz.prog a_rock_bedded_open Tryz.f163 = some f_rock_bedded_open := by kernel_rfl

/-! 164 (fumarole/rock.bedded).feed -/
def f164r0 : List Abs.Op := [
  ⟨some 2, none, false, .boxi (.t 0)⟩,
  ⟨some 4, none, false, .mv (.c (.int .i64 0))⟩]

def f164r1 : List Abs.Op := [
  ⟨some 5, none, false, .ld true 11 (.t 2)⟩,
  ⟨some 6, none, false, .call false (.c (.fn i_rock_bedded_kind [] [])) [(.t 5), (.c (.int .i64 3))]⟩,
  ⟨some 7, none, false, .mv (.t 1)⟩,
  ⟨some 8, none, false, .idxS 1 (.t 6) (.t 7)⟩,
  ⟨some 9, none, false, .ld false 1 (.t 8)⟩,
  ⟨some 4, none, false, .mv (.t 9)⟩]

def a_rock_bedded_feed : Ann := ⟨[(1, [4]), (0, [1, 2])], [], [], [], [], [], [], [], [], [], []⟩
def f_rock_bedded_feed : Abs.Fn := ⟨2, [.t 4],
  (.seq (.reg [1, 2] f164r0) (.seq (.reg [4] f164r1) .ret))⟩

@[simp] theorem e164r0 : type_of% f164r0.eq_1 := by_rfl f164r0.eq_1
@[simp] theorem e164r1 : type_of% f164r1.eq_1 := by_rfl f164r1.eq_1
theorem e_rock_bedded_feed : type_of% f_rock_bedded_feed.eq_1 := by_rfl f_rock_bedded_feed.eq_1
theorem ok_rock_bedded_feed : fnC Tryz.prog a_rock_bedded_feed Tryz.f164 = some f_rock_bedded_feed := by kernel_rfl

/-! 165 fumarole/rock.all[fumarole/rock.Block] -/
def f165r0 : List Abs.Op := [
  ⟨some 3, none, false, .boxi (.t 1)⟩,
  ⟨some 4, none, false, .mv (.c (.bool false))⟩]

def f165r1 : List Abs.Op := [
  ⟨some 5, none, false, .mv (.t 0)⟩,
  ⟨some 6, none, false, .mkf i_rock_all_rock_Block_1 [] [(.t 3)]⟩,
  ⟨some 7, none, false, .call false (.c (.fn i_slices_ContainsFunc_rock_Block [] [])) [(.t 5), (.t 6)]⟩,
  ⟨some 8, none, false, .un .not (.t 7)⟩,
  ⟨some 4, none, false, .mv (.t 8)⟩]

def a_rock_all_rock_Block : Ann := ⟨[(1, [4]), (0, [0, 3])], [], [], [], [], [], [], [], [], [], []⟩
def f_rock_all_rock_Block : Abs.Fn := ⟨2, [.t 4],
  (.seq (.reg [0, 3] f165r0) (.seq (.reg [4] f165r1) .ret))⟩

@[simp] theorem e165r0 : type_of% f165r0.eq_1 := by_rfl f165r0.eq_1
@[simp] theorem e165r1 : type_of% f165r1.eq_1 := by_rfl f165r1.eq_1
theorem e_rock_all_rock_Block : type_of% f_rock_all_rock_Block.eq_1 := by_rfl f_rock_all_rock_Block.eq_1
theorem ok_rock_all_rock_Block : fnC Tryz.prog a_rock_all_rock_Block Tryz.f165 = some f_rock_all_rock_Block := by kernel_rfl

/-! 166 (fumarole/rock.Block).valid -/
def f166r0 : List Abs.Op := [
  ⟨some 1, none, false, .boxi (.t 0)⟩,
  ⟨some 2, none, false, .mv (.c (.bool false))⟩]

def f166r1 : List Abs.Op := [
  ⟨some 3, none, false, .fadr 0 (.t 1)⟩,
  ⟨some 4, none, false, .ld false 1 (.t 3)⟩,
  ⟨some 5, none, false, .call false (.c (.fn i_rock_within [] [])) [(.t 4), (.c (.int .i64 1)), (.c (.int .i64 1000000))]⟩,
  ⟨some 6, none, false, .mv (.t 5)⟩,
  ⟨some 7, some (6, true), false, .fadr 1 (.t 1)⟩,
  ⟨some 8, some (6, true), false, .ld false 1 (.t 7)⟩,
  ⟨some 9, some (6, true), false, .call false (.c (.fn i_rock_within [] [])) [(.t 8), (.c (.int .i64 0)), (.c (.int .i64 10000000000))]⟩,
  ⟨some 10, none, false, .pick (.t 6) (.t 9) (.c (.bool false))⟩,
  ⟨some 11, none, false, .mv (.t 10)⟩,
  ⟨some 12, some (11, true), false, .fadr 2 (.t 1)⟩,
  ⟨some 13, some (11, true), false, .ld false 1 (.t 12)⟩,
  ⟨some 14, some (11, true), false, .call false (.c (.fn i_rock_within [] [])) [(.t 13), (.c (.int .i64 0)), (.c (.int .i64 1000000000000))]⟩,
  ⟨some 15, none, false, .pick (.t 11) (.t 14) (.c (.bool false))⟩,
  ⟨some 2, none, false, .mv (.t 15)⟩]

def a_rock_Block_valid : Ann := ⟨[(1, [2]), (0, [1])], [], [], [], [], [], [], [], [], [], []⟩
def f_rock_Block_valid : Abs.Fn := ⟨1, [.t 2],
  (.seq (.reg [1] f166r0) (.seq (.reg [2] f166r1) .ret))⟩

@[simp] theorem e166r0 : type_of% f166r0.eq_1 := by_rfl f166r0.eq_1
@[simp] theorem e166r1 : type_of% f166r1.eq_1 := by_rfl f166r1.eq_1
theorem e_rock_Block_valid : type_of% f_rock_Block_valid.eq_1 := by_rfl f_rock_Block_valid.eq_1
theorem ok_rock_Block_valid : fnC Tryz.prog a_rock_Block_valid Tryz.f166 = some f_rock_Block_valid := by kernel_rfl

/-! 167 slices.IndexFunc[[]fumarole/steam.Row,fumarole/steam.Row] -/
def f167r0 : List Abs.Op := [
  ⟨some 4, none, false, .mv (.c (.int .i64 0))⟩]

def f167r1 : List Abs.Op := [
  ⟨some 6, none, false, .mv (.t 0)⟩,
  ⟨some 7, none, false, .lenS (.t 6)⟩,
  ⟨some 8, none, false, .mv (.c (.int .i64 0))⟩]

def f167r2 : List Abs.Op := [
  ⟨some 9, none, false, .bin .lss (.t 8) (.t 7)⟩]

def f167r3 : List Abs.Op := [
  ⟨some 10, none, false, .mv (.t 8)⟩,
  ⟨some 5, none, false, .mv (.t 10)⟩]

def f167r4 : List Abs.Op := [
  ⟨some 11, none, false, .mv (.t 1)⟩,
  ⟨some 12, none, false, .mv (.t 0)⟩,
  ⟨some 13, none, false, .mv (.t 5)⟩,
  ⟨some 14, none, false, .idxS 5 (.t 12) (.t 13)⟩,
  ⟨some 15, none, false, .ld true 5 (.t 14)⟩,
  ⟨some 16, none, false, .call false (.t 11) [(.t 15)]⟩]

def f167r5 : List Abs.Op := [
  ⟨some 17, none, false, .mv (.t 5)⟩,
  ⟨some 4, none, false, .mv (.t 17)⟩]

def f167r6 : List Abs.Op := [
  ⟨some 18, none, false, .bin .add (.t 8) (.c (.int .i64 1))⟩,
  ⟨some 8, none, false, .mv (.t 18)⟩]

def f_slices_IndexFunc_steam_Row_l7 : Abs.Cmd :=
  (.seq (.reg [0, 1, 7, 8, 9] f167r2) (.seq (.ite (.t 9) .nop (.exit 0)) (.seq (.blk 1 (.seq (.reg [0, 1, 5, 7, 8] f167r3) (.seq (.reg [0, 1, 5, 7, 8, 16] f167r4) (.ite (.t 16) (.seq (.reg [4] f167r5) .ret) .nop)))) (.reg [0, 1, 7, 8] f167r6))))

def f167r8 : List Abs.Op := [
  ⟨some 4, none, false, .mv (.c (.int .i64 (-1)))⟩]

def a_slices_IndexFunc_steam_Row : Ann := ⟨[(7, [4]), (6, [0, 1, 7, 8]), (5, [4]), (4, [0, 1, 5, 7, 8, 16]), (3, [0, 1, 5, 7, 8]), (2, [0, 1, 7, 8, 9]), (1, [0, 1, 7, 8]), (0, [0, 1])], [(0, [0, 1, 7, 8])], [], [], [], [], [], [], [], [], []⟩
def f_slices_IndexFunc_steam_Row : Abs.Fn := ⟨2, [.t 4],
  (.seq (.reg [0, 1] f167r0) (.seq (.seq (.reg [0, 1, 7, 8] f167r1) (.blk 0 (.loop [0, 1, 7, 8] false f_slices_IndexFunc_steam_Row_l7))) (.seq (.reg [4] f167r8) .ret)))⟩

@[simp] theorem e167r0 : type_of% f167r0.eq_1 := by_rfl f167r0.eq_1
@[simp] theorem e167r1 : type_of% f167r1.eq_1 := by_rfl f167r1.eq_1
@[simp] theorem e167r2 : type_of% f167r2.eq_1 := by_rfl f167r2.eq_1
@[simp] theorem e167r3 : type_of% f167r3.eq_1 := by_rfl f167r3.eq_1
@[simp] theorem e167r4 : type_of% f167r4.eq_1 := by_rfl f167r4.eq_1
@[simp] theorem e167r5 : type_of% f167r5.eq_1 := by_rfl f167r5.eq_1
@[simp] theorem e167r6 : type_of% f167r6.eq_1 := by_rfl f167r6.eq_1
@[simp] theorem e167r8 : type_of% f167r8.eq_1 := by_rfl f167r8.eq_1
theorem e_slices_IndexFunc_steam_Row_l7 : type_of% f_slices_IndexFunc_steam_Row_l7.eq_1 := by_rfl f_slices_IndexFunc_steam_Row_l7.eq_1
theorem e_slices_IndexFunc_steam_Row : type_of% f_slices_IndexFunc_steam_Row.eq_1 := by_rfl f_slices_IndexFunc_steam_Row.eq_1
theorem ok_slices_IndexFunc_steam_Row : fnC Tryz.prog a_slices_IndexFunc_steam_Row Tryz.f167 = some f_slices_IndexFunc_steam_Row := by kernel_rfl

/-! 168 fumarole/field.named -/
def f168r0 : List Abs.Op := [
  ⟨some 2, none, false, .mv (.c (.bool false))⟩]

def f168r1 : List Abs.Op := [
  ⟨some 5, none, false, .mv (.t 0)⟩,
  ⟨some 6, none, false, .pur (.slen) [(.t 5)]⟩,
  ⟨some 7, none, false, .mv (.c (.int .i64 0))⟩]

def f168r2 : List Abs.Op := [
  ⟨some 8, none, false, .bin .lss (.t 7) (.t 6)⟩]

def f168r3 : List Abs.Op := [
  ⟨some 9, none, false, .mv (.t 7)⟩,
  ⟨some 3, none, false, .mv (.t 9)⟩]

def f168r4 : List Abs.Op := [
  ⟨some 10, none, false, .mv (.t 0)⟩,
  ⟨some 11, none, false, .mv (.t 3)⟩,
  ⟨some 12, none, false, .pur (.sidx) [(.t 10), (.t 11)]⟩,
  ⟨some 13, none, false, .bin .geq (.t 12) (.c (.int .u8 97))⟩,
  ⟨some 14, none, false, .mv (.t 13)⟩,
  ⟨some 15, some (14, true), false, .mv (.t 0)⟩,
  ⟨some 16, some (14, true), false, .mv (.t 3)⟩,
  ⟨some 17, some (14, true), false, .pur (.sidx) [(.t 15), (.t 16)]⟩,
  ⟨some 18, some (14, true), false, .bin .leq (.t 17) (.c (.int .u8 122))⟩,
  ⟨some 19, none, false, .pick (.t 14) (.t 18) (.c (.bool false))⟩,
  ⟨some 4, none, false, .mv (.t 19)⟩]

def f168r5 : List Abs.Op := [
  ⟨some 20, none, false, .mv (.t 4)⟩,
  ⟨some 21, none, false, .un .not (.t 20)⟩,
  ⟨some 22, none, false, .mv (.t 21)⟩,
  ⟨some 23, some (22, true), false, .mv (.t 3)⟩,
  ⟨some 24, some (22, true), false, .bin .eql (.t 23) (.c (.int .i64 0))⟩,
  ⟨some 25, some (22, true), false, .mv (.t 24)⟩,
  ⟨some 26, some (25, false), false, .mv (.t 0)⟩,
  ⟨some 27, some (25, false), false, .mv (.t 3)⟩,
  ⟨some 28, some (25, false), false, .pur (.sidx) [(.t 26), (.t 27)]⟩,
  ⟨some 29, some (25, false), false, .bin .lss (.t 28) (.c (.int .u8 48))⟩,
  ⟨some 30, some (22, true), false, .pick (.t 25) (.c (.bool true)) (.t 29)⟩,
  ⟨some 31, some (22, true), false, .mv (.t 30)⟩,
  ⟨some 32, some (31, false), false, .mv (.t 0)⟩,
  ⟨some 33, some (31, false), false, .mv (.t 3)⟩,
  ⟨some 34, some (31, false), false, .pur (.sidx) [(.t 32), (.t 33)]⟩,
  ⟨some 35, some (31, false), false, .bin .gtr (.t 34) (.c (.int .u8 57))⟩,
  ⟨some 36, some (22, true), false, .pick (.t 31) (.c (.bool true)) (.t 35)⟩,
  ⟨some 37, none, false, .pick (.t 22) (.t 36) (.c (.bool false))⟩]

def f168r6 : List Abs.Op := [
  ⟨some 2, none, false, .mv (.c (.bool false))⟩]

def f168r7 : List Abs.Op := [
  ⟨some 38, none, false, .bin .add (.t 7) (.c (.int .i64 1))⟩,
  ⟨some 7, none, false, .mv (.t 38)⟩]

def f_field_named_l8 : Abs.Cmd :=
  (.seq (.reg [0, 6, 7, 8] f168r2) (.seq (.ite (.t 8) .nop (.exit 0)) (.seq (.blk 1 (.seq (.reg [0, 3, 6, 7] f168r3) (.seq (.reg [0, 3, 4, 6, 7] f168r4) (.seq (.reg [0, 6, 7, 37] f168r5) (.ite (.t 37) (.seq (.reg [2] f168r6) .ret) .nop))))) (.reg [0, 6, 7] f168r7))))

def f168r9 : List Abs.Op := [
  ⟨some 39, none, false, .mv (.t 0)⟩,
  ⟨some 40, none, false, .pur (.slen) [(.t 39)]⟩,
  ⟨some 41, none, false, .call false (.c (.fn i_field_within [] [])) [(.t 40), (.c (.int .i64 1)), (.c (.int .i64 16))]⟩,
  ⟨some 2, none, false, .mv (.t 41)⟩]

def a_field_named : Ann := ⟨[(8, [2]), (7, [0, 6, 7]), (6, [2]), (5, [0, 6, 7, 37]), (4, [0, 3, 4, 6, 7]), (3, [0, 3, 6, 7]), (2, [0, 6, 7, 8]), (1, [0, 6, 7]), (0, [0])], [(0, [0, 6, 7])], [], [], [], [], [], [], [], [], []⟩
def f_field_named : Abs.Fn := ⟨1, [.t 2],
  (.seq (.reg [0] f168r0) (.seq (.seq (.reg [0, 6, 7] f168r1) (.blk 0 (.loop [0, 6, 7] false f_field_named_l8))) (.seq (.reg [2] f168r9) .ret)))⟩

@[simp] theorem e168r0 : type_of% f168r0.eq_1 := by_rfl f168r0.eq_1
@[simp] theorem e168r1 : type_of% f168r1.eq_1 := by_rfl f168r1.eq_1
@[simp] theorem e168r2 : type_of% f168r2.eq_1 := by_rfl f168r2.eq_1
@[simp] theorem e168r3 : type_of% f168r3.eq_1 := by_rfl f168r3.eq_1
@[simp] theorem e168r4 : type_of% f168r4.eq_1 := by_rfl f168r4.eq_1
@[simp] theorem e168r5 : type_of% f168r5.eq_1 := by_rfl f168r5.eq_1
@[simp] theorem e168r6 : type_of% f168r6.eq_1 := by_rfl f168r6.eq_1
@[simp] theorem e168r7 : type_of% f168r7.eq_1 := by_rfl f168r7.eq_1
@[simp] theorem e168r9 : type_of% f168r9.eq_1 := by_rfl f168r9.eq_1
theorem e_field_named_l8 : type_of% f_field_named_l8.eq_1 := by_rfl f_field_named_l8.eq_1
theorem e_field_named : type_of% f_field_named.eq_1 := by_rfl f_field_named.eq_1
theorem ok_field_named : fnC Tryz.prog a_field_named Tryz.f168 = some f_field_named := by kernel_rfl

/-! 169 fumarole/field.all[int] -/
def f169r0 : List Abs.Op := [
  ⟨some 3, none, false, .boxi (.t 1)⟩,
  ⟨some 4, none, false, .mv (.c (.bool false))⟩]

def f169r1 : List Abs.Op := [
  ⟨some 5, none, false, .mv (.t 0)⟩,
  ⟨some 6, none, false, .mkf i_field_all_int_1 [] [(.t 3)]⟩,
  ⟨some 7, none, false, .call false (.c (.fn i_slices_ContainsFunc_int [] [])) [(.t 5), (.t 6)]⟩,
  ⟨some 8, none, false, .un .not (.t 7)⟩,
  ⟨some 4, none, false, .mv (.t 8)⟩]

def a_field_all_int : Ann := ⟨[(1, [4]), (0, [0, 3])], [], [], [], [], [], [], [], [], [], []⟩
def f_field_all_int : Abs.Fn := ⟨2, [.t 4],
  (.seq (.reg [0, 3] f169r0) (.seq (.reg [4] f169r1) .ret))⟩

@[simp] theorem e169r0 : type_of% f169r0.eq_1 := by_rfl f169r0.eq_1
@[simp] theorem e169r1 : type_of% f169r1.eq_1 := by_rfl f169r1.eq_1
theorem e_field_all_int : type_of% f_field_all_int.eq_1 := by_rfl f_field_all_int.eq_1
theorem ok_field_all_int : fnC Tryz.prog a_field_all_int Tryz.f169 = some f_field_all_int := by kernel_rfl

/-! 170 (fumarole/field.Field).model$1 -/
def f170r0 : List Abs.Op := [
  ⟨some 2, none, false, .mv (.c (.bool false))⟩]

def f170r1 : List Abs.Op := [
  ⟨some 3, none, false, .mv (.t 0)⟩,
  ⟨some 4, none, false, .call false (.c (.fn i_field_within [] [])) [(.t 3), (.c (.int .i64 (-100000))), (.c (.int .i64 100000))]⟩,
  ⟨some 2, none, false, .mv (.t 4)⟩]

def a_field_Field_model_1 : Ann := ⟨[(1, [2]), (0, [0])], [], [], [], [], [], [], [], [], [], []⟩
def f_field_Field_model_1 : Abs.Fn := ⟨1, [.t 2],
  (.seq (.reg [0] f170r0) (.seq (.reg [2] f170r1) .ret))⟩

@[simp] theorem e170r0 : type_of% f170r0.eq_1 := by_rfl f170r0.eq_1
@[simp] theorem e170r1 : type_of% f170r1.eq_1 := by_rfl f170r1.eq_1
theorem e_field_Field_model_1 : type_of% f_field_Field_model_1.eq_1 := by_rfl f_field_Field_model_1.eq_1
theorem ok_field_Field_model_1 : fnC Tryz.prog a_field_Field_model_1 Tryz.f170 = some f_field_Field_model_1 := by kernel_rfl

/-! 174 slices.IndexFunc[[]fumarole/rock.Bore,fumarole/rock.Bore] -/
def f174r0 : List Abs.Op := [
  ⟨some 4, none, false, .mv (.c (.int .i64 0))⟩]

def f174r1 : List Abs.Op := [
  ⟨some 6, none, false, .mv (.t 0)⟩,
  ⟨some 7, none, false, .lenS (.t 6)⟩,
  ⟨some 8, none, false, .mv (.c (.int .i64 0))⟩]

def f174r2 : List Abs.Op := [
  ⟨some 9, none, false, .bin .lss (.t 8) (.t 7)⟩]

def f174r3 : List Abs.Op := [
  ⟨some 10, none, false, .mv (.t 8)⟩,
  ⟨some 5, none, false, .mv (.t 10)⟩]

def f174r4 : List Abs.Op := [
  ⟨some 11, none, false, .mv (.t 1)⟩,
  ⟨some 12, none, false, .mv (.t 0)⟩,
  ⟨some 13, none, false, .mv (.t 5)⟩,
  ⟨some 14, none, false, .idxS 3 (.t 12) (.t 13)⟩,
  ⟨some 15, none, false, .ld true 3 (.t 14)⟩,
  ⟨some 16, none, false, .call false (.t 11) [(.t 15)]⟩]

def f174r5 : List Abs.Op := [
  ⟨some 17, none, false, .mv (.t 5)⟩,
  ⟨some 4, none, false, .mv (.t 17)⟩]

def f174r6 : List Abs.Op := [
  ⟨some 18, none, false, .bin .add (.t 8) (.c (.int .i64 1))⟩,
  ⟨some 8, none, false, .mv (.t 18)⟩]

def f_slices_IndexFunc_rock_Bore_l7 : Abs.Cmd :=
  (.seq (.reg [0, 1, 7, 8, 9] f174r2) (.seq (.ite (.t 9) .nop (.exit 0)) (.seq (.blk 1 (.seq (.reg [0, 1, 5, 7, 8] f174r3) (.seq (.reg [0, 1, 5, 7, 8, 16] f174r4) (.ite (.t 16) (.seq (.reg [4] f174r5) .ret) .nop)))) (.reg [0, 1, 7, 8] f174r6))))

def f174r8 : List Abs.Op := [
  ⟨some 4, none, false, .mv (.c (.int .i64 (-1)))⟩]

def a_slices_IndexFunc_rock_Bore : Ann := ⟨[(7, [4]), (6, [0, 1, 7, 8]), (5, [4]), (4, [0, 1, 5, 7, 8, 16]), (3, [0, 1, 5, 7, 8]), (2, [0, 1, 7, 8, 9]), (1, [0, 1, 7, 8]), (0, [0, 1])], [(0, [0, 1, 7, 8])], [], [], [], [], [], [], [], [], []⟩
def f_slices_IndexFunc_rock_Bore : Abs.Fn := ⟨2, [.t 4],
  (.seq (.reg [0, 1] f174r0) (.seq (.seq (.reg [0, 1, 7, 8] f174r1) (.blk 0 (.loop [0, 1, 7, 8] false f_slices_IndexFunc_rock_Bore_l7))) (.seq (.reg [4] f174r8) .ret)))⟩

@[simp] theorem e174r0 : type_of% f174r0.eq_1 := by_rfl f174r0.eq_1
@[simp] theorem e174r1 : type_of% f174r1.eq_1 := by_rfl f174r1.eq_1
@[simp] theorem e174r2 : type_of% f174r2.eq_1 := by_rfl f174r2.eq_1
@[simp] theorem e174r3 : type_of% f174r3.eq_1 := by_rfl f174r3.eq_1
@[simp] theorem e174r4 : type_of% f174r4.eq_1 := by_rfl f174r4.eq_1
@[simp] theorem e174r5 : type_of% f174r5.eq_1 := by_rfl f174r5.eq_1
@[simp] theorem e174r6 : type_of% f174r6.eq_1 := by_rfl f174r6.eq_1
@[simp] theorem e174r8 : type_of% f174r8.eq_1 := by_rfl f174r8.eq_1
theorem e_slices_IndexFunc_rock_Bore_l7 : type_of% f_slices_IndexFunc_rock_Bore_l7.eq_1 := by_rfl f_slices_IndexFunc_rock_Bore_l7.eq_1
theorem e_slices_IndexFunc_rock_Bore : type_of% f_slices_IndexFunc_rock_Bore.eq_1 := by_rfl f_slices_IndexFunc_rock_Bore.eq_1
theorem ok_slices_IndexFunc_rock_Bore : fnC Tryz.prog a_slices_IndexFunc_rock_Bore Tryz.f174 = some f_slices_IndexFunc_rock_Bore := by kernel_rfl

/-! 175 (fumarole/rock.Bed).links$1 -/
def f175r0 : List Abs.Op := [
  ⟨some 6, none, true, .fadr 0 (.t 1)⟩,
  ⟨some 7, none, true, .fadr 0 (.t 6)⟩,
  ⟨some 8, none, true, .ld false 1 (.t 7)⟩,
  ⟨some 9, none, true, .fadr 0 (.t 1)⟩,
  ⟨some 10, none, true, .fadr 1 (.t 9)⟩,
  ⟨some 11, none, true, .ld false 1 (.t 10)⟩,
  ⟨some 3, none, true, .mv (.t 8)⟩,
  ⟨some 4, none, false, .mv (.t 11)⟩]

def f175r1 : List Abs.Op := [
  ⟨some 12, none, false, .ld true 9 (.t 1)⟩,
  ⟨some 13, none, false, .call false (.c (.fn i_rock_Bed_size [] [])) [(.t 12)]⟩,
  ⟨some 14, none, false, .mv (.c (.int .i64 0))⟩]

def f175r2 : List Abs.Op := [
  ⟨some 15, none, false, .bin .lss (.t 14) (.t 13)⟩]

def f175r3 : List Abs.Op := [
  ⟨some 16, none, false, .mv (.t 14)⟩,
  ⟨some 5, none, false, .mv (.t 16)⟩]

def f175r4 : List Abs.Op := [
  ⟨some 17, none, false, .mv (.t 5)⟩,
  ⟨some 18, none, false, .bin .add (.t 17) (.c (.int .i64 1))⟩,
  ⟨some 19, none, false, .mv (.t 3)⟩,
  ⟨some 20, none, false, .bin .rem (.t 18) (.t 19)⟩,
  ⟨some 21, none, false, .bin .neq (.t 20) (.c (.int .i64 0))⟩,
  ⟨some 22, none, false, .mv (.t 21)⟩,
  ⟨some 23, some (22, true), false, .mv (.t 0)⟩,
  ⟨some 24, some (22, true), false, .mv (.t 5)⟩,
  ⟨some 25, some (22, true), false, .mv (.t 5)⟩,
  ⟨some 26, some (22, true), false, .bin .add (.t 25) (.c (.int .i64 1))⟩,
  ⟨some 27, some (22, true), false, .bld [(.int .i64 0), (.int .i64 0)] [(0, 1, (.t 24)), (1, 1, (.t 26))]⟩,
  ⟨some 28, some (22, true), false, .call false (.t 23) [(.t 27)]⟩,
  ⟨some 29, some (22, true), false, .un .not (.t 28)⟩,
  ⟨some 30, none, false, .pick (.t 22) (.t 29) (.c (.bool false))⟩]

def f175r5 : List Abs.Op := [
  ⟨some 31, none, false, .mv (.t 5)⟩,
  ⟨some 32, none, false, .mv (.t 3)⟩,
  ⟨some 33, none, false, .bin .quo (.t 31) (.t 32)⟩,
  ⟨some 34, none, false, .mv (.t 4)⟩,
  ⟨some 35, none, false, .bin .rem (.t 33) (.t 34)⟩,
  ⟨some 36, none, false, .mv (.t 4)⟩,
  ⟨some 37, none, false, .bin .sub (.t 36) (.c (.int .i64 1))⟩,
  ⟨some 38, none, false, .bin .neq (.t 35) (.t 37)⟩,
  ⟨some 39, none, false, .mv (.t 38)⟩,
  ⟨some 40, some (39, true), false, .mv (.t 0)⟩,
  ⟨some 41, some (39, true), false, .mv (.t 5)⟩,
  ⟨some 42, some (39, true), false, .mv (.t 5)⟩,
  ⟨some 43, some (39, true), false, .mv (.t 3)⟩,
  ⟨some 44, some (39, true), false, .bin .add (.t 42) (.t 43)⟩,
  ⟨some 45, some (39, true), false, .bld [(.int .i64 0), (.int .i64 0)] [(0, 1, (.t 41)), (1, 1, (.t 44))]⟩,
  ⟨some 46, some (39, true), false, .call false (.t 40) [(.t 45)]⟩,
  ⟨some 47, some (39, true), false, .un .not (.t 46)⟩,
  ⟨some 48, none, false, .pick (.t 39) (.t 47) (.c (.bool false))⟩]

def f175r6 : List Abs.Op := [
  ⟨some 49, none, false, .mv (.t 5)⟩,
  ⟨some 50, none, false, .mv (.t 3)⟩,
  ⟨some 51, none, false, .mv (.t 4)⟩,
  ⟨some 52, none, false, .bin .mul (.t 50) (.t 51)⟩,
  ⟨some 53, none, false, .bin .add (.t 49) (.t 52)⟩,
  ⟨some 54, none, false, .ld true 9 (.t 1)⟩,
  ⟨some 55, none, false, .call false (.c (.fn i_rock_Bed_size [] [])) [(.t 54)]⟩,
  ⟨some 56, none, false, .bin .lss (.t 53) (.t 55)⟩,
  ⟨some 57, none, false, .mv (.t 56)⟩,
  ⟨some 58, some (57, true), false, .mv (.t 0)⟩,
  ⟨some 59, some (57, true), false, .mv (.t 5)⟩,
  ⟨some 60, some (57, true), false, .mv (.t 5)⟩,
  ⟨some 61, some (57, true), false, .mv (.t 3)⟩,
  ⟨some 62, some (57, true), false, .mv (.t 4)⟩,
  ⟨some 63, some (57, true), false, .bin .mul (.t 61) (.t 62)⟩,
  ⟨some 64, some (57, true), false, .bin .add (.t 60) (.t 63)⟩,
  ⟨some 65, some (57, true), false, .bld [(.int .i64 0), (.int .i64 0)] [(0, 1, (.t 59)), (1, 1, (.t 64))]⟩,
  ⟨some 66, some (57, true), false, .call false (.t 58) [(.t 65)]⟩,
  ⟨some 67, some (57, true), false, .un .not (.t 66)⟩,
  ⟨some 68, none, false, .pick (.t 57) (.t 67) (.c (.bool false))⟩]

def f175r7 : List Abs.Op := [
  ⟨some 69, none, false, .bin .add (.t 14) (.c (.int .i64 1))⟩,
  ⟨some 14, none, false, .mv (.t 69)⟩]

def f_rock_Bed_links_1_l8 : Abs.Cmd :=
  (.seq (.reg [0, 1, 3, 4, 13, 14, 15] f175r2) (.seq (.ite (.t 15) .nop (.exit 0)) (.seq (.blk 1 (.seq (.reg [0, 1, 3, 4, 5, 13, 14] f175r3) (.seq (.seq (.reg [0, 1, 3, 4, 5, 13, 14, 30] f175r4) (.ite (.t 30) .ret .nop)) (.seq (.seq (.reg [0, 1, 3, 4, 5, 13, 14, 48] f175r5) (.ite (.t 48) .ret .nop)) (.seq (.reg [0, 1, 3, 4, 13, 14, 68] f175r6) (.ite (.t 68) .ret .nop)))))) (.reg [0, 1, 3, 4, 13, 14] f175r7))))

def a_rock_Bed_links_1 : Ann := ⟨[(7, [0, 1, 3, 4, 13, 14]), (6, [0, 1, 3, 4, 13, 14, 68]), (5, [0, 1, 3, 4, 5, 13, 14, 48]), (4, [0, 1, 3, 4, 5, 13, 14, 30]), (3, [0, 1, 3, 4, 5, 13, 14]), (2, [0, 1, 3, 4, 13, 14, 15]), (1, [0, 1, 3, 4, 13, 14]), (0, [0, 1, 3, 4])], [(0, [0, 1, 3, 4, 13, 14])], [], [], [], [], [], [], [], [], []⟩
def f_rock_Bed_links_1 : Abs.Fn := ⟨2, [],
  (.seq (.reg [0, 1, 3, 4] f175r0) (.seq (.reg [0, 1, 3, 4, 13, 14] f175r1) (.blk 0 (.loop [0, 1, 3, 4, 13, 14] false f_rock_Bed_links_1_l8))))⟩

@[simp] theorem e175r0 : type_of% f175r0.eq_1 := by_rfl f175r0.eq_1
@[simp] theorem e175r1 : type_of% f175r1.eq_1 := by_rfl f175r1.eq_1
@[simp] theorem e175r2 : type_of% f175r2.eq_1 := by_rfl f175r2.eq_1
@[simp] theorem e175r3 : type_of% f175r3.eq_1 := by_rfl f175r3.eq_1
@[simp] theorem e175r4 : type_of% f175r4.eq_1 := by_rfl f175r4.eq_1
@[simp] theorem e175r5 : type_of% f175r5.eq_1 := by_rfl f175r5.eq_1
@[simp] theorem e175r6 : type_of% f175r6.eq_1 := by_rfl f175r6.eq_1
@[simp] theorem e175r7 : type_of% f175r7.eq_1 := by_rfl f175r7.eq_1
theorem e_rock_Bed_links_1_l8 : type_of% f_rock_Bed_links_1_l8.eq_1 := by_rfl f_rock_Bed_links_1_l8.eq_1
theorem e_rock_Bed_links_1 : type_of% f_rock_Bed_links_1.eq_1 := by_rfl f_rock_Bed_links_1.eq_1
theorem ok_rock_Bed_links_1 : fnC Tryz.prog a_rock_Bed_links_1 Tryz.f175 = some f_rock_Bed_links_1 := by kernel_rfl

/-! 176 slices.ContainsFunc[[]fumarole/rock.Block,fumarole/rock.Block] -/
def f176r0 : List Abs.Op := [
  ⟨some 4, none, false, .mv (.c (.bool false))⟩]

def f176r1 : List Abs.Op := [
  ⟨some 5, none, false, .mv (.t 0)⟩,
  ⟨some 6, none, false, .mv (.t 1)⟩,
  ⟨some 7, none, false, .call false (.c (.fn i_slices_IndexFunc_rock_Block [] [])) [(.t 5), (.t 6)]⟩,
  ⟨some 8, none, false, .bin .geq (.t 7) (.c (.int .i64 0))⟩,
  ⟨some 4, none, false, .mv (.t 8)⟩]

def a_slices_ContainsFunc_rock_Block : Ann := ⟨[(1, [4]), (0, [0, 1])], [], [], [], [], [], [], [], [], [], []⟩
def f_slices_ContainsFunc_rock_Block : Abs.Fn := ⟨2, [.t 4],
  (.seq (.reg [0, 1] f176r0) (.seq (.reg [4] f176r1) .ret))⟩

@[simp] theorem e176r0 : type_of% f176r0.eq_1 := by_rfl f176r0.eq_1
@[simp] theorem e176r1 : type_of% f176r1.eq_1 := by_rfl f176r1.eq_1
theorem e_slices_ContainsFunc_rock_Block : type_of% f_slices_ContainsFunc_rock_Block.eq_1 := by_rfl f_slices_ContainsFunc_rock_Block.eq_1
theorem ok_slices_ContainsFunc_rock_Block : fnC Tryz.prog a_slices_ContainsFunc_rock_Block Tryz.f176 = some f_slices_ContainsFunc_rock_Block := by kernel_rfl

/-! 177 fumarole/rock.all[fumarole/rock.Block]$1 -/
def f177r0 : List Abs.Op := [
  ⟨some 2, none, false, .boxi (.t 0)⟩,
  ⟨some 3, none, false, .mv (.c (.bool false))⟩]

def f177r1 : List Abs.Op := [
  ⟨some 4, none, false, .ld false 1 (.t 1)⟩,
  ⟨some 5, none, false, .ld true 3 (.t 2)⟩,
  ⟨some 6, none, false, .call false (.t 4) [(.t 5)]⟩,
  ⟨some 7, none, false, .un .not (.t 6)⟩,
  ⟨some 3, none, false, .mv (.t 7)⟩]

def a_rock_all_rock_Block_1 : Ann := ⟨[(1, [3]), (0, [1, 2])], [], [], [], [], [], [], [], [], [], []⟩
def f_rock_all_rock_Block_1 : Abs.Fn := ⟨2, [.t 3],
  (.seq (.reg [1, 2] f177r0) (.seq (.reg [3] f177r1) .ret))⟩

@[simp] theorem e177r0 : type_of% f177r0.eq_1 := by_rfl f177r0.eq_1
@[simp] theorem e177r1 : type_of% f177r1.eq_1 := by_rfl f177r1.eq_1
theorem e_rock_all_rock_Block_1 : type_of% f_rock_all_rock_Block_1.eq_1 := by_rfl f_rock_all_rock_Block_1.eq_1
theorem ok_rock_all_rock_Block_1 : fnC Tryz.prog a_rock_all_rock_Block_1 Tryz.f177 = some f_rock_all_rock_Block_1 := by kernel_rfl

/-! 178 fumarole/field.all[int]$1 -/
def f178r0 : List Abs.Op := [
  ⟨some 3, none, false, .mv (.c (.bool false))⟩]

def f178r1 : List Abs.Op := [
  ⟨some 4, none, false, .ld false 1 (.t 1)⟩,
  ⟨some 5, none, false, .mv (.t 0)⟩,
  ⟨some 6, none, false, .call false (.t 4) [(.t 5)]⟩,
  ⟨some 7, none, false, .un .not (.t 6)⟩,
  ⟨some 3, none, false, .mv (.t 7)⟩]

def a_field_all_int_1 : Ann := ⟨[(1, [3]), (0, [0, 1])], [], [], [], [], [], [], [], [], [], []⟩
def f_field_all_int_1 : Abs.Fn := ⟨2, [.t 3],
  (.seq (.reg [0, 1] f178r0) (.seq (.reg [3] f178r1) .ret))⟩

@[simp] theorem e178r0 : type_of% f178r0.eq_1 := by_rfl f178r0.eq_1
@[simp] theorem e178r1 : type_of% f178r1.eq_1 := by_rfl f178r1.eq_1
theorem e_field_all_int_1 : type_of% f_field_all_int_1.eq_1 := by_rfl f_field_all_int_1.eq_1
theorem ok_field_all_int_1 : fnC Tryz.prog a_field_all_int_1 Tryz.f178 = some f_field_all_int_1 := by kernel_rfl

/-! 179 slices.IndexFunc[[]fumarole/rock.Block,fumarole/rock.Block] -/
def f179r0 : List Abs.Op := [
  ⟨some 4, none, false, .mv (.c (.int .i64 0))⟩]

def f179r1 : List Abs.Op := [
  ⟨some 6, none, false, .mv (.t 0)⟩,
  ⟨some 7, none, false, .lenS (.t 6)⟩,
  ⟨some 8, none, false, .mv (.c (.int .i64 0))⟩]

def f179r2 : List Abs.Op := [
  ⟨some 9, none, false, .bin .lss (.t 8) (.t 7)⟩]

def f179r3 : List Abs.Op := [
  ⟨some 10, none, false, .mv (.t 8)⟩,
  ⟨some 5, none, false, .mv (.t 10)⟩]

def f179r4 : List Abs.Op := [
  ⟨some 11, none, false, .mv (.t 1)⟩,
  ⟨some 12, none, false, .mv (.t 0)⟩,
  ⟨some 13, none, false, .mv (.t 5)⟩,
  ⟨some 14, none, false, .idxS 3 (.t 12) (.t 13)⟩,
  ⟨some 15, none, false, .ld true 3 (.t 14)⟩,
  ⟨some 16, none, false, .call false (.t 11) [(.t 15)]⟩]

def f179r5 : List Abs.Op := [
  ⟨some 17, none, false, .mv (.t 5)⟩,
  ⟨some 4, none, false, .mv (.t 17)⟩]

def f179r6 : List Abs.Op := [
  ⟨some 18, none, false, .bin .add (.t 8) (.c (.int .i64 1))⟩,
  ⟨some 8, none, false, .mv (.t 18)⟩]

def f_slices_IndexFunc_rock_Block_l7 : Abs.Cmd :=
  (.seq (.reg [0, 1, 7, 8, 9] f179r2) (.seq (.ite (.t 9) .nop (.exit 0)) (.seq (.blk 1 (.seq (.reg [0, 1, 5, 7, 8] f179r3) (.seq (.reg [0, 1, 5, 7, 8, 16] f179r4) (.ite (.t 16) (.seq (.reg [4] f179r5) .ret) .nop)))) (.reg [0, 1, 7, 8] f179r6))))

def f179r8 : List Abs.Op := [
  ⟨some 4, none, false, .mv (.c (.int .i64 (-1)))⟩]

def a_slices_IndexFunc_rock_Block : Ann := ⟨[(7, [4]), (6, [0, 1, 7, 8]), (5, [4]), (4, [0, 1, 5, 7, 8, 16]), (3, [0, 1, 5, 7, 8]), (2, [0, 1, 7, 8, 9]), (1, [0, 1, 7, 8]), (0, [0, 1])], [(0, [0, 1, 7, 8])], [], [], [], [], [], [], [], [], []⟩
def f_slices_IndexFunc_rock_Block : Abs.Fn := ⟨2, [.t 4],
  (.seq (.reg [0, 1] f179r0) (.seq (.seq (.reg [0, 1, 7, 8] f179r1) (.blk 0 (.loop [0, 1, 7, 8] false f_slices_IndexFunc_rock_Block_l7))) (.seq (.reg [4] f179r8) .ret)))⟩

@[simp] theorem e179r0 : type_of% f179r0.eq_1 := by_rfl f179r0.eq_1
@[simp] theorem e179r1 : type_of% f179r1.eq_1 := by_rfl f179r1.eq_1
@[simp] theorem e179r2 : type_of% f179r2.eq_1 := by_rfl f179r2.eq_1
@[simp] theorem e179r3 : type_of% f179r3.eq_1 := by_rfl f179r3.eq_1
@[simp] theorem e179r4 : type_of% f179r4.eq_1 := by_rfl f179r4.eq_1
@[simp] theorem e179r5 : type_of% f179r5.eq_1 := by_rfl f179r5.eq_1
@[simp] theorem e179r6 : type_of% f179r6.eq_1 := by_rfl f179r6.eq_1
@[simp] theorem e179r8 : type_of% f179r8.eq_1 := by_rfl f179r8.eq_1
theorem e_slices_IndexFunc_rock_Block_l7 : type_of% f_slices_IndexFunc_rock_Block_l7.eq_1 := by_rfl f_slices_IndexFunc_rock_Block_l7.eq_1
theorem e_slices_IndexFunc_rock_Block : type_of% f_slices_IndexFunc_rock_Block.eq_1 := by_rfl f_slices_IndexFunc_rock_Block.eq_1
theorem ok_slices_IndexFunc_rock_Block : fnC Tryz.prog a_slices_IndexFunc_rock_Block Tryz.f179 = some f_slices_IndexFunc_rock_Block := by kernel_rfl

end Go.Proofs.YtehandllpmlcoaaGreat
