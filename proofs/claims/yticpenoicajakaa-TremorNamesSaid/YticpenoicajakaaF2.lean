/- The code of functions of the program, in the small instruction set; each is what the translation makes of it. -/
import Derived.Test.YticpenoicajakaaIds
set_option linter.unusedVariables false
set_option maxRecDepth 100000
namespace Go.Proofs.Yticpenoicajakaa
open Go Go.Abs
/-! 105 (fumarole/tremor.Net).steps -/
def f_tremor_Net_steps_r0 : List Abs.Op := [
  ⟨some 3, none, false, .boxi (.t 0)⟩,
  ⟨some 6, none, false, .mv (.c (.int .i64 0))⟩]

def f_tremor_Net_steps_r1 : List Abs.Op := [
  ⟨some 7, none, false, .mv (.t 2)⟩,
  ⟨some 8, none, false, .mv (.t 1)⟩,
  ⟨some 9, none, false, .bin .sub (.t 7) (.t 8)⟩,
  ⟨some 10, none, false, .fadr 11 (.t 3)⟩,
  ⟨some 11, none, false, .ld false 1 (.t 10)⟩,
  ⟨some 12, none, false, .bin .quo (.t 9) (.t 11)⟩,
  ⟨some 13, none, false, .bin .add (.t 12) (.c (.int .i64 1))⟩,
  ⟨some 6, none, false, .mv (.t 13)⟩]

def a_tremor_Net_steps : Ann := ⟨[(1, [6]), (0, [1, 2, 3])], [], [], [], [], [], [], []⟩
def f_tremor_Net_steps : Abs.Fn := ⟨3, [.t 6],
  (.seq (.reg [1, 2, 3] f_tremor_Net_steps_r0) (.seq (.reg [6] f_tremor_Net_steps_r1) .ret))⟩

theorem e_tremor_Net_steps_r0 : type_of% f_tremor_Net_steps_r0.eq_1 := by_rfl f_tremor_Net_steps_r0.eq_1
theorem e_tremor_Net_steps_r1 : type_of% f_tremor_Net_steps_r1.eq_1 := by_rfl f_tremor_Net_steps_r1.eq_1
theorem e_tremor_Net_steps : type_of% f_tremor_Net_steps.eq_1 := by_rfl f_tremor_Net_steps.eq_1
theorem ok_tremor_Net_steps : fnC Try.prog a_tremor_Net_steps Try.f105 = some f_tremor_Net_steps := by kernel_rfl

/-! 106 (fumarole/tremor.Scale).valid$1 -/
def f_tremor_Scale_valid_1_r0 : List Abs.Op := [
  ⟨some 2, none, false, .mv (.c (.bool false))⟩]

def f_tremor_Scale_valid_1_r1 : List Abs.Op := [
  ⟨some 3, none, false, .mv (.t 0)⟩,
  ⟨some 4, none, false, .call false (.c (.fn i_tremor_within [] [])) [(.t 3), (.c (.int .i64 1)), (.c (.int .i64 1000000000))]⟩,
  ⟨some 2, none, false, .mv (.t 4)⟩]

def a_tremor_Scale_valid_1 : Ann := ⟨[(1, [2]), (0, [0])], [], [], [], [], [], [], []⟩
def f_tremor_Scale_valid_1 : Abs.Fn := ⟨1, [.t 2],
  (.seq (.reg [0] f_tremor_Scale_valid_1_r0) (.seq (.reg [2] f_tremor_Scale_valid_1_r1) .ret))⟩

theorem e_tremor_Scale_valid_1_r0 : type_of% f_tremor_Scale_valid_1_r0.eq_1 := by_rfl f_tremor_Scale_valid_1_r0.eq_1
theorem e_tremor_Scale_valid_1_r1 : type_of% f_tremor_Scale_valid_1_r1.eq_1 := by_rfl f_tremor_Scale_valid_1_r1.eq_1
theorem e_tremor_Scale_valid_1 : type_of% f_tremor_Scale_valid_1.eq_1 := by_rfl f_tremor_Scale_valid_1.eq_1
theorem ok_tremor_Scale_valid_1 : fnC Try.prog a_tremor_Scale_valid_1 Try.f106 = some f_tremor_Scale_valid_1 := by kernel_rfl

/-! 107 fumarole/tremor.rising[int] -/
def f_tremor_rising_int_r0 : List Abs.Op := [
  ⟨some 4, none, false, .mv (.c (.bool false))⟩]

def f_tremor_rising_int_r1 : List Abs.Op := [
  ⟨some 6, none, false, .mv (.t 0)⟩,
  ⟨some 7, none, false, .lenS (.t 6)⟩,
  ⟨some 8, none, false, .mv (.c (.int .i64 0))⟩]

def f_tremor_rising_int_r2 : List Abs.Op := [
  ⟨some 9, none, false, .bin .lss (.t 8) (.t 7)⟩]

def f_tremor_rising_int_r3 : List Abs.Op := [
  ⟨some 10, none, false, .mv (.t 8)⟩,
  ⟨some 5, none, false, .mv (.t 10)⟩]

def f_tremor_rising_int_r4 : List Abs.Op := [
  ⟨some 11, none, true, .mv (.t 5)⟩,
  ⟨some 12, none, true, .bin .gtr (.t 11) (.c (.int .i64 0))⟩,
  ⟨some 13, none, true, .mv (.t 12)⟩,
  ⟨some 14, some (13, true), true, .mv (.t 1)⟩,
  ⟨some 15, some (13, true), true, .mv (.t 0)⟩,
  ⟨some 16, some (13, true), true, .mv (.t 5)⟩,
  ⟨some 17, some (13, true), true, .idxS 1 (.t 15) (.t 16)⟩,
  ⟨some 18, some (13, true), true, .ld false 1 (.t 17)⟩,
  ⟨some 19, some (13, true), true, .call false (.t 14) [(.t 18)]⟩,
  ⟨some 20, some (13, true), true, .mv (.t 1)⟩,
  ⟨some 21, some (13, true), true, .mv (.t 0)⟩,
  ⟨some 22, some (13, true), true, .mv (.t 5)⟩,
  ⟨some 23, some (13, true), true, .bin .sub (.t 22) (.c (.int .i64 1))⟩,
  ⟨some 24, some (13, true), true, .idxS 1 (.t 21) (.t 23)⟩,
  ⟨some 25, some (13, true), true, .ld false 1 (.t 24)⟩,
  ⟨some 26, some (13, true), false, .call false (.t 20) [(.t 25)]⟩,
  ⟨some 27, some (13, true), false, .bin .leq (.t 19) (.t 26)⟩,
  ⟨some 28, none, false, .pick (.t 13) (.t 27) (.c (.bool false))⟩]

def f_tremor_rising_int_r5 : List Abs.Op := [
  ⟨some 4, none, false, .mv (.c (.bool false))⟩]

def f_tremor_rising_int_r6 : List Abs.Op := [
  ⟨some 29, none, false, .bin .add (.t 8) (.c (.int .i64 1))⟩,
  ⟨some 8, none, false, .mv (.t 29)⟩]

def f_tremor_rising_int_l7 : Abs.Cmd :=
  (.seq (.reg [0, 1, 7, 8, 9] f_tremor_rising_int_r2) (.seq (.ite (.t 9) .nop (.exit 0)) (.seq (.blk 1 (.seq (.reg [0, 1, 5, 7, 8] f_tremor_rising_int_r3) (.seq (.reg [0, 1, 7, 8, 28] f_tremor_rising_int_r4) (.ite (.t 28) (.seq (.reg [4] f_tremor_rising_int_r5) .ret) .nop)))) (.reg [0, 1, 7, 8] f_tremor_rising_int_r6))))

def f_tremor_rising_int_r8 : List Abs.Op := [
  ⟨some 4, none, false, .mv (.c (.bool true))⟩]

def a_tremor_rising_int : Ann := ⟨[(7, [4]), (6, [0, 1, 7, 8]), (5, [4]), (4, [0, 1, 7, 8, 28]), (3, [0, 1, 5, 7, 8]), (2, [0, 1, 7, 8, 9]), (1, [0, 1, 7, 8]), (0, [0, 1])], [(0, [0, 1, 7, 8])], [], [], [], [], [], []⟩
def f_tremor_rising_int : Abs.Fn := ⟨2, [.t 4],
  (.seq (.reg [0, 1] f_tremor_rising_int_r0) (.seq (.seq (.reg [0, 1, 7, 8] f_tremor_rising_int_r1) (.blk 0 (.loop [0, 1, 7, 8] false f_tremor_rising_int_l7))) (.seq (.reg [4] f_tremor_rising_int_r8) .ret)))⟩

theorem e_tremor_rising_int_r0 : type_of% f_tremor_rising_int_r0.eq_1 := by_rfl f_tremor_rising_int_r0.eq_1
theorem e_tremor_rising_int_r1 : type_of% f_tremor_rising_int_r1.eq_1 := by_rfl f_tremor_rising_int_r1.eq_1
theorem e_tremor_rising_int_r2 : type_of% f_tremor_rising_int_r2.eq_1 := by_rfl f_tremor_rising_int_r2.eq_1
theorem e_tremor_rising_int_r3 : type_of% f_tremor_rising_int_r3.eq_1 := by_rfl f_tremor_rising_int_r3.eq_1
theorem e_tremor_rising_int_r4 : type_of% f_tremor_rising_int_r4.eq_1 := by_rfl f_tremor_rising_int_r4.eq_1
theorem e_tremor_rising_int_r5 : type_of% f_tremor_rising_int_r5.eq_1 := by_rfl f_tremor_rising_int_r5.eq_1
theorem e_tremor_rising_int_r6 : type_of% f_tremor_rising_int_r6.eq_1 := by_rfl f_tremor_rising_int_r6.eq_1
theorem e_tremor_rising_int_l7 : type_of% f_tremor_rising_int_l7.eq_1 := by_rfl f_tremor_rising_int_l7.eq_1
theorem e_tremor_rising_int_r8 : type_of% f_tremor_rising_int_r8.eq_1 := by_rfl f_tremor_rising_int_r8.eq_1
theorem e_tremor_rising_int : type_of% f_tremor_rising_int.eq_1 := by_rfl f_tremor_rising_int.eq_1
theorem ok_tremor_rising_int : fnC Try.prog a_tremor_rising_int Try.f107 = some f_tremor_rising_int := by kernel_rfl

/-! 108 (fumarole/tremor.Scale).valid$2 -/
def f_tremor_Scale_valid_2_r0 : List Abs.Op := [
  ⟨some 2, none, false, .mv (.c (.int .i64 0))⟩]

def f_tremor_Scale_valid_2_r1 : List Abs.Op := [
  ⟨some 3, none, false, .mv (.t 0)⟩,
  ⟨some 2, none, false, .mv (.t 3)⟩]

def a_tremor_Scale_valid_2 : Ann := ⟨[(1, [2]), (0, [0])], [], [], [], [], [], [], []⟩
def f_tremor_Scale_valid_2 : Abs.Fn := ⟨1, [.t 2],
  (.seq (.reg [0] f_tremor_Scale_valid_2_r0) (.seq (.reg [2] f_tremor_Scale_valid_2_r1) .ret))⟩

theorem e_tremor_Scale_valid_2_r0 : type_of% f_tremor_Scale_valid_2_r0.eq_1 := by_rfl f_tremor_Scale_valid_2_r0.eq_1
theorem e_tremor_Scale_valid_2_r1 : type_of% f_tremor_Scale_valid_2_r1.eq_1 := by_rfl f_tremor_Scale_valid_2_r1.eq_1
theorem e_tremor_Scale_valid_2 : type_of% f_tremor_Scale_valid_2.eq_1 := by_rfl f_tremor_Scale_valid_2.eq_1
theorem ok_tremor_Scale_valid_2 : fnC Try.prog a_tremor_Scale_valid_2 Try.f108 = some f_tremor_Scale_valid_2 := by kernel_rfl

/-! 109 fumarole/tremor.all[fumarole/tremor.Row] -/
def f_tremor_all_tremor_Row_r0 : List Abs.Op := [
  ⟨some 3, none, false, .boxi (.t 1)⟩,
  ⟨some 4, none, false, .mv (.c (.bool false))⟩]

def f_tremor_all_tremor_Row_r1 : List Abs.Op := [
  ⟨some 5, none, false, .mv (.t 0)⟩,
  ⟨some 6, none, false, .mkf i_tremor_all_tremor_Row_1 [] [(.t 3)]⟩,
  ⟨some 7, none, false, .call false (.c (.fn i_slices_ContainsFunc_tremor_Row [] [])) [(.t 5), (.t 6)]⟩,
  ⟨some 8, none, false, .un .not (.t 7)⟩,
  ⟨some 4, none, false, .mv (.t 8)⟩]

def a_tremor_all_tremor_Row : Ann := ⟨[(1, [4]), (0, [0, 3])], [], [], [], [], [], [], []⟩
def f_tremor_all_tremor_Row : Abs.Fn := ⟨2, [.t 4],
  (.seq (.reg [0, 3] f_tremor_all_tremor_Row_r0) (.seq (.reg [4] f_tremor_all_tremor_Row_r1) .ret))⟩

theorem e_tremor_all_tremor_Row_r0 : type_of% f_tremor_all_tremor_Row_r0.eq_1 := by_rfl f_tremor_all_tremor_Row_r0.eq_1
theorem e_tremor_all_tremor_Row_r1 : type_of% f_tremor_all_tremor_Row_r1.eq_1 := by_rfl f_tremor_all_tremor_Row_r1.eq_1
theorem e_tremor_all_tremor_Row : type_of% f_tremor_all_tremor_Row.eq_1 := by_rfl f_tremor_all_tremor_Row.eq_1
theorem ok_tremor_all_tremor_Row : fnC Try.prog a_tremor_all_tremor_Row Try.f109 = some f_tremor_all_tremor_Row := by kernel_rfl

/-! 110 (fumarole/tremor.Scale).valid$3 -/
def f_tremor_Scale_valid_3_r0 : List Abs.Op := [
  ⟨some 1, none, false, .boxi (.t 0)⟩,
  ⟨some 2, none, false, .mv (.c (.bool false))⟩]

def f_tremor_Scale_valid_3_r1 : List Abs.Op := [
  ⟨some 3, none, false, .fadr 0 (.t 1)⟩,
  ⟨some 4, none, false, .ld false 1 (.t 3)⟩,
  ⟨some 5, none, false, .call false (.c (.fn i_tremor_within [] [])) [(.t 4), (.c (.int .i64 0)), (.c (.int .i64 20000))]⟩,
  ⟨some 6, none, false, .mv (.t 5)⟩,
  ⟨some 7, some (6, true), false, .fadr 1 (.t 1)⟩,
  ⟨some 8, some (6, true), false, .ld false 1 (.t 7)⟩,
  ⟨some 9, some (6, true), false, .call false (.c (.fn i_tremor_within [] [])) [(.t 8), (.c (.int .i64 0)), (.c (.int .i64 100))]⟩,
  ⟨some 10, none, false, .pick (.t 6) (.t 9) (.c (.bool false))⟩,
  ⟨some 2, none, false, .mv (.t 10)⟩]

def a_tremor_Scale_valid_3 : Ann := ⟨[(1, [2]), (0, [1])], [], [], [], [], [], [], []⟩
def f_tremor_Scale_valid_3 : Abs.Fn := ⟨1, [.t 2],
  (.seq (.reg [1] f_tremor_Scale_valid_3_r0) (.seq (.reg [2] f_tremor_Scale_valid_3_r1) .ret))⟩

theorem e_tremor_Scale_valid_3_r0 : type_of% f_tremor_Scale_valid_3_r0.eq_1 := by_rfl f_tremor_Scale_valid_3_r0.eq_1
theorem e_tremor_Scale_valid_3_r1 : type_of% f_tremor_Scale_valid_3_r1.eq_1 := by_rfl f_tremor_Scale_valid_3_r1.eq_1
theorem e_tremor_Scale_valid_3 : type_of% f_tremor_Scale_valid_3.eq_1 := by_rfl f_tremor_Scale_valid_3.eq_1
theorem ok_tremor_Scale_valid_3 : fnC Try.prog a_tremor_Scale_valid_3 Try.f110 = some f_tremor_Scale_valid_3 := by kernel_rfl

/-! 111 fumarole/tremor.rising[fumarole/tremor.Row] -/
def f_tremor_rising_tremor_Row_r0 : List Abs.Op := [
  ⟨some 4, none, false, .mv (.c (.bool false))⟩]

def f_tremor_rising_tremor_Row_r1 : List Abs.Op := [
  ⟨some 6, none, false, .mv (.t 0)⟩,
  ⟨some 7, none, false, .lenS (.t 6)⟩,
  ⟨some 8, none, false, .mv (.c (.int .i64 0))⟩]

def f_tremor_rising_tremor_Row_r2 : List Abs.Op := [
  ⟨some 9, none, false, .bin .lss (.t 8) (.t 7)⟩]

def f_tremor_rising_tremor_Row_r3 : List Abs.Op := [
  ⟨some 10, none, false, .mv (.t 8)⟩,
  ⟨some 5, none, false, .mv (.t 10)⟩]

def f_tremor_rising_tremor_Row_r4 : List Abs.Op := [
  ⟨some 11, none, true, .mv (.t 5)⟩,
  ⟨some 12, none, true, .bin .gtr (.t 11) (.c (.int .i64 0))⟩,
  ⟨some 13, none, true, .mv (.t 12)⟩,
  ⟨some 14, some (13, true), true, .mv (.t 1)⟩,
  ⟨some 15, some (13, true), true, .mv (.t 0)⟩,
  ⟨some 16, some (13, true), true, .mv (.t 5)⟩,
  ⟨some 17, some (13, true), true, .idxS 2 (.t 15) (.t 16)⟩,
  ⟨some 18, some (13, true), true, .ld true 2 (.t 17)⟩,
  ⟨some 19, some (13, true), true, .call false (.t 14) [(.t 18)]⟩,
  ⟨some 20, some (13, true), true, .mv (.t 1)⟩,
  ⟨some 21, some (13, true), true, .mv (.t 0)⟩,
  ⟨some 22, some (13, true), true, .mv (.t 5)⟩,
  ⟨some 23, some (13, true), true, .bin .sub (.t 22) (.c (.int .i64 1))⟩,
  ⟨some 24, some (13, true), true, .idxS 2 (.t 21) (.t 23)⟩,
  ⟨some 25, some (13, true), true, .ld true 2 (.t 24)⟩,
  ⟨some 26, some (13, true), false, .call false (.t 20) [(.t 25)]⟩,
  ⟨some 27, some (13, true), false, .bin .leq (.t 19) (.t 26)⟩,
  ⟨some 28, none, false, .pick (.t 13) (.t 27) (.c (.bool false))⟩]

def f_tremor_rising_tremor_Row_r5 : List Abs.Op := [
  ⟨some 4, none, false, .mv (.c (.bool false))⟩]

def f_tremor_rising_tremor_Row_r6 : List Abs.Op := [
  ⟨some 29, none, false, .bin .add (.t 8) (.c (.int .i64 1))⟩,
  ⟨some 8, none, false, .mv (.t 29)⟩]

def f_tremor_rising_tremor_Row_l7 : Abs.Cmd :=
  (.seq (.reg [0, 1, 7, 8, 9] f_tremor_rising_tremor_Row_r2) (.seq (.ite (.t 9) .nop (.exit 0)) (.seq (.blk 1 (.seq (.reg [0, 1, 5, 7, 8] f_tremor_rising_tremor_Row_r3) (.seq (.reg [0, 1, 7, 8, 28] f_tremor_rising_tremor_Row_r4) (.ite (.t 28) (.seq (.reg [4] f_tremor_rising_tremor_Row_r5) .ret) .nop)))) (.reg [0, 1, 7, 8] f_tremor_rising_tremor_Row_r6))))

def f_tremor_rising_tremor_Row_r8 : List Abs.Op := [
  ⟨some 4, none, false, .mv (.c (.bool true))⟩]

def a_tremor_rising_tremor_Row : Ann := ⟨[(7, [4]), (6, [0, 1, 7, 8]), (5, [4]), (4, [0, 1, 7, 8, 28]), (3, [0, 1, 5, 7, 8]), (2, [0, 1, 7, 8, 9]), (1, [0, 1, 7, 8]), (0, [0, 1])], [(0, [0, 1, 7, 8])], [], [], [], [], [], []⟩
def f_tremor_rising_tremor_Row : Abs.Fn := ⟨2, [.t 4],
  (.seq (.reg [0, 1] f_tremor_rising_tremor_Row_r0) (.seq (.seq (.reg [0, 1, 7, 8] f_tremor_rising_tremor_Row_r1) (.blk 0 (.loop [0, 1, 7, 8] false f_tremor_rising_tremor_Row_l7))) (.seq (.reg [4] f_tremor_rising_tremor_Row_r8) .ret)))⟩

theorem e_tremor_rising_tremor_Row_r0 : type_of% f_tremor_rising_tremor_Row_r0.eq_1 := by_rfl f_tremor_rising_tremor_Row_r0.eq_1
theorem e_tremor_rising_tremor_Row_r1 : type_of% f_tremor_rising_tremor_Row_r1.eq_1 := by_rfl f_tremor_rising_tremor_Row_r1.eq_1
theorem e_tremor_rising_tremor_Row_r2 : type_of% f_tremor_rising_tremor_Row_r2.eq_1 := by_rfl f_tremor_rising_tremor_Row_r2.eq_1
theorem e_tremor_rising_tremor_Row_r3 : type_of% f_tremor_rising_tremor_Row_r3.eq_1 := by_rfl f_tremor_rising_tremor_Row_r3.eq_1
theorem e_tremor_rising_tremor_Row_r4 : type_of% f_tremor_rising_tremor_Row_r4.eq_1 := by_rfl f_tremor_rising_tremor_Row_r4.eq_1
theorem e_tremor_rising_tremor_Row_r5 : type_of% f_tremor_rising_tremor_Row_r5.eq_1 := by_rfl f_tremor_rising_tremor_Row_r5.eq_1
theorem e_tremor_rising_tremor_Row_r6 : type_of% f_tremor_rising_tremor_Row_r6.eq_1 := by_rfl f_tremor_rising_tremor_Row_r6.eq_1
theorem e_tremor_rising_tremor_Row_l7 : type_of% f_tremor_rising_tremor_Row_l7.eq_1 := by_rfl f_tremor_rising_tremor_Row_l7.eq_1
theorem e_tremor_rising_tremor_Row_r8 : type_of% f_tremor_rising_tremor_Row_r8.eq_1 := by_rfl f_tremor_rising_tremor_Row_r8.eq_1
theorem e_tremor_rising_tremor_Row : type_of% f_tremor_rising_tremor_Row.eq_1 := by_rfl f_tremor_rising_tremor_Row.eq_1
theorem ok_tremor_rising_tremor_Row : fnC Try.prog a_tremor_rising_tremor_Row Try.f111 = some f_tremor_rising_tremor_Row := by kernel_rfl

/-! 112 (fumarole/tremor.Scale).valid$4 -/
def f_tremor_Scale_valid_4_r0 : List Abs.Op := [
  ⟨some 1, none, false, .boxi (.t 0)⟩,
  ⟨some 2, none, false, .mv (.c (.int .i64 0))⟩]

def f_tremor_Scale_valid_4_r1 : List Abs.Op := [
  ⟨some 3, none, false, .fadr 0 (.t 1)⟩,
  ⟨some 4, none, false, .ld false 1 (.t 3)⟩,
  ⟨some 2, none, false, .mv (.t 4)⟩]

def a_tremor_Scale_valid_4 : Ann := ⟨[(1, [2]), (0, [1])], [], [], [], [], [], [], []⟩
def f_tremor_Scale_valid_4 : Abs.Fn := ⟨1, [.t 2],
  (.seq (.reg [1] f_tremor_Scale_valid_4_r0) (.seq (.reg [2] f_tremor_Scale_valid_4_r1) .ret))⟩

theorem e_tremor_Scale_valid_4_r0 : type_of% f_tremor_Scale_valid_4_r0.eq_1 := by_rfl f_tremor_Scale_valid_4_r0.eq_1
theorem e_tremor_Scale_valid_4_r1 : type_of% f_tremor_Scale_valid_4_r1.eq_1 := by_rfl f_tremor_Scale_valid_4_r1.eq_1
theorem e_tremor_Scale_valid_4 : type_of% f_tremor_Scale_valid_4.eq_1 := by_rfl f_tremor_Scale_valid_4.eq_1
theorem ok_tremor_Scale_valid_4 : fnC Try.prog a_tremor_Scale_valid_4 Try.f112 = some f_tremor_Scale_valid_4 := by kernel_rfl

/-! 113 (fumarole/tremor.Point).valid$1 -/
def f_tremor_Point_valid_1_r0 : List Abs.Op := [
  ⟨some 2, none, false, .mv (.c (.bool false))⟩]

def f_tremor_Point_valid_1_r1 : List Abs.Op := [
  ⟨some 3, none, false, .mv (.t 0)⟩,
  ⟨some 4, none, false, .call false (.c (.fn i_tremor_within [] [])) [(.t 3), (.c (.int .i64 (-20000))), (.c (.int .i64 20000))]⟩,
  ⟨some 2, none, false, .mv (.t 4)⟩]

def a_tremor_Point_valid_1 : Ann := ⟨[(1, [2]), (0, [0])], [], [], [], [], [], [], []⟩
def f_tremor_Point_valid_1 : Abs.Fn := ⟨1, [.t 2],
  (.seq (.reg [0] f_tremor_Point_valid_1_r0) (.seq (.reg [2] f_tremor_Point_valid_1_r1) .ret))⟩

theorem e_tremor_Point_valid_1_r0 : type_of% f_tremor_Point_valid_1_r0.eq_1 := by_rfl f_tremor_Point_valid_1_r0.eq_1
theorem e_tremor_Point_valid_1_r1 : type_of% f_tremor_Point_valid_1_r1.eq_1 := by_rfl f_tremor_Point_valid_1_r1.eq_1
theorem e_tremor_Point_valid_1 : type_of% f_tremor_Point_valid_1.eq_1 := by_rfl f_tremor_Point_valid_1.eq_1
theorem ok_tremor_Point_valid_1 : fnC Try.prog a_tremor_Point_valid_1 Try.f113 = some f_tremor_Point_valid_1 := by kernel_rfl

/-! 114 slices.ContainsFunc[[]fumarole/tremor.Reading,fumarole/tremor.Reading] -/
def f_slices_ContainsFunc_tremor_Reading_r0 : List Abs.Op := [
  ⟨some 4, none, false, .mv (.c (.bool false))⟩]

def f_slices_ContainsFunc_tremor_Reading_r1 : List Abs.Op := [
  ⟨some 5, none, false, .mv (.t 0)⟩,
  ⟨some 6, none, false, .mv (.t 1)⟩,
  ⟨some 7, none, false, .call false (.c (.fn i_slices_IndexFunc_tremor_Reading [] [])) [(.t 5), (.t 6)]⟩,
  ⟨some 8, none, false, .bin .geq (.t 7) (.c (.int .i64 0))⟩,
  ⟨some 4, none, false, .mv (.t 8)⟩]

def a_slices_ContainsFunc_tremor_Reading : Ann := ⟨[(1, [4]), (0, [0, 1])], [], [], [], [], [], [], []⟩
def f_slices_ContainsFunc_tremor_Reading : Abs.Fn := ⟨2, [.t 4],
  (.seq (.reg [0, 1] f_slices_ContainsFunc_tremor_Reading_r0) (.seq (.reg [4] f_slices_ContainsFunc_tremor_Reading_r1) .ret))⟩

theorem e_slices_ContainsFunc_tremor_Reading_r0 : type_of% f_slices_ContainsFunc_tremor_Reading_r0.eq_1 := by_rfl f_slices_ContainsFunc_tremor_Reading_r0.eq_1
theorem e_slices_ContainsFunc_tremor_Reading_r1 : type_of% f_slices_ContainsFunc_tremor_Reading_r1.eq_1 := by_rfl f_slices_ContainsFunc_tremor_Reading_r1.eq_1
theorem e_slices_ContainsFunc_tremor_Reading : type_of% f_slices_ContainsFunc_tremor_Reading.eq_1 := by_rfl f_slices_ContainsFunc_tremor_Reading.eq_1
theorem ok_slices_ContainsFunc_tremor_Reading : fnC Try.prog a_slices_ContainsFunc_tremor_Reading Try.f114 = some f_slices_ContainsFunc_tremor_Reading := by kernel_rfl

/-! 115 fumarole/tremor.all[fumarole/tremor.Reading]$1 -/
def f_tremor_all_tremor_Reading_1_r0 : List Abs.Op := [
  ⟨some 2, none, false, .boxi (.t 0)⟩,
  ⟨some 3, none, false, .mv (.c (.bool false))⟩]

def f_tremor_all_tremor_Reading_1_r1 : List Abs.Op := [
  ⟨some 4, none, false, .ld false 1 (.t 1)⟩,
  ⟨some 5, none, false, .ld true 2 (.t 2)⟩,
  ⟨some 6, none, false, .call false (.t 4) [(.t 5)]⟩,
  ⟨some 7, none, false, .un .not (.t 6)⟩,
  ⟨some 3, none, false, .mv (.t 7)⟩]

def a_tremor_all_tremor_Reading_1 : Ann := ⟨[(1, [3]), (0, [1, 2])], [], [], [], [], [], [], []⟩
def f_tremor_all_tremor_Reading_1 : Abs.Fn := ⟨2, [.t 3],
  (.seq (.reg [1, 2] f_tremor_all_tremor_Reading_1_r0) (.seq (.reg [3] f_tremor_all_tremor_Reading_1_r1) .ret))⟩

theorem e_tremor_all_tremor_Reading_1_r0 : type_of% f_tremor_all_tremor_Reading_1_r0.eq_1 := by_rfl f_tremor_all_tremor_Reading_1_r0.eq_1
theorem e_tremor_all_tremor_Reading_1_r1 : type_of% f_tremor_all_tremor_Reading_1_r1.eq_1 := by_rfl f_tremor_all_tremor_Reading_1_r1.eq_1
theorem e_tremor_all_tremor_Reading_1 : type_of% f_tremor_all_tremor_Reading_1.eq_1 := by_rfl f_tremor_all_tremor_Reading_1.eq_1
theorem ok_tremor_all_tremor_Reading_1 : fnC Try.prog a_tremor_all_tremor_Reading_1 Try.f115 = some f_tremor_all_tremor_Reading_1 := by kernel_rfl

/-! 116 slices.ContainsFunc[[]int,int] -/
def f_slices_ContainsFunc_int_r0 : List Abs.Op := [
  ⟨some 4, none, false, .mv (.c (.bool false))⟩]

def f_slices_ContainsFunc_int_r1 : List Abs.Op := [
  ⟨some 5, none, false, .mv (.t 0)⟩,
  ⟨some 6, none, false, .mv (.t 1)⟩,
  ⟨some 7, none, false, .call false (.c (.fn i_slices_IndexFunc_int [] [])) [(.t 5), (.t 6)]⟩,
  ⟨some 8, none, false, .bin .geq (.t 7) (.c (.int .i64 0))⟩,
  ⟨some 4, none, false, .mv (.t 8)⟩]

def a_slices_ContainsFunc_int : Ann := ⟨[(1, [4]), (0, [0, 1])], [], [], [], [], [], [], []⟩
def f_slices_ContainsFunc_int : Abs.Fn := ⟨2, [.t 4],
  (.seq (.reg [0, 1] f_slices_ContainsFunc_int_r0) (.seq (.reg [4] f_slices_ContainsFunc_int_r1) .ret))⟩

theorem e_slices_ContainsFunc_int_r0 : type_of% f_slices_ContainsFunc_int_r0.eq_1 := by_rfl f_slices_ContainsFunc_int_r0.eq_1
theorem e_slices_ContainsFunc_int_r1 : type_of% f_slices_ContainsFunc_int_r1.eq_1 := by_rfl f_slices_ContainsFunc_int_r1.eq_1
theorem e_slices_ContainsFunc_int : type_of% f_slices_ContainsFunc_int.eq_1 := by_rfl f_slices_ContainsFunc_int.eq_1
theorem ok_slices_ContainsFunc_int : fnC Try.prog a_slices_ContainsFunc_int Try.f116 = some f_slices_ContainsFunc_int := by kernel_rfl

/-! 117 fumarole/tremor.all[int]$1 -/
def f_tremor_all_int_1_r0 : List Abs.Op := [
  ⟨some 3, none, false, .mv (.c (.bool false))⟩]

def f_tremor_all_int_1_r1 : List Abs.Op := [
  ⟨some 4, none, false, .ld false 1 (.t 1)⟩,
  ⟨some 5, none, false, .mv (.t 0)⟩,
  ⟨some 6, none, false, .call false (.t 4) [(.t 5)]⟩,
  ⟨some 7, none, false, .un .not (.t 6)⟩,
  ⟨some 3, none, false, .mv (.t 7)⟩]

def a_tremor_all_int_1 : Ann := ⟨[(1, [3]), (0, [0, 1])], [], [], [], [], [], [], []⟩
def f_tremor_all_int_1 : Abs.Fn := ⟨2, [.t 3],
  (.seq (.reg [0, 1] f_tremor_all_int_1_r0) (.seq (.reg [3] f_tremor_all_int_1_r1) .ret))⟩

theorem e_tremor_all_int_1_r0 : type_of% f_tremor_all_int_1_r0.eq_1 := by_rfl f_tremor_all_int_1_r0.eq_1
theorem e_tremor_all_int_1_r1 : type_of% f_tremor_all_int_1_r1.eq_1 := by_rfl f_tremor_all_int_1_r1.eq_1
theorem e_tremor_all_int_1 : type_of% f_tremor_all_int_1.eq_1 := by_rfl f_tremor_all_int_1.eq_1
theorem ok_tremor_all_int_1 : fnC Try.prog a_tremor_all_int_1 Try.f117 = some f_tremor_all_int_1 := by kernel_rfl

/-! 118 slices.ContainsFunc[[]uint8,uint8] -/
def f_slices_ContainsFunc_uint8_r0 : List Abs.Op := [
  ⟨some 4, none, false, .mv (.c (.bool false))⟩]

def f_slices_ContainsFunc_uint8_r1 : List Abs.Op := [
  ⟨some 5, none, false, .mv (.t 0)⟩,
  ⟨some 6, none, false, .mv (.t 1)⟩,
  ⟨some 7, none, false, .call false (.c (.fn i_slices_IndexFunc_uint8 [] [])) [(.t 5), (.t 6)]⟩,
  ⟨some 8, none, false, .bin .geq (.t 7) (.c (.int .i64 0))⟩,
  ⟨some 4, none, false, .mv (.t 8)⟩]

def a_slices_ContainsFunc_uint8 : Ann := ⟨[(1, [4]), (0, [0, 1])], [], [], [], [], [], [], []⟩
def f_slices_ContainsFunc_uint8 : Abs.Fn := ⟨2, [.t 4],
  (.seq (.reg [0, 1] f_slices_ContainsFunc_uint8_r0) (.seq (.reg [4] f_slices_ContainsFunc_uint8_r1) .ret))⟩

theorem e_slices_ContainsFunc_uint8_r0 : type_of% f_slices_ContainsFunc_uint8_r0.eq_1 := by_rfl f_slices_ContainsFunc_uint8_r0.eq_1
theorem e_slices_ContainsFunc_uint8_r1 : type_of% f_slices_ContainsFunc_uint8_r1.eq_1 := by_rfl f_slices_ContainsFunc_uint8_r1.eq_1
theorem e_slices_ContainsFunc_uint8 : type_of% f_slices_ContainsFunc_uint8.eq_1 := by_rfl f_slices_ContainsFunc_uint8.eq_1
theorem ok_slices_ContainsFunc_uint8 : fnC Try.prog a_slices_ContainsFunc_uint8 Try.f118 = some f_slices_ContainsFunc_uint8 := by kernel_rfl

/-! 119 fumarole/tremor.all[uint8]$1 -/
def f_tremor_all_uint8_1_r0 : List Abs.Op := [
  ⟨some 3, none, false, .mv (.c (.bool false))⟩]

def f_tremor_all_uint8_1_r1 : List Abs.Op := [
  ⟨some 4, none, false, .ld false 1 (.t 1)⟩,
  ⟨some 5, none, false, .mv (.t 0)⟩,
  ⟨some 6, none, false, .call false (.t 4) [(.t 5)]⟩,
  ⟨some 7, none, false, .un .not (.t 6)⟩,
  ⟨some 3, none, false, .mv (.t 7)⟩]

def a_tremor_all_uint8_1 : Ann := ⟨[(1, [3]), (0, [0, 1])], [], [], [], [], [], [], []⟩
def f_tremor_all_uint8_1 : Abs.Fn := ⟨2, [.t 3],
  (.seq (.reg [0, 1] f_tremor_all_uint8_1_r0) (.seq (.reg [3] f_tremor_all_uint8_1_r1) .ret))⟩

theorem e_tremor_all_uint8_1_r0 : type_of% f_tremor_all_uint8_1_r0.eq_1 := by_rfl f_tremor_all_uint8_1_r0.eq_1
theorem e_tremor_all_uint8_1_r1 : type_of% f_tremor_all_uint8_1_r1.eq_1 := by_rfl f_tremor_all_uint8_1_r1.eq_1
theorem e_tremor_all_uint8_1 : type_of% f_tremor_all_uint8_1.eq_1 := by_rfl f_tremor_all_uint8_1.eq_1
theorem ok_tremor_all_uint8_1 : fnC Try.prog a_tremor_all_uint8_1 Try.f119 = some f_tremor_all_uint8_1 := by kernel_rfl

/-! 120 (fumarole/tremor.Bet).going$1 -/
def f_tremor_Bet_going_1_r0 : List Abs.Op := [
  ⟨some 4, none, false, .mv (.c (.int .i64 0))⟩]

def f_tremor_Bet_going_1_r1 : List Abs.Op := [
  ⟨some 5, none, false, .mv (.t 0)⟩]

def f_tremor_Bet_going_1_r2 : List Abs.Op := [
  ⟨some 6, none, false, .ld false 1 (.t 1)⟩,
  ⟨some 7, none, false, .fadr 3 (.t 2)⟩,
  ⟨some 8, none, false, .ld false 1 (.t 7)⟩,
  ⟨some 9, none, false, .fadr 0 (.t 2)⟩,
  ⟨some 10, none, false, .ld false 1 (.t 9)⟩,
  ⟨some 11, none, false, .bin .mul (.t 8) (.t 10)⟩,
  ⟨some 12, none, false, .fadr 2 (.t 2)⟩,
  ⟨some 13, none, false, .ld false 1 (.t 12)⟩,
  ⟨some 14, none, false, .fadr 1 (.t 2)⟩,
  ⟨some 15, none, false, .ld false 1 (.t 14)⟩,
  ⟨some 16, none, false, .fadr 0 (.t 2)⟩,
  ⟨some 17, none, false, .ld false 1 (.t 16)⟩,
  ⟨some 18, none, false, .bin .sub (.t 15) (.t 17)⟩,
  ⟨some 19, none, false, .bin .mul (.t 13) (.t 18)⟩,
  ⟨some 20, none, false, .bin .add (.t 11) (.t 19)⟩,
  ⟨some 21, none, false, .bin .mul (.t 6) (.t 20)⟩,
  ⟨some 22, none, false, .fadr 3 (.t 2)⟩,
  ⟨some 23, none, false, .ld false 1 (.t 22)⟩,
  ⟨some 24, none, false, .fadr 0 (.t 2)⟩,
  ⟨some 25, none, false, .ld false 1 (.t 24)⟩,
  ⟨some 26, none, false, .bin .mul (.t 23) (.t 25)⟩,
  ⟨some 27, none, false, .bin .quo (.t 21) (.t 26)⟩,
  ⟨none, none, false, .st [] 1 (.t 1) (.t 27)⟩]

def f_tremor_Bet_going_1_r3 : List Abs.Op := [
  ⟨some 28, none, false, .ld false 1 (.t 1)⟩,
  ⟨some 29, none, false, .fadr 3 (.t 2)⟩,
  ⟨some 30, none, false, .ld false 1 (.t 29)⟩,
  ⟨some 31, none, false, .fadr 2 (.t 2)⟩,
  ⟨some 32, none, false, .ld false 1 (.t 31)⟩,
  ⟨some 33, none, false, .bin .sub (.t 30) (.t 32)⟩,
  ⟨some 34, none, false, .bin .mul (.t 28) (.t 33)⟩,
  ⟨some 35, none, false, .fadr 3 (.t 2)⟩,
  ⟨some 36, none, false, .ld false 1 (.t 35)⟩,
  ⟨some 37, none, false, .bin .quo (.t 34) (.t 36)⟩,
  ⟨none, none, false, .st [] 1 (.t 1) (.t 37)⟩]

def f_tremor_Bet_going_1_r4 : List Abs.Op := [
  ⟨some 38, none, false, .ld false 1 (.t 1)⟩,
  ⟨some 39, none, false, .mn (.t 38) (.c (.int .i64 1000000000000))⟩,
  ⟨none, none, false, .st [] 1 (.t 1) (.t 39)⟩]

def f_tremor_Bet_going_1_r5 : List Abs.Op := [
  ⟨some 40, none, false, .ld false 1 (.t 1)⟩,
  ⟨some 4, none, false, .mv (.t 40)⟩]

def a_tremor_Bet_going_1 : Ann := ⟨[(5, [4]), (4, [1]), (2, [1]), (3, [1]), (1, [1, 2, 5]), (0, [0, 1, 2])], [], [], [1], [], [], [], []⟩
def f_tremor_Bet_going_1 : Abs.Fn := ⟨3, [.t 4],
  (.seq (.reg [0, 1, 2] f_tremor_Bet_going_1_r0) (.seq (.seq (.reg [1, 2, 5] f_tremor_Bet_going_1_r1) (.ite (.t 5) (.reg [1] f_tremor_Bet_going_1_r2) (.reg [1] f_tremor_Bet_going_1_r3))) (.seq (.reg [1] f_tremor_Bet_going_1_r4) (.seq (.reg [4] f_tremor_Bet_going_1_r5) .ret))))⟩

theorem e_tremor_Bet_going_1_r0 : type_of% f_tremor_Bet_going_1_r0.eq_1 := by_rfl f_tremor_Bet_going_1_r0.eq_1
theorem e_tremor_Bet_going_1_r1 : type_of% f_tremor_Bet_going_1_r1.eq_1 := by_rfl f_tremor_Bet_going_1_r1.eq_1
theorem e_tremor_Bet_going_1_r2 : type_of% f_tremor_Bet_going_1_r2.eq_1 := by_rfl f_tremor_Bet_going_1_r2.eq_1
theorem e_tremor_Bet_going_1_r3 : type_of% f_tremor_Bet_going_1_r3.eq_1 := by_rfl f_tremor_Bet_going_1_r3.eq_1
theorem e_tremor_Bet_going_1_r4 : type_of% f_tremor_Bet_going_1_r4.eq_1 := by_rfl f_tremor_Bet_going_1_r4.eq_1
theorem e_tremor_Bet_going_1_r5 : type_of% f_tremor_Bet_going_1_r5.eq_1 := by_rfl f_tremor_Bet_going_1_r5.eq_1
theorem e_tremor_Bet_going_1 : type_of% f_tremor_Bet_going_1.eq_1 := by_rfl f_tremor_Bet_going_1.eq_1
theorem ok_tremor_Bet_going_1 : fnC Try.prog a_tremor_Bet_going_1 Try.f120 = some f_tremor_Bet_going_1 := by kernel_rfl

/-! 121 (fumarole/tremor.Net).lattice$1 -/
def f_tremor_Net_lattice_1_r0 : List Abs.Op := [
  ⟨some 6, none, false, .fadr 5 (.t 1)⟩,
  ⟨some 7, none, false, .fadr 0 (.t 6)⟩,
  ⟨some 8, none, false, .ld false 1 (.t 7)⟩,
  ⟨some 3, none, false, .mv (.t 8)⟩]

def f_tremor_Net_lattice_1_r1 : List Abs.Op := [
  ⟨some 9, none, false, .mv (.t 3)⟩,
  ⟨some 10, none, false, .fadr 8 (.t 1)⟩,
  ⟨some 11, none, false, .fadr 0 (.t 10)⟩,
  ⟨some 12, none, false, .ld false 1 (.t 11)⟩,
  ⟨some 13, none, false, .bin .leq (.t 9) (.t 12)⟩]

def f_tremor_Net_lattice_1_r2 : List Abs.Op := [
  ⟨some 18, none, false, .fadr 5 (.t 1)⟩,
  ⟨some 19, none, false, .fadr 1 (.t 18)⟩,
  ⟨some 20, none, false, .ld false 1 (.t 19)⟩,
  ⟨some 4, none, false, .mv (.t 20)⟩]

def f_tremor_Net_lattice_1_r3 : List Abs.Op := [
  ⟨some 21, none, false, .mv (.t 4)⟩,
  ⟨some 22, none, false, .fadr 8 (.t 1)⟩,
  ⟨some 23, none, false, .fadr 1 (.t 22)⟩,
  ⟨some 24, none, false, .ld false 1 (.t 23)⟩,
  ⟨some 25, none, false, .bin .leq (.t 21) (.t 24)⟩]

def f_tremor_Net_lattice_1_r4 : List Abs.Op := [
  ⟨some 30, none, false, .fadr 5 (.t 1)⟩,
  ⟨some 31, none, false, .fadr 2 (.t 30)⟩,
  ⟨some 32, none, false, .ld false 1 (.t 31)⟩,
  ⟨some 5, none, false, .mv (.t 32)⟩]

def f_tremor_Net_lattice_1_r5 : List Abs.Op := [
  ⟨some 33, none, false, .mv (.t 5)⟩,
  ⟨some 34, none, false, .fadr 8 (.t 1)⟩,
  ⟨some 35, none, false, .fadr 2 (.t 34)⟩,
  ⟨some 36, none, false, .ld false 1 (.t 35)⟩,
  ⟨some 37, none, false, .bin .leq (.t 33) (.t 36)⟩]

def f_tremor_Net_lattice_1_r6 : List Abs.Op := [
  ⟨some 42, none, false, .mv (.t 0)⟩,
  ⟨some 43, none, false, .mv (.t 3)⟩,
  ⟨some 44, none, false, .mv (.t 4)⟩,
  ⟨some 45, none, false, .mv (.t 5)⟩,
  ⟨some 46, none, false, .bld [(.int .i64 0), (.int .i64 0), (.int .i64 0)] [(0, 1, (.t 43)), (1, 1, (.t 44)), (2, 1, (.t 45))]⟩,
  ⟨some 47, none, false, .call false (.t 42) [(.t 46)]⟩,
  ⟨some 48, none, false, .un .not (.t 47)⟩]

def f_tremor_Net_lattice_1_r7 : List Abs.Op := [
  ⟨some 38, none, false, .mv (.t 5)⟩,
  ⟨some 39, none, false, .fadr 11 (.t 1)⟩,
  ⟨some 40, none, false, .ld false 1 (.t 39)⟩,
  ⟨some 41, none, false, .bin .add (.t 38) (.t 40)⟩,
  ⟨some 5, none, false, .mv (.t 41)⟩]

def f_tremor_Net_lattice_1_l8 : Abs.Cmd :=
  (.seq (.seq (.reg [0, 1, 3, 4, 5, 37] f_tremor_Net_lattice_1_r5) (.ite (.t 37) .nop (.exit 4))) (.seq (.blk 5 (.seq (.reg [0, 1, 3, 4, 5, 48] f_tremor_Net_lattice_1_r6) (.ite (.t 48) .ret .nop))) (.reg [0, 1, 3, 4, 5] f_tremor_Net_lattice_1_r7)))

def f_tremor_Net_lattice_1_r9 : List Abs.Op := [
  ⟨some 26, none, false, .mv (.t 4)⟩,
  ⟨some 27, none, false, .fadr 11 (.t 1)⟩,
  ⟨some 28, none, false, .ld false 1 (.t 27)⟩,
  ⟨some 29, none, false, .bin .add (.t 26) (.t 28)⟩,
  ⟨some 4, none, false, .mv (.t 29)⟩]

def f_tremor_Net_lattice_1_l10 : Abs.Cmd :=
  (.seq (.seq (.reg [0, 1, 3, 4, 25] f_tremor_Net_lattice_1_r3) (.ite (.t 25) .nop (.exit 2))) (.seq (.blk 3 (.seq (.reg [0, 1, 3, 4, 5] f_tremor_Net_lattice_1_r4) (.blk 4 (.loop [0, 1, 3, 4, 5] false f_tremor_Net_lattice_1_l8)))) (.reg [0, 1, 3, 4] f_tremor_Net_lattice_1_r9)))

def f_tremor_Net_lattice_1_r11 : List Abs.Op := [
  ⟨some 14, none, false, .mv (.t 3)⟩,
  ⟨some 15, none, false, .fadr 11 (.t 1)⟩,
  ⟨some 16, none, false, .ld false 1 (.t 15)⟩,
  ⟨some 17, none, false, .bin .add (.t 14) (.t 16)⟩,
  ⟨some 3, none, false, .mv (.t 17)⟩]

def f_tremor_Net_lattice_1_l12 : Abs.Cmd :=
  (.seq (.seq (.reg [0, 1, 3, 13] f_tremor_Net_lattice_1_r1) (.ite (.t 13) .nop (.exit 0))) (.seq (.blk 1 (.seq (.reg [0, 1, 3, 4] f_tremor_Net_lattice_1_r2) (.blk 2 (.loop [0, 1, 3, 4] false f_tremor_Net_lattice_1_l10)))) (.reg [0, 1, 3] f_tremor_Net_lattice_1_r11)))

def a_tremor_Net_lattice_1 : Ann := ⟨[(2, [0, 1, 3]), (5, [0, 1, 3, 4]), (8, [0, 1, 3, 4, 5]), (9, [0, 1, 3, 4, 5, 48]), (7, [0, 1, 3, 4, 5, 37]), (6, [0, 1, 3, 4, 5]), (4, [0, 1, 3, 4, 25]), (3, [0, 1, 3, 4]), (1, [0, 1, 3, 13]), (0, [0, 1, 3])], [(4, [0, 1, 3, 4, 5]), (2, [0, 1, 3, 4]), (0, [0, 1, 3])], [], [], [], [], [], []⟩
def f_tremor_Net_lattice_1 : Abs.Fn := ⟨2, [],
  (.seq (.reg [0, 1, 3] f_tremor_Net_lattice_1_r0) (.blk 0 (.loop [0, 1, 3] false f_tremor_Net_lattice_1_l12)))⟩

theorem e_tremor_Net_lattice_1_r0 : type_of% f_tremor_Net_lattice_1_r0.eq_1 := by_rfl f_tremor_Net_lattice_1_r0.eq_1
theorem e_tremor_Net_lattice_1_r1 : type_of% f_tremor_Net_lattice_1_r1.eq_1 := by_rfl f_tremor_Net_lattice_1_r1.eq_1
theorem e_tremor_Net_lattice_1_r2 : type_of% f_tremor_Net_lattice_1_r2.eq_1 := by_rfl f_tremor_Net_lattice_1_r2.eq_1
theorem e_tremor_Net_lattice_1_r3 : type_of% f_tremor_Net_lattice_1_r3.eq_1 := by_rfl f_tremor_Net_lattice_1_r3.eq_1
theorem e_tremor_Net_lattice_1_r4 : type_of% f_tremor_Net_lattice_1_r4.eq_1 := by_rfl f_tremor_Net_lattice_1_r4.eq_1
theorem e_tremor_Net_lattice_1_r5 : type_of% f_tremor_Net_lattice_1_r5.eq_1 := by_rfl f_tremor_Net_lattice_1_r5.eq_1
theorem e_tremor_Net_lattice_1_r6 : type_of% f_tremor_Net_lattice_1_r6.eq_1 := by_rfl f_tremor_Net_lattice_1_r6.eq_1
theorem e_tremor_Net_lattice_1_r7 : type_of% f_tremor_Net_lattice_1_r7.eq_1 := by_rfl f_tremor_Net_lattice_1_r7.eq_1
theorem e_tremor_Net_lattice_1_l8 : type_of% f_tremor_Net_lattice_1_l8.eq_1 := by_rfl f_tremor_Net_lattice_1_l8.eq_1
theorem e_tremor_Net_lattice_1_r9 : type_of% f_tremor_Net_lattice_1_r9.eq_1 := by_rfl f_tremor_Net_lattice_1_r9.eq_1
theorem e_tremor_Net_lattice_1_l10 : type_of% f_tremor_Net_lattice_1_l10.eq_1 := by_rfl f_tremor_Net_lattice_1_l10.eq_1
theorem e_tremor_Net_lattice_1_r11 : type_of% f_tremor_Net_lattice_1_r11.eq_1 := by_rfl f_tremor_Net_lattice_1_r11.eq_1
theorem e_tremor_Net_lattice_1_l12 : type_of% f_tremor_Net_lattice_1_l12.eq_1 := by_rfl f_tremor_Net_lattice_1_l12.eq_1
theorem e_tremor_Net_lattice_1 : type_of% f_tremor_Net_lattice_1.eq_1 := by_rfl f_tremor_Net_lattice_1.eq_1
theorem ok_tremor_Net_lattice_1 : fnC Try.prog a_tremor_Net_lattice_1 Try.f121 = some f_tremor_Net_lattice_1 := by kernel_rfl

/-! 122 slices.ContainsFunc[[]fumarole/tremor.Rule,fumarole/tremor.Rule] -/
def f_slices_ContainsFunc_tremor_Rule_r0 : List Abs.Op := [
  ⟨some 4, none, false, .mv (.c (.bool false))⟩]

def f_slices_ContainsFunc_tremor_Rule_r1 : List Abs.Op := [
  ⟨some 5, none, false, .mv (.t 0)⟩,
  ⟨some 6, none, false, .mv (.t 1)⟩,
  ⟨some 7, none, false, .call false (.c (.fn i_slices_IndexFunc_tremor_Rule [] [])) [(.t 5), (.t 6)]⟩,
  ⟨some 8, none, false, .bin .geq (.t 7) (.c (.int .i64 0))⟩,
  ⟨some 4, none, false, .mv (.t 8)⟩]

def a_slices_ContainsFunc_tremor_Rule : Ann := ⟨[(1, [4]), (0, [0, 1])], [], [], [], [], [], [], []⟩
def f_slices_ContainsFunc_tremor_Rule : Abs.Fn := ⟨2, [.t 4],
  (.seq (.reg [0, 1] f_slices_ContainsFunc_tremor_Rule_r0) (.seq (.reg [4] f_slices_ContainsFunc_tremor_Rule_r1) .ret))⟩

theorem e_slices_ContainsFunc_tremor_Rule_r0 : type_of% f_slices_ContainsFunc_tremor_Rule_r0.eq_1 := by_rfl f_slices_ContainsFunc_tremor_Rule_r0.eq_1
theorem e_slices_ContainsFunc_tremor_Rule_r1 : type_of% f_slices_ContainsFunc_tremor_Rule_r1.eq_1 := by_rfl f_slices_ContainsFunc_tremor_Rule_r1.eq_1
theorem e_slices_ContainsFunc_tremor_Rule : type_of% f_slices_ContainsFunc_tremor_Rule.eq_1 := by_rfl f_slices_ContainsFunc_tremor_Rule.eq_1
theorem ok_slices_ContainsFunc_tremor_Rule : fnC Try.prog a_slices_ContainsFunc_tremor_Rule Try.f122 = some f_slices_ContainsFunc_tremor_Rule := by kernel_rfl

/-! 123 fumarole/tremor.all[fumarole/tremor.Rule]$1 -/
def f_tremor_all_tremor_Rule_1_r0 : List Abs.Op := [
  ⟨some 2, none, false, .boxi (.t 0)⟩,
  ⟨some 3, none, false, .mv (.c (.bool false))⟩]

def f_tremor_all_tremor_Rule_1_r1 : List Abs.Op := [
  ⟨some 4, none, false, .ld false 1 (.t 1)⟩,
  ⟨some 5, none, false, .ld true 10 (.t 2)⟩,
  ⟨some 6, none, false, .call false (.t 4) [(.t 5)]⟩,
  ⟨some 7, none, false, .un .not (.t 6)⟩,
  ⟨some 3, none, false, .mv (.t 7)⟩]

def a_tremor_all_tremor_Rule_1 : Ann := ⟨[(1, [3]), (0, [1, 2])], [], [], [], [], [], [], []⟩
def f_tremor_all_tremor_Rule_1 : Abs.Fn := ⟨2, [.t 3],
  (.seq (.reg [1, 2] f_tremor_all_tremor_Rule_1_r0) (.seq (.reg [3] f_tremor_all_tremor_Rule_1_r1) .ret))⟩

theorem e_tremor_all_tremor_Rule_1_r0 : type_of% f_tremor_all_tremor_Rule_1_r0.eq_1 := by_rfl f_tremor_all_tremor_Rule_1_r0.eq_1
theorem e_tremor_all_tremor_Rule_1_r1 : type_of% f_tremor_all_tremor_Rule_1_r1.eq_1 := by_rfl f_tremor_all_tremor_Rule_1_r1.eq_1
theorem e_tremor_all_tremor_Rule_1 : type_of% f_tremor_all_tremor_Rule_1.eq_1 := by_rfl f_tremor_all_tremor_Rule_1.eq_1
theorem ok_tremor_all_tremor_Rule_1 : fnC Try.prog a_tremor_all_tremor_Rule_1 Try.f123 = some f_tremor_all_tremor_Rule_1 := by kernel_rfl

/-! 124 slices.ContainsFunc[[]fumarole/tremor.Event,fumarole/tremor.Event] -/
def f_slices_ContainsFunc_tremor_Event_r0 : List Abs.Op := [
  ⟨some 4, none, false, .mv (.c (.bool false))⟩]

def f_slices_ContainsFunc_tremor_Event_r1 : List Abs.Op := [
  ⟨some 5, none, false, .mv (.t 0)⟩,
  ⟨some 6, none, false, .mv (.t 1)⟩,
  ⟨some 7, none, false, .call false (.c (.fn i_slices_IndexFunc_tremor_Event [] [])) [(.t 5), (.t 6)]⟩,
  ⟨some 8, none, false, .bin .geq (.t 7) (.c (.int .i64 0))⟩,
  ⟨some 4, none, false, .mv (.t 8)⟩]

def a_slices_ContainsFunc_tremor_Event : Ann := ⟨[(1, [4]), (0, [0, 1])], [], [], [], [], [], [], []⟩
def f_slices_ContainsFunc_tremor_Event : Abs.Fn := ⟨2, [.t 4],
  (.seq (.reg [0, 1] f_slices_ContainsFunc_tremor_Event_r0) (.seq (.reg [4] f_slices_ContainsFunc_tremor_Event_r1) .ret))⟩

theorem e_slices_ContainsFunc_tremor_Event_r0 : type_of% f_slices_ContainsFunc_tremor_Event_r0.eq_1 := by_rfl f_slices_ContainsFunc_tremor_Event_r0.eq_1
theorem e_slices_ContainsFunc_tremor_Event_r1 : type_of% f_slices_ContainsFunc_tremor_Event_r1.eq_1 := by_rfl f_slices_ContainsFunc_tremor_Event_r1.eq_1
theorem e_slices_ContainsFunc_tremor_Event : type_of% f_slices_ContainsFunc_tremor_Event.eq_1 := by_rfl f_slices_ContainsFunc_tremor_Event.eq_1
theorem ok_slices_ContainsFunc_tremor_Event : fnC Try.prog a_slices_ContainsFunc_tremor_Event Try.f124 = some f_slices_ContainsFunc_tremor_Event := by kernel_rfl

/-! 125 fumarole/tremor.all[fumarole/tremor.Event]$1 -/
def f_tremor_all_tremor_Event_1_r0 : List Abs.Op := [
  ⟨some 2, none, false, .boxi (.t 0)⟩,
  ⟨some 3, none, false, .mv (.c (.bool false))⟩]

def f_tremor_all_tremor_Event_1_r1 : List Abs.Op := [
  ⟨some 4, none, false, .ld false 1 (.t 1)⟩,
  ⟨some 5, none, false, .ld true 2 (.t 2)⟩,
  ⟨some 6, none, false, .call false (.t 4) [(.t 5)]⟩,
  ⟨some 7, none, false, .un .not (.t 6)⟩,
  ⟨some 3, none, false, .mv (.t 7)⟩]

def a_tremor_all_tremor_Event_1 : Ann := ⟨[(1, [3]), (0, [1, 2])], [], [], [], [], [], [], []⟩
def f_tremor_all_tremor_Event_1 : Abs.Fn := ⟨2, [.t 3],
  (.seq (.reg [1, 2] f_tremor_all_tremor_Event_1_r0) (.seq (.reg [3] f_tremor_all_tremor_Event_1_r1) .ret))⟩

theorem e_tremor_all_tremor_Event_1_r0 : type_of% f_tremor_all_tremor_Event_1_r0.eq_1 := by_rfl f_tremor_all_tremor_Event_1_r0.eq_1
theorem e_tremor_all_tremor_Event_1_r1 : type_of% f_tremor_all_tremor_Event_1_r1.eq_1 := by_rfl f_tremor_all_tremor_Event_1_r1.eq_1
theorem e_tremor_all_tremor_Event_1 : type_of% f_tremor_all_tremor_Event_1.eq_1 := by_rfl f_tremor_all_tremor_Event_1.eq_1
theorem ok_tremor_all_tremor_Event_1 : fnC Try.prog a_tremor_all_tremor_Event_1 Try.f125 = some f_tremor_all_tremor_Event_1 := by kernel_rfl

/-! 126 (fumarole/tremor.Event).valid$1 -/
def f_tremor_Event_valid_1_r0 : List Abs.Op := [
  ⟨some 1, none, false, .boxi (.t 0)⟩,
  ⟨some 2, none, false, .mv (.c (.bool false))⟩]

def f_tremor_Event_valid_1_r1 : List Abs.Op := [
  ⟨some 3, none, false, .fadr 0 (.t 1)⟩,
  ⟨some 4, none, false, .ld true 3 (.t 3)⟩,
  ⟨some 5, none, false, .call false (.c (.fn i_tremor_Point_valid [] [])) [(.t 4)]⟩,
  ⟨some 6, none, false, .mv (.t 5)⟩,
  ⟨some 7, some (6, true), false, .fadr 3 (.t 1)⟩,
  ⟨some 8, some (6, true), false, .ld false 1 (.t 7)⟩,
  ⟨some 9, some (6, true), false, .call false (.c (.fn i_tremor_within [] [])) [(.t 8), (.c (.int .i64 0)), (.c (.int .i64 160))]⟩,
  ⟨some 10, none, false, .pick (.t 6) (.t 9) (.c (.bool false))⟩,
  ⟨some 2, none, false, .mv (.t 10)⟩]

def a_tremor_Event_valid_1 : Ann := ⟨[(1, [2]), (0, [1])], [], [], [], [], [], [], []⟩
def f_tremor_Event_valid_1 : Abs.Fn := ⟨1, [.t 2],
  (.seq (.reg [1] f_tremor_Event_valid_1_r0) (.seq (.reg [2] f_tremor_Event_valid_1_r1) .ret))⟩

theorem e_tremor_Event_valid_1_r0 : type_of% f_tremor_Event_valid_1_r0.eq_1 := by_rfl f_tremor_Event_valid_1_r0.eq_1
theorem e_tremor_Event_valid_1_r1 : type_of% f_tremor_Event_valid_1_r1.eq_1 := by_rfl f_tremor_Event_valid_1_r1.eq_1
theorem e_tremor_Event_valid_1 : type_of% f_tremor_Event_valid_1.eq_1 := by_rfl f_tremor_Event_valid_1.eq_1
theorem ok_tremor_Event_valid_1 : fnC Try.prog a_tremor_Event_valid_1 Try.f126 = some f_tremor_Event_valid_1 := by kernel_rfl

/-! 127 slices.IndexFunc[[]fumarole/tremor.Spot,fumarole/tremor.Spot] -/
def f_slices_IndexFunc_tremor_Spot_r0 : List Abs.Op := [
  ⟨some 4, none, false, .mv (.c (.int .i64 0))⟩]

def f_slices_IndexFunc_tremor_Spot_r1 : List Abs.Op := [
  ⟨some 6, none, false, .mv (.t 0)⟩,
  ⟨some 7, none, false, .lenS (.t 6)⟩,
  ⟨some 8, none, false, .mv (.c (.int .i64 0))⟩]

def f_slices_IndexFunc_tremor_Spot_r2 : List Abs.Op := [
  ⟨some 9, none, false, .bin .lss (.t 8) (.t 7)⟩]

def f_slices_IndexFunc_tremor_Spot_r3 : List Abs.Op := [
  ⟨some 10, none, false, .mv (.t 8)⟩,
  ⟨some 5, none, false, .mv (.t 10)⟩]

def f_slices_IndexFunc_tremor_Spot_r4 : List Abs.Op := [
  ⟨some 11, none, false, .mv (.t 1)⟩,
  ⟨some 12, none, false, .mv (.t 0)⟩,
  ⟨some 13, none, false, .mv (.t 5)⟩,
  ⟨some 14, none, false, .idxS 4 (.t 12) (.t 13)⟩,
  ⟨some 15, none, false, .ld true 4 (.t 14)⟩,
  ⟨some 16, none, false, .call false (.t 11) [(.t 15)]⟩]

def f_slices_IndexFunc_tremor_Spot_r5 : List Abs.Op := [
  ⟨some 17, none, false, .mv (.t 5)⟩,
  ⟨some 4, none, false, .mv (.t 17)⟩]

def f_slices_IndexFunc_tremor_Spot_r6 : List Abs.Op := [
  ⟨some 18, none, false, .bin .add (.t 8) (.c (.int .i64 1))⟩,
  ⟨some 8, none, false, .mv (.t 18)⟩]

def f_slices_IndexFunc_tremor_Spot_l7 : Abs.Cmd :=
  (.seq (.reg [0, 1, 7, 8, 9] f_slices_IndexFunc_tremor_Spot_r2) (.seq (.ite (.t 9) .nop (.exit 0)) (.seq (.blk 1 (.seq (.reg [0, 1, 5, 7, 8] f_slices_IndexFunc_tremor_Spot_r3) (.seq (.reg [0, 1, 5, 7, 8, 16] f_slices_IndexFunc_tremor_Spot_r4) (.ite (.t 16) (.seq (.reg [4] f_slices_IndexFunc_tremor_Spot_r5) .ret) .nop)))) (.reg [0, 1, 7, 8] f_slices_IndexFunc_tremor_Spot_r6))))

def f_slices_IndexFunc_tremor_Spot_r8 : List Abs.Op := [
  ⟨some 4, none, false, .mv (.c (.int .i64 (-1)))⟩]

def a_slices_IndexFunc_tremor_Spot : Ann := ⟨[(7, [4]), (6, [0, 1, 7, 8]), (5, [4]), (4, [0, 1, 5, 7, 8, 16]), (3, [0, 1, 5, 7, 8]), (2, [0, 1, 7, 8, 9]), (1, [0, 1, 7, 8]), (0, [0, 1])], [(0, [0, 1, 7, 8])], [], [], [], [], [], []⟩
def f_slices_IndexFunc_tremor_Spot : Abs.Fn := ⟨2, [.t 4],
  (.seq (.reg [0, 1] f_slices_IndexFunc_tremor_Spot_r0) (.seq (.seq (.reg [0, 1, 7, 8] f_slices_IndexFunc_tremor_Spot_r1) (.blk 0 (.loop [0, 1, 7, 8] false f_slices_IndexFunc_tremor_Spot_l7))) (.seq (.reg [4] f_slices_IndexFunc_tremor_Spot_r8) .ret)))⟩

theorem e_slices_IndexFunc_tremor_Spot_r0 : type_of% f_slices_IndexFunc_tremor_Spot_r0.eq_1 := by_rfl f_slices_IndexFunc_tremor_Spot_r0.eq_1
theorem e_slices_IndexFunc_tremor_Spot_r1 : type_of% f_slices_IndexFunc_tremor_Spot_r1.eq_1 := by_rfl f_slices_IndexFunc_tremor_Spot_r1.eq_1
theorem e_slices_IndexFunc_tremor_Spot_r2 : type_of% f_slices_IndexFunc_tremor_Spot_r2.eq_1 := by_rfl f_slices_IndexFunc_tremor_Spot_r2.eq_1
theorem e_slices_IndexFunc_tremor_Spot_r3 : type_of% f_slices_IndexFunc_tremor_Spot_r3.eq_1 := by_rfl f_slices_IndexFunc_tremor_Spot_r3.eq_1
theorem e_slices_IndexFunc_tremor_Spot_r4 : type_of% f_slices_IndexFunc_tremor_Spot_r4.eq_1 := by_rfl f_slices_IndexFunc_tremor_Spot_r4.eq_1
theorem e_slices_IndexFunc_tremor_Spot_r5 : type_of% f_slices_IndexFunc_tremor_Spot_r5.eq_1 := by_rfl f_slices_IndexFunc_tremor_Spot_r5.eq_1
theorem e_slices_IndexFunc_tremor_Spot_r6 : type_of% f_slices_IndexFunc_tremor_Spot_r6.eq_1 := by_rfl f_slices_IndexFunc_tremor_Spot_r6.eq_1
theorem e_slices_IndexFunc_tremor_Spot_l7 : type_of% f_slices_IndexFunc_tremor_Spot_l7.eq_1 := by_rfl f_slices_IndexFunc_tremor_Spot_l7.eq_1
theorem e_slices_IndexFunc_tremor_Spot_r8 : type_of% f_slices_IndexFunc_tremor_Spot_r8.eq_1 := by_rfl f_slices_IndexFunc_tremor_Spot_r8.eq_1
theorem e_slices_IndexFunc_tremor_Spot : type_of% f_slices_IndexFunc_tremor_Spot.eq_1 := by_rfl f_slices_IndexFunc_tremor_Spot.eq_1
theorem ok_slices_IndexFunc_tremor_Spot : fnC Try.prog a_slices_IndexFunc_tremor_Spot Try.f127 = some f_slices_IndexFunc_tremor_Spot := by kernel_rfl

/-! 128 fumarole/tremor.all[fumarole/tremor.Spot]$1 -/
def f_tremor_all_tremor_Spot_1_r0 : List Abs.Op := [
  ⟨some 2, none, false, .boxi (.t 0)⟩,
  ⟨some 3, none, false, .mv (.c (.bool false))⟩]

def f_tremor_all_tremor_Spot_1_r1 : List Abs.Op := [
  ⟨some 4, none, false, .ld false 1 (.t 1)⟩,
  ⟨some 5, none, false, .ld true 4 (.t 2)⟩,
  ⟨some 6, none, false, .call false (.t 4) [(.t 5)]⟩,
  ⟨some 7, none, false, .un .not (.t 6)⟩,
  ⟨some 3, none, false, .mv (.t 7)⟩]

def a_tremor_all_tremor_Spot_1 : Ann := ⟨[(1, [3]), (0, [1, 2])], [], [], [], [], [], [], []⟩
def f_tremor_all_tremor_Spot_1 : Abs.Fn := ⟨2, [.t 3],
  (.seq (.reg [1, 2] f_tremor_all_tremor_Spot_1_r0) (.seq (.reg [3] f_tremor_all_tremor_Spot_1_r1) .ret))⟩

theorem e_tremor_all_tremor_Spot_1_r0 : type_of% f_tremor_all_tremor_Spot_1_r0.eq_1 := by_rfl f_tremor_all_tremor_Spot_1_r0.eq_1
theorem e_tremor_all_tremor_Spot_1_r1 : type_of% f_tremor_all_tremor_Spot_1_r1.eq_1 := by_rfl f_tremor_all_tremor_Spot_1_r1.eq_1
theorem e_tremor_all_tremor_Spot_1 : type_of% f_tremor_all_tremor_Spot_1.eq_1 := by_rfl f_tremor_all_tremor_Spot_1.eq_1
theorem ok_tremor_all_tremor_Spot_1 : fnC Try.prog a_tremor_all_tremor_Spot_1 Try.f128 = some f_tremor_all_tremor_Spot_1 := by kernel_rfl

/-! 129 slices.ContainsFunc[[]fumarole/tremor.Pick,fumarole/tremor.Pick] -/
def f_slices_ContainsFunc_tremor_Pick_r0 : List Abs.Op := [
  ⟨some 4, none, false, .mv (.c (.bool false))⟩]

def f_slices_ContainsFunc_tremor_Pick_r1 : List Abs.Op := [
  ⟨some 5, none, false, .mv (.t 0)⟩,
  ⟨some 6, none, false, .mv (.t 1)⟩,
  ⟨some 7, none, false, .call false (.c (.fn i_slices_IndexFunc_tremor_Pick [] [])) [(.t 5), (.t 6)]⟩,
  ⟨some 8, none, false, .bin .geq (.t 7) (.c (.int .i64 0))⟩,
  ⟨some 4, none, false, .mv (.t 8)⟩]

def a_slices_ContainsFunc_tremor_Pick : Ann := ⟨[(1, [4]), (0, [0, 1])], [], [], [], [], [], [], []⟩
def f_slices_ContainsFunc_tremor_Pick : Abs.Fn := ⟨2, [.t 4],
  (.seq (.reg [0, 1] f_slices_ContainsFunc_tremor_Pick_r0) (.seq (.reg [4] f_slices_ContainsFunc_tremor_Pick_r1) .ret))⟩

theorem e_slices_ContainsFunc_tremor_Pick_r0 : type_of% f_slices_ContainsFunc_tremor_Pick_r0.eq_1 := by_rfl f_slices_ContainsFunc_tremor_Pick_r0.eq_1
theorem e_slices_ContainsFunc_tremor_Pick_r1 : type_of% f_slices_ContainsFunc_tremor_Pick_r1.eq_1 := by_rfl f_slices_ContainsFunc_tremor_Pick_r1.eq_1
theorem e_slices_ContainsFunc_tremor_Pick : type_of% f_slices_ContainsFunc_tremor_Pick.eq_1 := by_rfl f_slices_ContainsFunc_tremor_Pick.eq_1
theorem ok_slices_ContainsFunc_tremor_Pick : fnC Try.prog a_slices_ContainsFunc_tremor_Pick Try.f129 = some f_slices_ContainsFunc_tremor_Pick := by kernel_rfl

/-! 130 fumarole/tremor.all[fumarole/tremor.Pick]$1 -/
def f_tremor_all_tremor_Pick_1_r0 : List Abs.Op := [
  ⟨some 2, none, false, .boxi (.t 0)⟩,
  ⟨some 3, none, false, .mv (.c (.bool false))⟩]

def f_tremor_all_tremor_Pick_1_r1 : List Abs.Op := [
  ⟨some 4, none, false, .ld false 1 (.t 1)⟩,
  ⟨some 5, none, false, .ld true 4 (.t 2)⟩,
  ⟨some 6, none, false, .call false (.t 4) [(.t 5)]⟩,
  ⟨some 7, none, false, .un .not (.t 6)⟩,
  ⟨some 3, none, false, .mv (.t 7)⟩]

def a_tremor_all_tremor_Pick_1 : Ann := ⟨[(1, [3]), (0, [1, 2])], [], [], [], [], [], [], []⟩
def f_tremor_all_tremor_Pick_1 : Abs.Fn := ⟨2, [.t 3],
  (.seq (.reg [1, 2] f_tremor_all_tremor_Pick_1_r0) (.seq (.reg [3] f_tremor_all_tremor_Pick_1_r1) .ret))⟩

theorem e_tremor_all_tremor_Pick_1_r0 : type_of% f_tremor_all_tremor_Pick_1_r0.eq_1 := by_rfl f_tremor_all_tremor_Pick_1_r0.eq_1
theorem e_tremor_all_tremor_Pick_1_r1 : type_of% f_tremor_all_tremor_Pick_1_r1.eq_1 := by_rfl f_tremor_all_tremor_Pick_1_r1.eq_1
theorem e_tremor_all_tremor_Pick_1 : type_of% f_tremor_all_tremor_Pick_1.eq_1 := by_rfl f_tremor_all_tremor_Pick_1.eq_1
theorem ok_tremor_all_tremor_Pick_1 : fnC Try.prog a_tremor_all_tremor_Pick_1 Try.f130 = some f_tremor_all_tremor_Pick_1 := by kernel_rfl

/-! 131 slices.ContainsFunc[[]fumarole/tremor.Station,fumarole/tremor.Station] -/
def f_slices_ContainsFunc_tremor_Station_r0 : List Abs.Op := [
  ⟨some 4, none, false, .mv (.c (.bool false))⟩]

def f_slices_ContainsFunc_tremor_Station_r1 : List Abs.Op := [
  ⟨some 5, none, false, .mv (.t 0)⟩,
  ⟨some 6, none, false, .mv (.t 1)⟩,
  ⟨some 7, none, false, .call false (.c (.fn i_slices_IndexFunc_tremor_Station [] [])) [(.t 5), (.t 6)]⟩,
  ⟨some 8, none, false, .bin .geq (.t 7) (.c (.int .i64 0))⟩,
  ⟨some 4, none, false, .mv (.t 8)⟩]

def a_slices_ContainsFunc_tremor_Station : Ann := ⟨[(1, [4]), (0, [0, 1])], [], [], [], [], [], [], []⟩
def f_slices_ContainsFunc_tremor_Station : Abs.Fn := ⟨2, [.t 4],
  (.seq (.reg [0, 1] f_slices_ContainsFunc_tremor_Station_r0) (.seq (.reg [4] f_slices_ContainsFunc_tremor_Station_r1) .ret))⟩

theorem e_slices_ContainsFunc_tremor_Station_r0 : type_of% f_slices_ContainsFunc_tremor_Station_r0.eq_1 := by_rfl f_slices_ContainsFunc_tremor_Station_r0.eq_1
theorem e_slices_ContainsFunc_tremor_Station_r1 : type_of% f_slices_ContainsFunc_tremor_Station_r1.eq_1 := by_rfl f_slices_ContainsFunc_tremor_Station_r1.eq_1
theorem e_slices_ContainsFunc_tremor_Station : type_of% f_slices_ContainsFunc_tremor_Station.eq_1 := by_rfl f_slices_ContainsFunc_tremor_Station.eq_1
theorem ok_slices_ContainsFunc_tremor_Station : fnC Try.prog a_slices_ContainsFunc_tremor_Station Try.f131 = some f_slices_ContainsFunc_tremor_Station := by kernel_rfl

/-! 132 fumarole/tremor.all[fumarole/tremor.Station]$1 -/
def f_tremor_all_tremor_Station_1_r0 : List Abs.Op := [
  ⟨some 2, none, false, .boxi (.t 0)⟩,
  ⟨some 3, none, false, .mv (.c (.bool false))⟩]

def f_tremor_all_tremor_Station_1_r1 : List Abs.Op := [
  ⟨some 4, none, false, .ld false 1 (.t 1)⟩,
  ⟨some 5, none, false, .ld true 4 (.t 2)⟩,
  ⟨some 6, none, false, .call false (.t 4) [(.t 5)]⟩,
  ⟨some 7, none, false, .un .not (.t 6)⟩,
  ⟨some 3, none, false, .mv (.t 7)⟩]

def a_tremor_all_tremor_Station_1 : Ann := ⟨[(1, [3]), (0, [1, 2])], [], [], [], [], [], [], []⟩
def f_tremor_all_tremor_Station_1 : Abs.Fn := ⟨2, [.t 3],
  (.seq (.reg [1, 2] f_tremor_all_tremor_Station_1_r0) (.seq (.reg [3] f_tremor_all_tremor_Station_1_r1) .ret))⟩

theorem e_tremor_all_tremor_Station_1_r0 : type_of% f_tremor_all_tremor_Station_1_r0.eq_1 := by_rfl f_tremor_all_tremor_Station_1_r0.eq_1
theorem e_tremor_all_tremor_Station_1_r1 : type_of% f_tremor_all_tremor_Station_1_r1.eq_1 := by_rfl f_tremor_all_tremor_Station_1_r1.eq_1
theorem e_tremor_all_tremor_Station_1 : type_of% f_tremor_all_tremor_Station_1.eq_1 := by_rfl f_tremor_all_tremor_Station_1.eq_1
theorem ok_tremor_all_tremor_Station_1 : fnC Try.prog a_tremor_all_tremor_Station_1 Try.f132 = some f_tremor_all_tremor_Station_1 := by kernel_rfl

/-! 133 slices.ContainsFunc[[]fumarole/tremor.Range,fumarole/tremor.Range] -/
def f_slices_ContainsFunc_tremor_Range_r0 : List Abs.Op := [
  ⟨some 4, none, false, .mv (.c (.bool false))⟩]

def f_slices_ContainsFunc_tremor_Range_r1 : List Abs.Op := [
  ⟨some 5, none, false, .mv (.t 0)⟩,
  ⟨some 6, none, false, .mv (.t 1)⟩,
  ⟨some 7, none, false, .call false (.c (.fn i_slices_IndexFunc_tremor_Range [] [])) [(.t 5), (.t 6)]⟩,
  ⟨some 8, none, false, .bin .geq (.t 7) (.c (.int .i64 0))⟩,
  ⟨some 4, none, false, .mv (.t 8)⟩]

def a_slices_ContainsFunc_tremor_Range : Ann := ⟨[(1, [4]), (0, [0, 1])], [], [], [], [], [], [], []⟩
def f_slices_ContainsFunc_tremor_Range : Abs.Fn := ⟨2, [.t 4],
  (.seq (.reg [0, 1] f_slices_ContainsFunc_tremor_Range_r0) (.seq (.reg [4] f_slices_ContainsFunc_tremor_Range_r1) .ret))⟩

theorem e_slices_ContainsFunc_tremor_Range_r0 : type_of% f_slices_ContainsFunc_tremor_Range_r0.eq_1 := by_rfl f_slices_ContainsFunc_tremor_Range_r0.eq_1
theorem e_slices_ContainsFunc_tremor_Range_r1 : type_of% f_slices_ContainsFunc_tremor_Range_r1.eq_1 := by_rfl f_slices_ContainsFunc_tremor_Range_r1.eq_1
theorem e_slices_ContainsFunc_tremor_Range : type_of% f_slices_ContainsFunc_tremor_Range.eq_1 := by_rfl f_slices_ContainsFunc_tremor_Range.eq_1
theorem ok_slices_ContainsFunc_tremor_Range : fnC Try.prog a_slices_ContainsFunc_tremor_Range Try.f133 = some f_slices_ContainsFunc_tremor_Range := by kernel_rfl

/-! 134 fumarole/tremor.all[fumarole/tremor.Range]$1 -/
def f_tremor_all_tremor_Range_1_r0 : List Abs.Op := [
  ⟨some 2, none, false, .boxi (.t 0)⟩,
  ⟨some 3, none, false, .mv (.c (.bool false))⟩]

def f_tremor_all_tremor_Range_1_r1 : List Abs.Op := [
  ⟨some 4, none, false, .ld false 1 (.t 1)⟩,
  ⟨some 5, none, false, .ld true 2 (.t 2)⟩,
  ⟨some 6, none, false, .call false (.t 4) [(.t 5)]⟩,
  ⟨some 7, none, false, .un .not (.t 6)⟩,
  ⟨some 3, none, false, .mv (.t 7)⟩]

def a_tremor_all_tremor_Range_1 : Ann := ⟨[(1, [3]), (0, [1, 2])], [], [], [], [], [], [], []⟩
def f_tremor_all_tremor_Range_1 : Abs.Fn := ⟨2, [.t 3],
  (.seq (.reg [1, 2] f_tremor_all_tremor_Range_1_r0) (.seq (.reg [3] f_tremor_all_tremor_Range_1_r1) .ret))⟩

theorem e_tremor_all_tremor_Range_1_r0 : type_of% f_tremor_all_tremor_Range_1_r0.eq_1 := by_rfl f_tremor_all_tremor_Range_1_r0.eq_1
theorem e_tremor_all_tremor_Range_1_r1 : type_of% f_tremor_all_tremor_Range_1_r1.eq_1 := by_rfl f_tremor_all_tremor_Range_1_r1.eq_1
theorem e_tremor_all_tremor_Range_1 : type_of% f_tremor_all_tremor_Range_1.eq_1 := by_rfl f_tremor_all_tremor_Range_1.eq_1
theorem ok_tremor_all_tremor_Range_1 : fnC Try.prog a_tremor_all_tremor_Range_1 Try.f134 = some f_tremor_all_tremor_Range_1 := by kernel_rfl

/-! 135 slices.ContainsFunc[[]fumarole/tremor.Row,fumarole/tremor.Row] -/
def f_slices_ContainsFunc_tremor_Row_r0 : List Abs.Op := [
  ⟨some 4, none, false, .mv (.c (.bool false))⟩]

def f_slices_ContainsFunc_tremor_Row_r1 : List Abs.Op := [
  ⟨some 5, none, false, .mv (.t 0)⟩,
  ⟨some 6, none, false, .mv (.t 1)⟩,
  ⟨some 7, none, false, .call false (.c (.fn i_slices_IndexFunc_tremor_Row [] [])) [(.t 5), (.t 6)]⟩,
  ⟨some 8, none, false, .bin .geq (.t 7) (.c (.int .i64 0))⟩,
  ⟨some 4, none, false, .mv (.t 8)⟩]

def a_slices_ContainsFunc_tremor_Row : Ann := ⟨[(1, [4]), (0, [0, 1])], [], [], [], [], [], [], []⟩
def f_slices_ContainsFunc_tremor_Row : Abs.Fn := ⟨2, [.t 4],
  (.seq (.reg [0, 1] f_slices_ContainsFunc_tremor_Row_r0) (.seq (.reg [4] f_slices_ContainsFunc_tremor_Row_r1) .ret))⟩

theorem e_slices_ContainsFunc_tremor_Row_r0 : type_of% f_slices_ContainsFunc_tremor_Row_r0.eq_1 := by_rfl f_slices_ContainsFunc_tremor_Row_r0.eq_1
theorem e_slices_ContainsFunc_tremor_Row_r1 : type_of% f_slices_ContainsFunc_tremor_Row_r1.eq_1 := by_rfl f_slices_ContainsFunc_tremor_Row_r1.eq_1
theorem e_slices_ContainsFunc_tremor_Row : type_of% f_slices_ContainsFunc_tremor_Row.eq_1 := by_rfl f_slices_ContainsFunc_tremor_Row.eq_1
theorem ok_slices_ContainsFunc_tremor_Row : fnC Try.prog a_slices_ContainsFunc_tremor_Row Try.f135 = some f_slices_ContainsFunc_tremor_Row := by kernel_rfl

/-! 136 fumarole/tremor.all[fumarole/tremor.Row]$1 -/
def f_tremor_all_tremor_Row_1_r0 : List Abs.Op := [
  ⟨some 2, none, false, .boxi (.t 0)⟩,
  ⟨some 3, none, false, .mv (.c (.bool false))⟩]

def f_tremor_all_tremor_Row_1_r1 : List Abs.Op := [
  ⟨some 4, none, false, .ld false 1 (.t 1)⟩,
  ⟨some 5, none, false, .ld true 2 (.t 2)⟩,
  ⟨some 6, none, false, .call false (.t 4) [(.t 5)]⟩,
  ⟨some 7, none, false, .un .not (.t 6)⟩,
  ⟨some 3, none, false, .mv (.t 7)⟩]

def a_tremor_all_tremor_Row_1 : Ann := ⟨[(1, [3]), (0, [1, 2])], [], [], [], [], [], [], []⟩
def f_tremor_all_tremor_Row_1 : Abs.Fn := ⟨2, [.t 3],
  (.seq (.reg [1, 2] f_tremor_all_tremor_Row_1_r0) (.seq (.reg [3] f_tremor_all_tremor_Row_1_r1) .ret))⟩

theorem e_tremor_all_tremor_Row_1_r0 : type_of% f_tremor_all_tremor_Row_1_r0.eq_1 := by_rfl f_tremor_all_tremor_Row_1_r0.eq_1
theorem e_tremor_all_tremor_Row_1_r1 : type_of% f_tremor_all_tremor_Row_1_r1.eq_1 := by_rfl f_tremor_all_tremor_Row_1_r1.eq_1
theorem e_tremor_all_tremor_Row_1 : type_of% f_tremor_all_tremor_Row_1.eq_1 := by_rfl f_tremor_all_tremor_Row_1.eq_1
theorem ok_tremor_all_tremor_Row_1 : fnC Try.prog a_tremor_all_tremor_Row_1 Try.f136 = some f_tremor_all_tremor_Row_1 := by kernel_rfl

/-! 137 slices.IndexFunc[[]fumarole/tremor.Reading,fumarole/tremor.Reading] -/
def f_slices_IndexFunc_tremor_Reading_r0 : List Abs.Op := [
  ⟨some 4, none, false, .mv (.c (.int .i64 0))⟩]

def f_slices_IndexFunc_tremor_Reading_r1 : List Abs.Op := [
  ⟨some 6, none, false, .mv (.t 0)⟩,
  ⟨some 7, none, false, .lenS (.t 6)⟩,
  ⟨some 8, none, false, .mv (.c (.int .i64 0))⟩]

def f_slices_IndexFunc_tremor_Reading_r2 : List Abs.Op := [
  ⟨some 9, none, false, .bin .lss (.t 8) (.t 7)⟩]

def f_slices_IndexFunc_tremor_Reading_r3 : List Abs.Op := [
  ⟨some 10, none, false, .mv (.t 8)⟩,
  ⟨some 5, none, false, .mv (.t 10)⟩]

def f_slices_IndexFunc_tremor_Reading_r4 : List Abs.Op := [
  ⟨some 11, none, false, .mv (.t 1)⟩,
  ⟨some 12, none, false, .mv (.t 0)⟩,
  ⟨some 13, none, false, .mv (.t 5)⟩,
  ⟨some 14, none, false, .idxS 2 (.t 12) (.t 13)⟩,
  ⟨some 15, none, false, .ld true 2 (.t 14)⟩,
  ⟨some 16, none, false, .call false (.t 11) [(.t 15)]⟩]

def f_slices_IndexFunc_tremor_Reading_r5 : List Abs.Op := [
  ⟨some 17, none, false, .mv (.t 5)⟩,
  ⟨some 4, none, false, .mv (.t 17)⟩]

def f_slices_IndexFunc_tremor_Reading_r6 : List Abs.Op := [
  ⟨some 18, none, false, .bin .add (.t 8) (.c (.int .i64 1))⟩,
  ⟨some 8, none, false, .mv (.t 18)⟩]

def f_slices_IndexFunc_tremor_Reading_l7 : Abs.Cmd :=
  (.seq (.reg [0, 1, 7, 8, 9] f_slices_IndexFunc_tremor_Reading_r2) (.seq (.ite (.t 9) .nop (.exit 0)) (.seq (.blk 1 (.seq (.reg [0, 1, 5, 7, 8] f_slices_IndexFunc_tremor_Reading_r3) (.seq (.reg [0, 1, 5, 7, 8, 16] f_slices_IndexFunc_tremor_Reading_r4) (.ite (.t 16) (.seq (.reg [4] f_slices_IndexFunc_tremor_Reading_r5) .ret) .nop)))) (.reg [0, 1, 7, 8] f_slices_IndexFunc_tremor_Reading_r6))))

def f_slices_IndexFunc_tremor_Reading_r8 : List Abs.Op := [
  ⟨some 4, none, false, .mv (.c (.int .i64 (-1)))⟩]

def a_slices_IndexFunc_tremor_Reading : Ann := ⟨[(7, [4]), (6, [0, 1, 7, 8]), (5, [4]), (4, [0, 1, 5, 7, 8, 16]), (3, [0, 1, 5, 7, 8]), (2, [0, 1, 7, 8, 9]), (1, [0, 1, 7, 8]), (0, [0, 1])], [(0, [0, 1, 7, 8])], [], [], [], [], [], []⟩
def f_slices_IndexFunc_tremor_Reading : Abs.Fn := ⟨2, [.t 4],
  (.seq (.reg [0, 1] f_slices_IndexFunc_tremor_Reading_r0) (.seq (.seq (.reg [0, 1, 7, 8] f_slices_IndexFunc_tremor_Reading_r1) (.blk 0 (.loop [0, 1, 7, 8] false f_slices_IndexFunc_tremor_Reading_l7))) (.seq (.reg [4] f_slices_IndexFunc_tremor_Reading_r8) .ret)))⟩

theorem e_slices_IndexFunc_tremor_Reading_r0 : type_of% f_slices_IndexFunc_tremor_Reading_r0.eq_1 := by_rfl f_slices_IndexFunc_tremor_Reading_r0.eq_1
theorem e_slices_IndexFunc_tremor_Reading_r1 : type_of% f_slices_IndexFunc_tremor_Reading_r1.eq_1 := by_rfl f_slices_IndexFunc_tremor_Reading_r1.eq_1
theorem e_slices_IndexFunc_tremor_Reading_r2 : type_of% f_slices_IndexFunc_tremor_Reading_r2.eq_1 := by_rfl f_slices_IndexFunc_tremor_Reading_r2.eq_1
theorem e_slices_IndexFunc_tremor_Reading_r3 : type_of% f_slices_IndexFunc_tremor_Reading_r3.eq_1 := by_rfl f_slices_IndexFunc_tremor_Reading_r3.eq_1
theorem e_slices_IndexFunc_tremor_Reading_r4 : type_of% f_slices_IndexFunc_tremor_Reading_r4.eq_1 := by_rfl f_slices_IndexFunc_tremor_Reading_r4.eq_1
theorem e_slices_IndexFunc_tremor_Reading_r5 : type_of% f_slices_IndexFunc_tremor_Reading_r5.eq_1 := by_rfl f_slices_IndexFunc_tremor_Reading_r5.eq_1
theorem e_slices_IndexFunc_tremor_Reading_r6 : type_of% f_slices_IndexFunc_tremor_Reading_r6.eq_1 := by_rfl f_slices_IndexFunc_tremor_Reading_r6.eq_1
theorem e_slices_IndexFunc_tremor_Reading_l7 : type_of% f_slices_IndexFunc_tremor_Reading_l7.eq_1 := by_rfl f_slices_IndexFunc_tremor_Reading_l7.eq_1
theorem e_slices_IndexFunc_tremor_Reading_r8 : type_of% f_slices_IndexFunc_tremor_Reading_r8.eq_1 := by_rfl f_slices_IndexFunc_tremor_Reading_r8.eq_1
theorem e_slices_IndexFunc_tremor_Reading : type_of% f_slices_IndexFunc_tremor_Reading.eq_1 := by_rfl f_slices_IndexFunc_tremor_Reading.eq_1
theorem ok_slices_IndexFunc_tremor_Reading : fnC Try.prog a_slices_IndexFunc_tremor_Reading Try.f137 = some f_slices_IndexFunc_tremor_Reading := by kernel_rfl

/-! 138 slices.IndexFunc[[]uint8,uint8] -/
def f_slices_IndexFunc_uint8_r0 : List Abs.Op := [
  ⟨some 4, none, false, .mv (.c (.int .i64 0))⟩]

def f_slices_IndexFunc_uint8_r1 : List Abs.Op := [
  ⟨some 6, none, false, .mv (.t 0)⟩,
  ⟨some 7, none, false, .lenS (.t 6)⟩,
  ⟨some 8, none, false, .mv (.c (.int .i64 0))⟩]

def f_slices_IndexFunc_uint8_r2 : List Abs.Op := [
  ⟨some 9, none, false, .bin .lss (.t 8) (.t 7)⟩]

def f_slices_IndexFunc_uint8_r3 : List Abs.Op := [
  ⟨some 10, none, false, .mv (.t 8)⟩,
  ⟨some 5, none, false, .mv (.t 10)⟩]

def f_slices_IndexFunc_uint8_r4 : List Abs.Op := [
  ⟨some 11, none, false, .mv (.t 1)⟩,
  ⟨some 12, none, false, .mv (.t 0)⟩,
  ⟨some 13, none, false, .mv (.t 5)⟩,
  ⟨some 14, none, false, .idxS 1 (.t 12) (.t 13)⟩,
  ⟨some 15, none, false, .ld false 1 (.t 14)⟩,
  ⟨some 16, none, false, .call false (.t 11) [(.t 15)]⟩]

def f_slices_IndexFunc_uint8_r5 : List Abs.Op := [
  ⟨some 17, none, false, .mv (.t 5)⟩,
  ⟨some 4, none, false, .mv (.t 17)⟩]

def f_slices_IndexFunc_uint8_r6 : List Abs.Op := [
  ⟨some 18, none, false, .bin .add (.t 8) (.c (.int .i64 1))⟩,
  ⟨some 8, none, false, .mv (.t 18)⟩]

def f_slices_IndexFunc_uint8_l7 : Abs.Cmd :=
  (.seq (.reg [0, 1, 7, 8, 9] f_slices_IndexFunc_uint8_r2) (.seq (.ite (.t 9) .nop (.exit 0)) (.seq (.blk 1 (.seq (.reg [0, 1, 5, 7, 8] f_slices_IndexFunc_uint8_r3) (.seq (.reg [0, 1, 5, 7, 8, 16] f_slices_IndexFunc_uint8_r4) (.ite (.t 16) (.seq (.reg [4] f_slices_IndexFunc_uint8_r5) .ret) .nop)))) (.reg [0, 1, 7, 8] f_slices_IndexFunc_uint8_r6))))

def f_slices_IndexFunc_uint8_r8 : List Abs.Op := [
  ⟨some 4, none, false, .mv (.c (.int .i64 (-1)))⟩]

def a_slices_IndexFunc_uint8 : Ann := ⟨[(7, [4]), (6, [0, 1, 7, 8]), (5, [4]), (4, [0, 1, 5, 7, 8, 16]), (3, [0, 1, 5, 7, 8]), (2, [0, 1, 7, 8, 9]), (1, [0, 1, 7, 8]), (0, [0, 1])], [(0, [0, 1, 7, 8])], [], [], [], [], [], []⟩
def f_slices_IndexFunc_uint8 : Abs.Fn := ⟨2, [.t 4],
  (.seq (.reg [0, 1] f_slices_IndexFunc_uint8_r0) (.seq (.seq (.reg [0, 1, 7, 8] f_slices_IndexFunc_uint8_r1) (.blk 0 (.loop [0, 1, 7, 8] false f_slices_IndexFunc_uint8_l7))) (.seq (.reg [4] f_slices_IndexFunc_uint8_r8) .ret)))⟩

theorem e_slices_IndexFunc_uint8_r0 : type_of% f_slices_IndexFunc_uint8_r0.eq_1 := by_rfl f_slices_IndexFunc_uint8_r0.eq_1
theorem e_slices_IndexFunc_uint8_r1 : type_of% f_slices_IndexFunc_uint8_r1.eq_1 := by_rfl f_slices_IndexFunc_uint8_r1.eq_1
theorem e_slices_IndexFunc_uint8_r2 : type_of% f_slices_IndexFunc_uint8_r2.eq_1 := by_rfl f_slices_IndexFunc_uint8_r2.eq_1
theorem e_slices_IndexFunc_uint8_r3 : type_of% f_slices_IndexFunc_uint8_r3.eq_1 := by_rfl f_slices_IndexFunc_uint8_r3.eq_1
theorem e_slices_IndexFunc_uint8_r4 : type_of% f_slices_IndexFunc_uint8_r4.eq_1 := by_rfl f_slices_IndexFunc_uint8_r4.eq_1
theorem e_slices_IndexFunc_uint8_r5 : type_of% f_slices_IndexFunc_uint8_r5.eq_1 := by_rfl f_slices_IndexFunc_uint8_r5.eq_1
theorem e_slices_IndexFunc_uint8_r6 : type_of% f_slices_IndexFunc_uint8_r6.eq_1 := by_rfl f_slices_IndexFunc_uint8_r6.eq_1
theorem e_slices_IndexFunc_uint8_l7 : type_of% f_slices_IndexFunc_uint8_l7.eq_1 := by_rfl f_slices_IndexFunc_uint8_l7.eq_1
theorem e_slices_IndexFunc_uint8_r8 : type_of% f_slices_IndexFunc_uint8_r8.eq_1 := by_rfl f_slices_IndexFunc_uint8_r8.eq_1
theorem e_slices_IndexFunc_uint8 : type_of% f_slices_IndexFunc_uint8.eq_1 := by_rfl f_slices_IndexFunc_uint8.eq_1
theorem ok_slices_IndexFunc_uint8 : fnC Try.prog a_slices_IndexFunc_uint8 Try.f138 = some f_slices_IndexFunc_uint8 := by kernel_rfl

/-! 139 slices.IndexFunc[[]fumarole/tremor.Rule,fumarole/tremor.Rule] -/
def f_slices_IndexFunc_tremor_Rule_r0 : List Abs.Op := [
  ⟨some 4, none, false, .mv (.c (.int .i64 0))⟩]

def f_slices_IndexFunc_tremor_Rule_r1 : List Abs.Op := [
  ⟨some 6, none, false, .mv (.t 0)⟩,
  ⟨some 7, none, false, .lenS (.t 6)⟩,
  ⟨some 8, none, false, .mv (.c (.int .i64 0))⟩]

def f_slices_IndexFunc_tremor_Rule_r2 : List Abs.Op := [
  ⟨some 9, none, false, .bin .lss (.t 8) (.t 7)⟩]

def f_slices_IndexFunc_tremor_Rule_r3 : List Abs.Op := [
  ⟨some 10, none, false, .mv (.t 8)⟩,
  ⟨some 5, none, false, .mv (.t 10)⟩]

def f_slices_IndexFunc_tremor_Rule_r4 : List Abs.Op := [
  ⟨some 11, none, false, .mv (.t 1)⟩,
  ⟨some 12, none, false, .mv (.t 0)⟩,
  ⟨some 13, none, false, .mv (.t 5)⟩,
  ⟨some 14, none, false, .idxS 10 (.t 12) (.t 13)⟩,
  ⟨some 15, none, false, .ld true 10 (.t 14)⟩,
  ⟨some 16, none, false, .call false (.t 11) [(.t 15)]⟩]

def f_slices_IndexFunc_tremor_Rule_r5 : List Abs.Op := [
  ⟨some 17, none, false, .mv (.t 5)⟩,
  ⟨some 4, none, false, .mv (.t 17)⟩]

def f_slices_IndexFunc_tremor_Rule_r6 : List Abs.Op := [
  ⟨some 18, none, false, .bin .add (.t 8) (.c (.int .i64 1))⟩,
  ⟨some 8, none, false, .mv (.t 18)⟩]

def f_slices_IndexFunc_tremor_Rule_l7 : Abs.Cmd :=
  (.seq (.reg [0, 1, 7, 8, 9] f_slices_IndexFunc_tremor_Rule_r2) (.seq (.ite (.t 9) .nop (.exit 0)) (.seq (.blk 1 (.seq (.reg [0, 1, 5, 7, 8] f_slices_IndexFunc_tremor_Rule_r3) (.seq (.reg [0, 1, 5, 7, 8, 16] f_slices_IndexFunc_tremor_Rule_r4) (.ite (.t 16) (.seq (.reg [4] f_slices_IndexFunc_tremor_Rule_r5) .ret) .nop)))) (.reg [0, 1, 7, 8] f_slices_IndexFunc_tremor_Rule_r6))))

def f_slices_IndexFunc_tremor_Rule_r8 : List Abs.Op := [
  ⟨some 4, none, false, .mv (.c (.int .i64 (-1)))⟩]

def a_slices_IndexFunc_tremor_Rule : Ann := ⟨[(7, [4]), (6, [0, 1, 7, 8]), (5, [4]), (4, [0, 1, 5, 7, 8, 16]), (3, [0, 1, 5, 7, 8]), (2, [0, 1, 7, 8, 9]), (1, [0, 1, 7, 8]), (0, [0, 1])], [(0, [0, 1, 7, 8])], [], [], [], [], [], []⟩
def f_slices_IndexFunc_tremor_Rule : Abs.Fn := ⟨2, [.t 4],
  (.seq (.reg [0, 1] f_slices_IndexFunc_tremor_Rule_r0) (.seq (.seq (.reg [0, 1, 7, 8] f_slices_IndexFunc_tremor_Rule_r1) (.blk 0 (.loop [0, 1, 7, 8] false f_slices_IndexFunc_tremor_Rule_l7))) (.seq (.reg [4] f_slices_IndexFunc_tremor_Rule_r8) .ret)))⟩

theorem e_slices_IndexFunc_tremor_Rule_r0 : type_of% f_slices_IndexFunc_tremor_Rule_r0.eq_1 := by_rfl f_slices_IndexFunc_tremor_Rule_r0.eq_1
theorem e_slices_IndexFunc_tremor_Rule_r1 : type_of% f_slices_IndexFunc_tremor_Rule_r1.eq_1 := by_rfl f_slices_IndexFunc_tremor_Rule_r1.eq_1
theorem e_slices_IndexFunc_tremor_Rule_r2 : type_of% f_slices_IndexFunc_tremor_Rule_r2.eq_1 := by_rfl f_slices_IndexFunc_tremor_Rule_r2.eq_1
theorem e_slices_IndexFunc_tremor_Rule_r3 : type_of% f_slices_IndexFunc_tremor_Rule_r3.eq_1 := by_rfl f_slices_IndexFunc_tremor_Rule_r3.eq_1
theorem e_slices_IndexFunc_tremor_Rule_r4 : type_of% f_slices_IndexFunc_tremor_Rule_r4.eq_1 := by_rfl f_slices_IndexFunc_tremor_Rule_r4.eq_1
theorem e_slices_IndexFunc_tremor_Rule_r5 : type_of% f_slices_IndexFunc_tremor_Rule_r5.eq_1 := by_rfl f_slices_IndexFunc_tremor_Rule_r5.eq_1
theorem e_slices_IndexFunc_tremor_Rule_r6 : type_of% f_slices_IndexFunc_tremor_Rule_r6.eq_1 := by_rfl f_slices_IndexFunc_tremor_Rule_r6.eq_1
theorem e_slices_IndexFunc_tremor_Rule_l7 : type_of% f_slices_IndexFunc_tremor_Rule_l7.eq_1 := by_rfl f_slices_IndexFunc_tremor_Rule_l7.eq_1
theorem e_slices_IndexFunc_tremor_Rule_r8 : type_of% f_slices_IndexFunc_tremor_Rule_r8.eq_1 := by_rfl f_slices_IndexFunc_tremor_Rule_r8.eq_1
theorem e_slices_IndexFunc_tremor_Rule : type_of% f_slices_IndexFunc_tremor_Rule.eq_1 := by_rfl f_slices_IndexFunc_tremor_Rule.eq_1
theorem ok_slices_IndexFunc_tremor_Rule : fnC Try.prog a_slices_IndexFunc_tremor_Rule Try.f139 = some f_slices_IndexFunc_tremor_Rule := by kernel_rfl

/-! 140 slices.IndexFunc[[]fumarole/tremor.Event,fumarole/tremor.Event] -/
def f_slices_IndexFunc_tremor_Event_r0 : List Abs.Op := [
  ⟨some 4, none, false, .mv (.c (.int .i64 0))⟩]

def f_slices_IndexFunc_tremor_Event_r1 : List Abs.Op := [
  ⟨some 6, none, false, .mv (.t 0)⟩,
  ⟨some 7, none, false, .lenS (.t 6)⟩,
  ⟨some 8, none, false, .mv (.c (.int .i64 0))⟩]

def f_slices_IndexFunc_tremor_Event_r2 : List Abs.Op := [
  ⟨some 9, none, false, .bin .lss (.t 8) (.t 7)⟩]

def f_slices_IndexFunc_tremor_Event_r3 : List Abs.Op := [
  ⟨some 10, none, false, .mv (.t 8)⟩,
  ⟨some 5, none, false, .mv (.t 10)⟩]

def f_slices_IndexFunc_tremor_Event_r4 : List Abs.Op := [
  ⟨some 11, none, false, .mv (.t 1)⟩,
  ⟨some 12, none, false, .mv (.t 0)⟩,
  ⟨some 13, none, false, .mv (.t 5)⟩,
  ⟨some 14, none, false, .idxS 2 (.t 12) (.t 13)⟩,
  ⟨some 15, none, false, .ld true 2 (.t 14)⟩,
  ⟨some 16, none, false, .call false (.t 11) [(.t 15)]⟩]

def f_slices_IndexFunc_tremor_Event_r5 : List Abs.Op := [
  ⟨some 17, none, false, .mv (.t 5)⟩,
  ⟨some 4, none, false, .mv (.t 17)⟩]

def f_slices_IndexFunc_tremor_Event_r6 : List Abs.Op := [
  ⟨some 18, none, false, .bin .add (.t 8) (.c (.int .i64 1))⟩,
  ⟨some 8, none, false, .mv (.t 18)⟩]

def f_slices_IndexFunc_tremor_Event_l7 : Abs.Cmd :=
  (.seq (.reg [0, 1, 7, 8, 9] f_slices_IndexFunc_tremor_Event_r2) (.seq (.ite (.t 9) .nop (.exit 0)) (.seq (.blk 1 (.seq (.reg [0, 1, 5, 7, 8] f_slices_IndexFunc_tremor_Event_r3) (.seq (.reg [0, 1, 5, 7, 8, 16] f_slices_IndexFunc_tremor_Event_r4) (.ite (.t 16) (.seq (.reg [4] f_slices_IndexFunc_tremor_Event_r5) .ret) .nop)))) (.reg [0, 1, 7, 8] f_slices_IndexFunc_tremor_Event_r6))))

def f_slices_IndexFunc_tremor_Event_r8 : List Abs.Op := [
  ⟨some 4, none, false, .mv (.c (.int .i64 (-1)))⟩]

def a_slices_IndexFunc_tremor_Event : Ann := ⟨[(7, [4]), (6, [0, 1, 7, 8]), (5, [4]), (4, [0, 1, 5, 7, 8, 16]), (3, [0, 1, 5, 7, 8]), (2, [0, 1, 7, 8, 9]), (1, [0, 1, 7, 8]), (0, [0, 1])], [(0, [0, 1, 7, 8])], [], [], [], [], [], []⟩
def f_slices_IndexFunc_tremor_Event : Abs.Fn := ⟨2, [.t 4],
  (.seq (.reg [0, 1] f_slices_IndexFunc_tremor_Event_r0) (.seq (.seq (.reg [0, 1, 7, 8] f_slices_IndexFunc_tremor_Event_r1) (.blk 0 (.loop [0, 1, 7, 8] false f_slices_IndexFunc_tremor_Event_l7))) (.seq (.reg [4] f_slices_IndexFunc_tremor_Event_r8) .ret)))⟩

theorem e_slices_IndexFunc_tremor_Event_r0 : type_of% f_slices_IndexFunc_tremor_Event_r0.eq_1 := by_rfl f_slices_IndexFunc_tremor_Event_r0.eq_1
theorem e_slices_IndexFunc_tremor_Event_r1 : type_of% f_slices_IndexFunc_tremor_Event_r1.eq_1 := by_rfl f_slices_IndexFunc_tremor_Event_r1.eq_1
theorem e_slices_IndexFunc_tremor_Event_r2 : type_of% f_slices_IndexFunc_tremor_Event_r2.eq_1 := by_rfl f_slices_IndexFunc_tremor_Event_r2.eq_1
theorem e_slices_IndexFunc_tremor_Event_r3 : type_of% f_slices_IndexFunc_tremor_Event_r3.eq_1 := by_rfl f_slices_IndexFunc_tremor_Event_r3.eq_1
theorem e_slices_IndexFunc_tremor_Event_r4 : type_of% f_slices_IndexFunc_tremor_Event_r4.eq_1 := by_rfl f_slices_IndexFunc_tremor_Event_r4.eq_1
theorem e_slices_IndexFunc_tremor_Event_r5 : type_of% f_slices_IndexFunc_tremor_Event_r5.eq_1 := by_rfl f_slices_IndexFunc_tremor_Event_r5.eq_1
theorem e_slices_IndexFunc_tremor_Event_r6 : type_of% f_slices_IndexFunc_tremor_Event_r6.eq_1 := by_rfl f_slices_IndexFunc_tremor_Event_r6.eq_1
theorem e_slices_IndexFunc_tremor_Event_l7 : type_of% f_slices_IndexFunc_tremor_Event_l7.eq_1 := by_rfl f_slices_IndexFunc_tremor_Event_l7.eq_1
theorem e_slices_IndexFunc_tremor_Event_r8 : type_of% f_slices_IndexFunc_tremor_Event_r8.eq_1 := by_rfl f_slices_IndexFunc_tremor_Event_r8.eq_1
theorem e_slices_IndexFunc_tremor_Event : type_of% f_slices_IndexFunc_tremor_Event.eq_1 := by_rfl f_slices_IndexFunc_tremor_Event.eq_1
theorem ok_slices_IndexFunc_tremor_Event : fnC Try.prog a_slices_IndexFunc_tremor_Event Try.f140 = some f_slices_IndexFunc_tremor_Event := by kernel_rfl

/-! 141 slices.IndexFunc[[]fumarole/tremor.Pick,fumarole/tremor.Pick] -/
def f_slices_IndexFunc_tremor_Pick_r0 : List Abs.Op := [
  ⟨some 4, none, false, .mv (.c (.int .i64 0))⟩]

def f_slices_IndexFunc_tremor_Pick_r1 : List Abs.Op := [
  ⟨some 6, none, false, .mv (.t 0)⟩,
  ⟨some 7, none, false, .lenS (.t 6)⟩,
  ⟨some 8, none, false, .mv (.c (.int .i64 0))⟩]

def f_slices_IndexFunc_tremor_Pick_r2 : List Abs.Op := [
  ⟨some 9, none, false, .bin .lss (.t 8) (.t 7)⟩]

def f_slices_IndexFunc_tremor_Pick_r3 : List Abs.Op := [
  ⟨some 10, none, false, .mv (.t 8)⟩,
  ⟨some 5, none, false, .mv (.t 10)⟩]

def f_slices_IndexFunc_tremor_Pick_r4 : List Abs.Op := [
  ⟨some 11, none, false, .mv (.t 1)⟩,
  ⟨some 12, none, false, .mv (.t 0)⟩,
  ⟨some 13, none, false, .mv (.t 5)⟩,
  ⟨some 14, none, false, .idxS 4 (.t 12) (.t 13)⟩,
  ⟨some 15, none, false, .ld true 4 (.t 14)⟩,
  ⟨some 16, none, false, .call false (.t 11) [(.t 15)]⟩]

def f_slices_IndexFunc_tremor_Pick_r5 : List Abs.Op := [
  ⟨some 17, none, false, .mv (.t 5)⟩,
  ⟨some 4, none, false, .mv (.t 17)⟩]

def f_slices_IndexFunc_tremor_Pick_r6 : List Abs.Op := [
  ⟨some 18, none, false, .bin .add (.t 8) (.c (.int .i64 1))⟩,
  ⟨some 8, none, false, .mv (.t 18)⟩]

def f_slices_IndexFunc_tremor_Pick_l7 : Abs.Cmd :=
  (.seq (.reg [0, 1, 7, 8, 9] f_slices_IndexFunc_tremor_Pick_r2) (.seq (.ite (.t 9) .nop (.exit 0)) (.seq (.blk 1 (.seq (.reg [0, 1, 5, 7, 8] f_slices_IndexFunc_tremor_Pick_r3) (.seq (.reg [0, 1, 5, 7, 8, 16] f_slices_IndexFunc_tremor_Pick_r4) (.ite (.t 16) (.seq (.reg [4] f_slices_IndexFunc_tremor_Pick_r5) .ret) .nop)))) (.reg [0, 1, 7, 8] f_slices_IndexFunc_tremor_Pick_r6))))

def f_slices_IndexFunc_tremor_Pick_r8 : List Abs.Op := [
  ⟨some 4, none, false, .mv (.c (.int .i64 (-1)))⟩]

def a_slices_IndexFunc_tremor_Pick : Ann := ⟨[(7, [4]), (6, [0, 1, 7, 8]), (5, [4]), (4, [0, 1, 5, 7, 8, 16]), (3, [0, 1, 5, 7, 8]), (2, [0, 1, 7, 8, 9]), (1, [0, 1, 7, 8]), (0, [0, 1])], [(0, [0, 1, 7, 8])], [], [], [], [], [], []⟩
def f_slices_IndexFunc_tremor_Pick : Abs.Fn := ⟨2, [.t 4],
  (.seq (.reg [0, 1] f_slices_IndexFunc_tremor_Pick_r0) (.seq (.seq (.reg [0, 1, 7, 8] f_slices_IndexFunc_tremor_Pick_r1) (.blk 0 (.loop [0, 1, 7, 8] false f_slices_IndexFunc_tremor_Pick_l7))) (.seq (.reg [4] f_slices_IndexFunc_tremor_Pick_r8) .ret)))⟩

theorem e_slices_IndexFunc_tremor_Pick_r0 : type_of% f_slices_IndexFunc_tremor_Pick_r0.eq_1 := by_rfl f_slices_IndexFunc_tremor_Pick_r0.eq_1
theorem e_slices_IndexFunc_tremor_Pick_r1 : type_of% f_slices_IndexFunc_tremor_Pick_r1.eq_1 := by_rfl f_slices_IndexFunc_tremor_Pick_r1.eq_1
theorem e_slices_IndexFunc_tremor_Pick_r2 : type_of% f_slices_IndexFunc_tremor_Pick_r2.eq_1 := by_rfl f_slices_IndexFunc_tremor_Pick_r2.eq_1
theorem e_slices_IndexFunc_tremor_Pick_r3 : type_of% f_slices_IndexFunc_tremor_Pick_r3.eq_1 := by_rfl f_slices_IndexFunc_tremor_Pick_r3.eq_1
theorem e_slices_IndexFunc_tremor_Pick_r4 : type_of% f_slices_IndexFunc_tremor_Pick_r4.eq_1 := by_rfl f_slices_IndexFunc_tremor_Pick_r4.eq_1
theorem e_slices_IndexFunc_tremor_Pick_r5 : type_of% f_slices_IndexFunc_tremor_Pick_r5.eq_1 := by_rfl f_slices_IndexFunc_tremor_Pick_r5.eq_1
theorem e_slices_IndexFunc_tremor_Pick_r6 : type_of% f_slices_IndexFunc_tremor_Pick_r6.eq_1 := by_rfl f_slices_IndexFunc_tremor_Pick_r6.eq_1
theorem e_slices_IndexFunc_tremor_Pick_l7 : type_of% f_slices_IndexFunc_tremor_Pick_l7.eq_1 := by_rfl f_slices_IndexFunc_tremor_Pick_l7.eq_1
theorem e_slices_IndexFunc_tremor_Pick_r8 : type_of% f_slices_IndexFunc_tremor_Pick_r8.eq_1 := by_rfl f_slices_IndexFunc_tremor_Pick_r8.eq_1
theorem e_slices_IndexFunc_tremor_Pick : type_of% f_slices_IndexFunc_tremor_Pick.eq_1 := by_rfl f_slices_IndexFunc_tremor_Pick.eq_1
theorem ok_slices_IndexFunc_tremor_Pick : fnC Try.prog a_slices_IndexFunc_tremor_Pick Try.f141 = some f_slices_IndexFunc_tremor_Pick := by kernel_rfl

/-! 142 slices.IndexFunc[[]fumarole/tremor.Station,fumarole/tremor.Station] -/
def f_slices_IndexFunc_tremor_Station_r0 : List Abs.Op := [
  ⟨some 4, none, false, .mv (.c (.int .i64 0))⟩]

def f_slices_IndexFunc_tremor_Station_r1 : List Abs.Op := [
  ⟨some 6, none, false, .mv (.t 0)⟩,
  ⟨some 7, none, false, .lenS (.t 6)⟩,
  ⟨some 8, none, false, .mv (.c (.int .i64 0))⟩]

def f_slices_IndexFunc_tremor_Station_r2 : List Abs.Op := [
  ⟨some 9, none, false, .bin .lss (.t 8) (.t 7)⟩]

def f_slices_IndexFunc_tremor_Station_r3 : List Abs.Op := [
  ⟨some 10, none, false, .mv (.t 8)⟩,
  ⟨some 5, none, false, .mv (.t 10)⟩]

def f_slices_IndexFunc_tremor_Station_r4 : List Abs.Op := [
  ⟨some 11, none, false, .mv (.t 1)⟩,
  ⟨some 12, none, false, .mv (.t 0)⟩,
  ⟨some 13, none, false, .mv (.t 5)⟩,
  ⟨some 14, none, false, .idxS 4 (.t 12) (.t 13)⟩,
  ⟨some 15, none, false, .ld true 4 (.t 14)⟩,
  ⟨some 16, none, false, .call false (.t 11) [(.t 15)]⟩]

def f_slices_IndexFunc_tremor_Station_r5 : List Abs.Op := [
  ⟨some 17, none, false, .mv (.t 5)⟩,
  ⟨some 4, none, false, .mv (.t 17)⟩]

def f_slices_IndexFunc_tremor_Station_r6 : List Abs.Op := [
  ⟨some 18, none, false, .bin .add (.t 8) (.c (.int .i64 1))⟩,
  ⟨some 8, none, false, .mv (.t 18)⟩]

def f_slices_IndexFunc_tremor_Station_l7 : Abs.Cmd :=
  (.seq (.reg [0, 1, 7, 8, 9] f_slices_IndexFunc_tremor_Station_r2) (.seq (.ite (.t 9) .nop (.exit 0)) (.seq (.blk 1 (.seq (.reg [0, 1, 5, 7, 8] f_slices_IndexFunc_tremor_Station_r3) (.seq (.reg [0, 1, 5, 7, 8, 16] f_slices_IndexFunc_tremor_Station_r4) (.ite (.t 16) (.seq (.reg [4] f_slices_IndexFunc_tremor_Station_r5) .ret) .nop)))) (.reg [0, 1, 7, 8] f_slices_IndexFunc_tremor_Station_r6))))

def f_slices_IndexFunc_tremor_Station_r8 : List Abs.Op := [
  ⟨some 4, none, false, .mv (.c (.int .i64 (-1)))⟩]

def a_slices_IndexFunc_tremor_Station : Ann := ⟨[(7, [4]), (6, [0, 1, 7, 8]), (5, [4]), (4, [0, 1, 5, 7, 8, 16]), (3, [0, 1, 5, 7, 8]), (2, [0, 1, 7, 8, 9]), (1, [0, 1, 7, 8]), (0, [0, 1])], [(0, [0, 1, 7, 8])], [], [], [], [], [], []⟩
def f_slices_IndexFunc_tremor_Station : Abs.Fn := ⟨2, [.t 4],
  (.seq (.reg [0, 1] f_slices_IndexFunc_tremor_Station_r0) (.seq (.seq (.reg [0, 1, 7, 8] f_slices_IndexFunc_tremor_Station_r1) (.blk 0 (.loop [0, 1, 7, 8] false f_slices_IndexFunc_tremor_Station_l7))) (.seq (.reg [4] f_slices_IndexFunc_tremor_Station_r8) .ret)))⟩

theorem e_slices_IndexFunc_tremor_Station_r0 : type_of% f_slices_IndexFunc_tremor_Station_r0.eq_1 := by_rfl f_slices_IndexFunc_tremor_Station_r0.eq_1
theorem e_slices_IndexFunc_tremor_Station_r1 : type_of% f_slices_IndexFunc_tremor_Station_r1.eq_1 := by_rfl f_slices_IndexFunc_tremor_Station_r1.eq_1
theorem e_slices_IndexFunc_tremor_Station_r2 : type_of% f_slices_IndexFunc_tremor_Station_r2.eq_1 := by_rfl f_slices_IndexFunc_tremor_Station_r2.eq_1
theorem e_slices_IndexFunc_tremor_Station_r3 : type_of% f_slices_IndexFunc_tremor_Station_r3.eq_1 := by_rfl f_slices_IndexFunc_tremor_Station_r3.eq_1
theorem e_slices_IndexFunc_tremor_Station_r4 : type_of% f_slices_IndexFunc_tremor_Station_r4.eq_1 := by_rfl f_slices_IndexFunc_tremor_Station_r4.eq_1
theorem e_slices_IndexFunc_tremor_Station_r5 : type_of% f_slices_IndexFunc_tremor_Station_r5.eq_1 := by_rfl f_slices_IndexFunc_tremor_Station_r5.eq_1
theorem e_slices_IndexFunc_tremor_Station_r6 : type_of% f_slices_IndexFunc_tremor_Station_r6.eq_1 := by_rfl f_slices_IndexFunc_tremor_Station_r6.eq_1
theorem e_slices_IndexFunc_tremor_Station_l7 : type_of% f_slices_IndexFunc_tremor_Station_l7.eq_1 := by_rfl f_slices_IndexFunc_tremor_Station_l7.eq_1
theorem e_slices_IndexFunc_tremor_Station_r8 : type_of% f_slices_IndexFunc_tremor_Station_r8.eq_1 := by_rfl f_slices_IndexFunc_tremor_Station_r8.eq_1
theorem e_slices_IndexFunc_tremor_Station : type_of% f_slices_IndexFunc_tremor_Station.eq_1 := by_rfl f_slices_IndexFunc_tremor_Station.eq_1
theorem ok_slices_IndexFunc_tremor_Station : fnC Try.prog a_slices_IndexFunc_tremor_Station Try.f142 = some f_slices_IndexFunc_tremor_Station := by kernel_rfl

/-! 143 slices.IndexFunc[[]fumarole/tremor.Row,fumarole/tremor.Row] -/
def f_slices_IndexFunc_tremor_Row_r0 : List Abs.Op := [
  ⟨some 4, none, false, .mv (.c (.int .i64 0))⟩]

def f_slices_IndexFunc_tremor_Row_r1 : List Abs.Op := [
  ⟨some 6, none, false, .mv (.t 0)⟩,
  ⟨some 7, none, false, .lenS (.t 6)⟩,
  ⟨some 8, none, false, .mv (.c (.int .i64 0))⟩]

def f_slices_IndexFunc_tremor_Row_r2 : List Abs.Op := [
  ⟨some 9, none, false, .bin .lss (.t 8) (.t 7)⟩]

def f_slices_IndexFunc_tremor_Row_r3 : List Abs.Op := [
  ⟨some 10, none, false, .mv (.t 8)⟩,
  ⟨some 5, none, false, .mv (.t 10)⟩]

def f_slices_IndexFunc_tremor_Row_r4 : List Abs.Op := [
  ⟨some 11, none, false, .mv (.t 1)⟩,
  ⟨some 12, none, false, .mv (.t 0)⟩,
  ⟨some 13, none, false, .mv (.t 5)⟩,
  ⟨some 14, none, false, .idxS 2 (.t 12) (.t 13)⟩,
  ⟨some 15, none, false, .ld true 2 (.t 14)⟩,
  ⟨some 16, none, false, .call false (.t 11) [(.t 15)]⟩]

def f_slices_IndexFunc_tremor_Row_r5 : List Abs.Op := [
  ⟨some 17, none, false, .mv (.t 5)⟩,
  ⟨some 4, none, false, .mv (.t 17)⟩]

def f_slices_IndexFunc_tremor_Row_r6 : List Abs.Op := [
  ⟨some 18, none, false, .bin .add (.t 8) (.c (.int .i64 1))⟩,
  ⟨some 8, none, false, .mv (.t 18)⟩]

def f_slices_IndexFunc_tremor_Row_l7 : Abs.Cmd :=
  (.seq (.reg [0, 1, 7, 8, 9] f_slices_IndexFunc_tremor_Row_r2) (.seq (.ite (.t 9) .nop (.exit 0)) (.seq (.blk 1 (.seq (.reg [0, 1, 5, 7, 8] f_slices_IndexFunc_tremor_Row_r3) (.seq (.reg [0, 1, 5, 7, 8, 16] f_slices_IndexFunc_tremor_Row_r4) (.ite (.t 16) (.seq (.reg [4] f_slices_IndexFunc_tremor_Row_r5) .ret) .nop)))) (.reg [0, 1, 7, 8] f_slices_IndexFunc_tremor_Row_r6))))

def f_slices_IndexFunc_tremor_Row_r8 : List Abs.Op := [
  ⟨some 4, none, false, .mv (.c (.int .i64 (-1)))⟩]

def a_slices_IndexFunc_tremor_Row : Ann := ⟨[(7, [4]), (6, [0, 1, 7, 8]), (5, [4]), (4, [0, 1, 5, 7, 8, 16]), (3, [0, 1, 5, 7, 8]), (2, [0, 1, 7, 8, 9]), (1, [0, 1, 7, 8]), (0, [0, 1])], [(0, [0, 1, 7, 8])], [], [], [], [], [], []⟩
def f_slices_IndexFunc_tremor_Row : Abs.Fn := ⟨2, [.t 4],
  (.seq (.reg [0, 1] f_slices_IndexFunc_tremor_Row_r0) (.seq (.seq (.reg [0, 1, 7, 8] f_slices_IndexFunc_tremor_Row_r1) (.blk 0 (.loop [0, 1, 7, 8] false f_slices_IndexFunc_tremor_Row_l7))) (.seq (.reg [4] f_slices_IndexFunc_tremor_Row_r8) .ret)))⟩

theorem e_slices_IndexFunc_tremor_Row_r0 : type_of% f_slices_IndexFunc_tremor_Row_r0.eq_1 := by_rfl f_slices_IndexFunc_tremor_Row_r0.eq_1
theorem e_slices_IndexFunc_tremor_Row_r1 : type_of% f_slices_IndexFunc_tremor_Row_r1.eq_1 := by_rfl f_slices_IndexFunc_tremor_Row_r1.eq_1
theorem e_slices_IndexFunc_tremor_Row_r2 : type_of% f_slices_IndexFunc_tremor_Row_r2.eq_1 := by_rfl f_slices_IndexFunc_tremor_Row_r2.eq_1
theorem e_slices_IndexFunc_tremor_Row_r3 : type_of% f_slices_IndexFunc_tremor_Row_r3.eq_1 := by_rfl f_slices_IndexFunc_tremor_Row_r3.eq_1
theorem e_slices_IndexFunc_tremor_Row_r4 : type_of% f_slices_IndexFunc_tremor_Row_r4.eq_1 := by_rfl f_slices_IndexFunc_tremor_Row_r4.eq_1
theorem e_slices_IndexFunc_tremor_Row_r5 : type_of% f_slices_IndexFunc_tremor_Row_r5.eq_1 := by_rfl f_slices_IndexFunc_tremor_Row_r5.eq_1
theorem e_slices_IndexFunc_tremor_Row_r6 : type_of% f_slices_IndexFunc_tremor_Row_r6.eq_1 := by_rfl f_slices_IndexFunc_tremor_Row_r6.eq_1
theorem e_slices_IndexFunc_tremor_Row_l7 : type_of% f_slices_IndexFunc_tremor_Row_l7.eq_1 := by_rfl f_slices_IndexFunc_tremor_Row_l7.eq_1
theorem e_slices_IndexFunc_tremor_Row_r8 : type_of% f_slices_IndexFunc_tremor_Row_r8.eq_1 := by_rfl f_slices_IndexFunc_tremor_Row_r8.eq_1
theorem e_slices_IndexFunc_tremor_Row : type_of% f_slices_IndexFunc_tremor_Row.eq_1 := by_rfl f_slices_IndexFunc_tremor_Row.eq_1
theorem ok_slices_IndexFunc_tremor_Row : fnC Try.prog a_slices_IndexFunc_tremor_Row Try.f143 = some f_slices_IndexFunc_tremor_Row := by kernel_rfl

end Go.Proofs.Yticpenoicajakaa
